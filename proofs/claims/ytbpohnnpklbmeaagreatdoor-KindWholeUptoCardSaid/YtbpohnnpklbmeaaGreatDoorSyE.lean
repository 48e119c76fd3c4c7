/-
  Contracts: the code lowered, what it does told by rules, and the contracts of the functions that the law reaches.
-/
import Derived.Test.YtbpohnnpklbmeaaGreatDoorSyD
import Derived.Test.YtbpohnnpklbmeaaGreatDoorProg
import Derived.KernelRfl
import Derived.Shelf.LaysC
import Derived.Shelf.Strconv.ParseIntPublic10
set_option linter.unusedVariables false
set_option linter.unusedSimpArgs false
open Int renaming reduceToNat → Qaa, natCast_zero → Qam, zero_add → Qaq, ofNat → Qbg, eq_ofNat_of_zero_le → Qbs, natCast_nonneg → Qce
open Nat renaming reduceAdd → Qab, reduceSub → Qac, reduceMul → Qad, reduceBEq → Qae, ble → Qao, le_refl → Qap, beq → Qas, mul → Qat, le_trans → Qau, succ → QaB, add → QaE, le_max_right → QaF, le_max_left → QaI, mul_le_mul_right → QaK, zero_le → QaM, lt_of_lt_of_le → QaN, zero_add → QaO, lt_or_ge → QaS, sub → Qbd, sub_zero → Qbh, not_lt_zero → Qbl, succ_pos → Qbq, add_mul → Qbr, zero_mul → Qbu, succ_mul → Qbv, le_of_eq → QbI, mod_eq_of_lt → QbJ, succ_lt_succ → QbL, add_assoc → QbO, lt_irrefl → Qcb, min_eq_left → Qcd, add_zero → Qci, ne_of_lt → Qck, add_comm → Qcq, le_of_lt → Qcr, lt_trichotomy → Qcu, le_succ_of_le → Qcv
open Go.Proofs.Tryz renaming prog → Qaf
open List renaming getD_cons_zero → Qag, getD_cons_succ → Qah, map_cons → Qai, map_nil → Qaj, length_cons → Qak, length_append → Qal, length_nil → Qan, getElem?_eq_getElem → Qav, cons_append → Qaw, getElem_mem → Qax, all_eq_true → Qaz, getD_eq_getElem?_getD → QaC, take_length → QaD, nil_append → QaG, range' → QaH, length_take → QaJ, getD → QaL, length_map → QaP, length_drop → QaQ, range → QaT, eq_nil_of_length_eq_zero → QaV, append_assoc → QaW, cons → QaX, take_zero → Qbe, all_cons → Qbf, append_nil → Qbi, all_append → Qbj, mem_append → Qbk, mem_map → Qbn, getElem_cons_zero → Qbo, getElem_cons_succ → Qbp, mem_cons → Qbt, map_congr_left → Qbw, take_append_drop → Qby, range'_succ → Qbz, drop_zero → QbA, getElem_cons_drop → QbD, map_map → QbG, mem_iff_getElem → QbH, getElem?_take → QbM, mem_singleton → QbN, getElem?_append_right → QbP, getElem?_map → QbQ, mem_of_mem_take → QbR, getElem?_append_left → QbT, mem_cons_of_mem → QbU, drop_drop → QbV, ext_getElem → QbW, map_toArray → QbX, take_succ_cons → QbY, length_pos_iff → QbZ, getElem?_drop → Qcc, map_append → Qcf, take_add_one → Qcg, foldl_append → Qch, countP_singleton → Qcj, drop_length → Qcm, foldr_cons → Qcp, take_take → Qcs
open Bool renaming and_eq_true → Qar, eq_iff_iff → QaU, false_eq_true → QaY, or_eq_true → QaZ, not_eq_true' → Qbc, true_eq_false → QbF, or_eq_false_iff → QbS
open Array renaming length_toList → Qay, getElem?_eq_some_iff → QaA, replicate → Qbb, getD_eq_getD_getElem? → QbB, getElem?_toList → QbE, toList_map → QbK, getElem?_setIfInBounds_ne → Qca, mem_toList_iff → Qcl, toList_append → Qcn, getElem?_eq_getElem → Qco
open Option renaming map_some → QaR, getD_some → Qba, bind_some → Qbm, map_none → Qbx, map_eq_some_iff → QbC
open Function renaming comp_def → Qct
noncomputable section
set_option maxRecDepth 100000
namespace Go.Sy
open Go.Ev Go.Proofs
variable {base:Bs}
structure VarT where
 name:List Nat
 kind:Int
 enum:List Nat
 lo:Int
 hi:Int
 beg:Bool
 first:Int
def vaE (v:VarT):List AV:=[.str v.name,.int .i64 v.kind,.str v.enum,.int .i64 v.lo,.int .i64 v.hi,.bool v.beg,.int .i64 v.first]
structure SetT where
 var:Int
 to:Ex
def seE (s:SetT):List AV:=.int .i64 s.var :: eE s.to
structure MoveT where
 when:Ex
 acts:List SetT
def moE (m:MoveT):List AV:=eE m.when ++ [.lst m.acts.length (fl seE m.acts)]
structure ModT where
 vars:List VarT
 enums:List EnumT
 moves:List MoveT
def mdE (m:ModT):List AV:=[.lst m.vars.length (fl vaE m.vars),.lst m.enums.length (fl enE m.enums),.lst m.moves.length (fl moE m.moves)]
structure MtT where
 kind:Int
 enum:List Nat
 lo:Int
 hi:Int
def mtE (m:MtT):List AV:=[.int .i64 m.kind,.str m.enum,.int .i64 m.lo,.int .i64 m.hi]
theorem ut (v:VarT):vaE v=[.str v.name,.int .i64 v.kind,.str v.enum,.int .i64 v.lo,.int .i64 v.hi,.bool v.beg,.int .i64 v.first]:=rfl
theorem QO (v:VarT):(vaE v).length=7:=nr (by rw [ut]; rfl)
theorem GS (v:VarT)(k:Nat):(vaE v).getD k .bad=([.str v.name,.int .i64 v.kind,.str v.enum,.int .i64 v.lo,.int .i64 v.hi,.bool v.beg,.int .i64 v.first]:List AV).getD k .bad:=nr (by rw [ut])
theorem ji1 (v:VarT)(k:Nat):(vaE v).drop k=([.str v.name,.int .i64 v.kind,.str v.enum,.int .i64 v.lo,.int .i64 v.hi,.bool v.beg,.int .i64 v.first]:List AV).drop k:=nr (by rw [ut])
theorem GT (v:VarT):lall AV.cell (vaE v)=true:=nr (by rw [ut]; rfl)
theorem Xk (v:VarT):(vaE v).all pc=true:=nr (by rw [ut]; rfl)
theorem ji0 {st:St}{K:AV->St->Prop}{xs:List VarT}{i:Nat}(h:i<xs.length):jk (yX 7 (.lptr (fl vaE xs) (i * 7)) st) K=K (.agg (vaE xs[i])) st:=QP QO h
theorem jeP {st:St}{K:AV->St->Prop}{xs:List VarT}{i:Nat}(h:i<xs.length){k:Nat}(hk:k<7):jk (ya (.lptr (fl vaE xs) (i * 7+k)) st) K=K ((vaE xs[i]).getD k .bad) st:=qX QO h hk
theorem jeQ {st:St}{K:AV->St->Prop}{xs:List VarT}{i:Nat}(h:i<xs.length):jk (ya (.lptr (fl vaE xs) (i * 7)) st) K=K ((vaE xs[i]).getD 0 .bad) st:=qX (k:=0) QO h (by decide)
theorem jt:type_of% (aI @QO (aI @GS (aI @ji1 (aI @GT (aI @ji0 (aI @jeQ @jeP)))))):=aI @QO (aI @GS (aI @ji1 (aI @GT (aI @ji0 (aI @jeQ @jeP)))))
theorem YO:type_of% (aI @QO (aI @GT @GS)):=aI @QO (aI @GT @GS)
theorem UY (s:SetT):seE s=[.int .i64 s.var,.int .i64 s.to.op,.int .i64 s.to.num,.str s.to.name,.lst s.to.kids.length (fl eE s.to.kids),.int .i64 s.to.line,.int .i64 s.to.col]:=(by unfold seE; rw [qv])
theorem wQ (s:SetT):(seE s).length=7:=nr (by rw [UY]; rfl)
theorem G7 (s:SetT)(k:Nat):(seE s).getD k .bad=([.int .i64 s.var,.int .i64 s.to.op,.int .i64 s.to.num,.str s.to.name,.lst s.to.kids.length (fl eE s.to.kids),.int .i64 s.to.line,.int .i64 s.to.col]:List AV).getD k .bad:=nr (by rw [UY])
theorem jjk (s:SetT)(k:Nat):(seE s).drop k=([.int .i64 s.var,.int .i64 s.to.op,.int .i64 s.to.num,.str s.to.name,.lst s.to.kids.length (fl eE s.to.kids),.int .i64 s.to.line,.int .i64 s.to.col]:List AV).drop k:=nr (by rw [UY])
theorem G8 (s:SetT):lall AV.cell (seE s)=true:=nr (by rw [UY]; rfl)
theorem YT (s:SetT):(seE s).all pc=true:=nr (by rw [UY]; rfl)
theorem jjj {st:St}{K:AV->St->Prop}{xs:List SetT}{i:Nat}(h:i<xs.length):jk (yX 7 (.lptr (fl seE xs) (i * 7)) st) K=K (.agg (seE xs[i])) st:=QP wQ h
theorem jfv {st:St}{K:AV->St->Prop}{xs:List SetT}{i:Nat}(h:i<xs.length){k:Nat}(hk:k<7):jk (ya (.lptr (fl seE xs) (i * 7+k)) st) K=K ((seE xs[i]).getD k .bad) st:=qX wQ h hk
theorem jfw {st:St}{K:AV->St->Prop}{xs:List SetT}{i:Nat}(h:i<xs.length):jk (ya (.lptr (fl seE xs) (i * 7)) st) K=K ((seE xs[i]).getD 0 .bad) st:=qX (k:=0) wQ h (by decide)
theorem ju:type_of% (aI @wQ (aI @G7 (aI @jjk (aI @G8 (aI @jjj (aI @jfw @jfv)))))):=aI @wQ (aI @G7 (aI @jjk (aI @G8 (aI @jjj (aI @jfw @jfv)))))
theorem YU:type_of% (aI @wQ (aI @G8 @G7)):=aI @wQ (aI @G8 @G7)
theorem kC (m:MoveT):moE m=[.int .i64 m.when.op,.int .i64 m.when.num,.str m.when.name,.lst m.when.kids.length (fl eE m.when.kids),.int .i64 m.when.line,.int .i64 m.when.col,.lst m.acts.length (fl seE m.acts)]:=(by unfold moE; rw [qv]; rfl)
theorem uK (m:MoveT):(moE m).length=7:=nr (by rw [kC]; rfl)
theorem Hl (m:MoveT)(k:Nat):(moE m).getD k .bad=([.int .i64 m.when.op,.int .i64 m.when.num,.str m.when.name,.lst m.when.kids.length (fl eE m.when.kids),.int .i64 m.when.line,.int .i64 m.when.col,.lst m.acts.length (fl seE m.acts)]:List AV).getD k .bad:=nr (by rw [kC])
theorem jjw (m:MoveT)(k:Nat):(moE m).drop k=([.int .i64 m.when.op,.int .i64 m.when.num,.str m.when.name,.lst m.when.kids.length (fl eE m.when.kids),.int .i64 m.when.line,.int .i64 m.when.col,.lst m.acts.length (fl seE m.acts)]:List AV).drop k:=nr (by rw [kC])
theorem Hm (m:MoveT):lall AV.cell (moE m)=true:=nr (by rw [kC]; rfl)
theorem Y0 (m:MoveT):(moE m).all pc=true:=nr (by rw [kC]; rfl)
theorem jjv {st:St}{K:AV->St->Prop}{xs:List MoveT}{i:Nat}(h:i<xs.length):jk (yX 7 (.lptr (fl moE xs) (i * 7)) st) K=K (.agg (moE xs[i])) st:=QP uK h
theorem jfY {st:St}{K:AV->St->Prop}{xs:List MoveT}{i:Nat}(h:i<xs.length){k:Nat}(hk:k<7):jk (ya (.lptr (fl moE xs) (i * 7+k)) st) K=K ((moE xs[i]).getD k .bad) st:=qX uK h hk
theorem jfZ {st:St}{K:AV->St->Prop}{xs:List MoveT}{i:Nat}(h:i<xs.length):jk (ya (.lptr (fl moE xs) (i * 7)) st) K=K ((moE xs[i]).getD 0 .bad) st:=qX (k:=0) uK h (by decide)
theorem jx:type_of% (aI @uK (aI @Hl (aI @jjw (aI @Hm (aI @jjv (aI @jfZ @jfY)))))):=aI @uK (aI @Hl (aI @jjw (aI @Hm (aI @jjv (aI @jfZ @jfY)))))
theorem Y1:type_of% (aI @uK (aI @Hm @Hl)):=aI @uK (aI @Hm @Hl)
theorem Vu (m:ModT):mdE m=[.lst m.vars.length (fl vaE m.vars),.lst m.enums.length (fl enE m.enums),.lst m.moves.length (fl moE m.moves)]:=rfl
theorem uL (m:ModT):(mdE m).length=3:=nr (by rw [Vu]; rfl)
theorem Ho (m:ModT)(k:Nat):(mdE m).getD k .bad=([.lst m.vars.length (fl vaE m.vars),.lst m.enums.length (fl enE m.enums),.lst m.moves.length (fl moE m.moves)]:List AV).getD k .bad:=nr (by rw [Vu])
theorem jjA (m:ModT)(k:Nat):(mdE m).drop k=([.lst m.vars.length (fl vaE m.vars),.lst m.enums.length (fl enE m.enums),.lst m.moves.length (fl moE m.moves)]:List AV).drop k:=nr (by rw [Vu])
theorem Hp (m:ModT):lall AV.cell (mdE m)=true:=nr (by rw [Vu]; rfl)
theorem Y2 (m:ModT):(mdE m).all pc=true:=nr (by rw [Vu]; rfl)
theorem jjz (m:ModT):(mdE m).all eqs=true:=nr (by rw [Vu]; rfl)
theorem jjy {st:St}{K:AV->St->Prop}{xs:List ModT}{i:Nat}(h:i<xs.length):jk (yX 3 (.lptr (fl mdE xs) (i * 3)) st) K=K (.agg (mdE xs[i])) st:=QP uL h
theorem jf1 {st:St}{K:AV->St->Prop}{xs:List ModT}{i:Nat}(h:i<xs.length){k:Nat}(hk:k<3):jk (ya (.lptr (fl mdE xs) (i * 3+k)) st) K=K ((mdE xs[i]).getD k .bad) st:=qX uL h hk
theorem jf2 {st:St}{K:AV->St->Prop}{xs:List ModT}{i:Nat}(h:i<xs.length):jk (ya (.lptr (fl mdE xs) (i * 3)) st) K=K ((mdE xs[i]).getD 0 .bad) st:=qX (k:=0) uL h (by decide)
theorem jy:type_of% (aI @uL (aI @Ho (aI @jjA (aI @Hp (aI @jjy (aI @jf2 @jf1)))))):=aI @uL (aI @Ho (aI @jjA (aI @Hp (aI @jjy (aI @jf2 @jf1)))))
theorem Y3:type_of% (aI @uL (aI @Hp @Ho)):=aI @uL (aI @Hp @Ho)
theorem kz (m:MtT):mtE m=[.int .i64 m.kind,.str m.enum,.int .i64 m.lo,.int .i64 m.hi]:=rfl
theorem Xp (m:MtT):(mtE m).length=4:=nr (by rw [kz]; rfl)
theorem Vt (m:MtT)(k:Nat):(mtE m).getD k .bad=([.int .i64 m.kind,.str m.enum,.int .i64 m.lo,.int .i64 m.hi]:List AV).getD k .bad:=nr (by rw [kz])
theorem jju (m:MtT)(k:Nat):(mtE m).drop k=([.int .i64 m.kind,.str m.enum,.int .i64 m.lo,.int .i64 m.hi]:List AV).drop k:=nr (by rw [kz])
theorem Hk (m:MtT):lall AV.cell (mtE m)=true:=nr (by rw [kz]; rfl)
theorem Yl (m:MtT):(mtE m).all pc=true:=nr (by rw [kz]; rfl)
theorem Hj {st:St}{K:AV->St->Prop}{xs:List MtT}{i:Nat}(h:i<xs.length):jk (yX 4 (.lptr (fl mtE xs) (i * 4)) st) K=K (.agg (mtE xs[i])) st:=QP Xp h
theorem jfW {st:St}{K:AV->St->Prop}{xs:List MtT}{i:Nat}(h:i<xs.length){k:Nat}(hk:k<4):jk (ya (.lptr (fl mtE xs) (i * 4+k)) st) K=K ((mtE xs[i]).getD k .bad) st:=qX Xp h hk
theorem jfX {st:St}{K:AV->St->Prop}{xs:List MtT}{i:Nat}(h:i<xs.length):jk (ya (.lptr (fl mtE xs) (i * 4)) st) K=K ((mtE xs[i]).getD 0 .bad) st:=qX (k:=0) Xp h (by decide)
theorem jv:type_of% (aI @Xp (aI @Vt (aI @jju (aI @Hk (aI @Hj (aI @jfX @jfW)))))):=aI @Xp (aI @Vt (aI @jju (aI @Hk (aI @Hj (aI @jfX @jfW)))))
theorem YZ:type_of% (aI @Xp (aI @Hk @Vt)):=aI @Xp (aI @Hk @Vt)
theorem dzG {p:Prop}(h:p:=by first | assumption | decide | omega | (simp only [qJ,zi,zc,zh,qY,zd,za,YO,YU,Y1,Y3,YZ,rzN,Qak,Qan]; first | done | omega) | (apply JJ <;> first | omega | ((simp (disch:=first | assumption | omega | (simp only [qJ,zi,zc,zh,qY,zd,za,YO,YU,Y1,Y3,YZ,rzN,Qak,Qan]; first | done | omega)) only [rzL,Qak,Qan,QaO,Qab,qJ,zi,zc,zh,qY,zd,za,YO,YU,Y1,Y3,YZ ]) <;> first | done | omega)) | (simp (disch:=first | assumption | omega | (simp only [qJ,zi,zc,zh,qY,zd,za,YO,YU,Y1,Y3,YZ,rzN,Qak,Qan]; first | done | omega)) only [qJ,zi,zc,zh,qY,zd,za,YO,YU,Y1,Y3,YZ,rzG,Qag,Qah,Qac,Qbh,Qak,Qan,Qaw,QaG]; first | done | omega | decide)):p:=h
theorem qq {p:Prop}(h:p:=by first | assumption | decide | omega | (simp only [qJ,zi,zc,zh,qY,zd,za,YO,YU,Y1,Y3,YZ,zz,rzN,Qak,Qan]; first | done | omega) | (apply JJ <;> first | omega | ((simp (disch:=first | assumption | omega | (simp only [qJ,zi,zc,zh,qY,zd,za,YO,YU,Y1,Y3,YZ,zz,rzN,Qak,Qan]; first | done | omega)) only [rzL,Qak,Qan,QaO,Qab,qJ,zi,zc,zh,qY,zd,za,YO,YU,Y1,Y3,YZ,zz ]) <;> first | done | omega)) | (simp (disch:=first | assumption | omega | (simp only [qJ,zi,zc,zh,qY,zd,za,YO,YU,Y1,Y3,YZ,zz,rzN,Qak,Qan]; first | done | omega)) only [qJ,zi,zc,zh,qY,zd,za,YO,YU,Y1,Y3,YZ,zz,rzG,Qag,Qah,Qac,Qbh,Qak,Qan,Qaw,QaG]; first | done | omega | decide)):p:=h
def kf (c l k:Int):AV:=.iface 30 (.agg [.int .i64 c,.int .i64 l,.int .i64 k])
theorem zB (hb:NB base)(c l k:Int):Ret base 98 [.int .i64 c,.int .i64 l,.int .i64 k] (.pn (kf c l k)):=by
 refine hb.ret ?_ rfl rfl;refine jJ x98 (by rfl) (hb.pur 98 1 (by decide)) ?_;simp only [y98,jm,Qai,Qaj,Qag,Qah];unfold z98;try dsimp only [oo,oO,ot,oT,os,og,oh,oc,on,oN,oP]
 repeat' (first | (apply jc <;> intro _) | simp (disch:=first | exact dzG | fail) only [jd,jo,jn,jf,jt,ju,jx,jy,jv,rzZ,Qab,Qac,Qad,Qaa,Qae])
 exact FzD.iface (FzD.agg (.pc rfl))
theorem jj8 (hb:NB base)(v:VarT)(s:List Nat):Tot base 142 [.agg (vaE v),.lptr [.str s] 0] (.bool (decide (v.name=s))):=by
 refine hb.tot ?_ (by first | rfl | simp [pa,pc,qQ,J9,Jr,zP,Xk,YT,Y0,Y2,Yl]) rfl;refine jJ jpU (by rfl) (hb.pur 142 1 (by decide)) ?_;simp only [jmd,jm,Qai,Qaj,Qag,Qah];unfold jlv;try dsimp only [oo,oO,ot,oT,os,og,oh,oc,on,oN,oP]
 repeat' (first | (apply jc <;> intro _) | simp (disch:=first | exact dzG | fail) only [Jg,jd,jo,jn,jf,jt,ju,jx,jy,jv,rzZ,Qab,Qac,Qad,Qaa,Qae])
 exact G0.v rfl rfl
theorem jix (hb:NB base)(e:EnumT)(d:DeclT):Tot base 101 [.agg (enE e),.lptr (qc d) 0] (.bool (decide (e.name=d.ty))):=by
 refine hb.tot ?_ (by first | rfl | simp [pa,pc,qQ,J9,Jr,zP,Xk,YT,Y0,Y2,Yl]) rfl;refine jJ jqj (by rfl) (hb.pur 101 1 (by decide)) ?_;simp only [jmC,jm,Qai,Qaj,Qag,Qah];unfold jlU;try dsimp only [oo,oO,ot,oT,os,og,oh,oc,on,oN,oP]
 repeat' (first | (apply jc <;> intro _) | simp (disch:=first | exact dzG | fail) only [Jg,jd,jo,jn,jf,jt,ju,jx,jy,jv,rzZ,Qab,Qac,Qad,Qaa,Qae])
 exact G0.v rfl rfl
theorem joy (hb:NB base)(b a:AsT):Tot base 106 [.agg (asE b),.lptr (asE a) 0] (.bool (decide (b.name=a.name))):=by
 refine hb.tot ?_ (by first | rfl | simp [pa,pc,qQ,J9,Jr,zP,Xk,YT,Y0,Y2,Yl]) rfl;refine jJ jqe (by rfl) (hb.pur 106 1 (by decide)) ?_;simp only [jmx,jm,Qai,Qaj,Qag,Qah];unfold jlP;try dsimp only [oo,oO,ot,oT,os,og,oh,oc,on,oN,oP]
 repeat' (first | (apply jc <;> intro _) | simp (disch:=first | exact dzG | fail) only [Jg,jd,jo,jn,jf,jt,ju,jx,jy,jv,rzZ,Qab,Qac,Qad,Qaa,Qae])
 exact G0.v rfl rfl
theorem jgz (hb:NB base)(xs:List VarT)(hl:xs.length≤BIG)(nm:List Nat):PL Qaf base 141 [.lst xs.length (fl vaE xs),.fn 142 [.lptr [.str nm] 0]] (.ok (.int .i64 (fi (λx=>decide (x.name=nm)) xs))):=by
 refine Qh jpV (by rfl) (hb.pur 141 5 (by decide)) rfl ?_;simp only [jme,jm,Qai,Qaj,Qag,Qah];unfold jlw;try dsimp only [oo,oO,ot,oT,os,og,oh,oc,on,oN,oP]
 unfold BIG at hl;repeat' (first | (apply jc <;> intro _) | simp (disch:=first | exact dzG | fail) only [jd,jo,jn,jf,jt,ju,jx,jy,jv,rzZ,Qab,Qac,Qad,Qaa,Qae])
 refine qt xs.length (λk L s=>(∀ j (hj:j<xs.length),j<k->(λx=>decide (x.name=nm)) xs[j]=false)∧Has L 0 (.lst xs.length (fl vaE xs))∧Has L 1 (.fn 142 [.lptr [.str nm] 0])) (by first | assumption | omega) (by decide) (by simp (disch:=decide) only [je,jb]) (by simp (disch:=decide) only [je,jb]) ?_ (λk L s v h=>by simp (disch:=decide) only [jb]; exact h) (λk L s v h=>by simp (disch:=decide) only [jb]; exact h) (λk L s hk hI hi hn=>?_) (λL s hI=>?_)
 ·refine ⟨λj _ hj=>absurd hj (Qbl _),?_⟩;simp (disch:=decide) only [Qam,Qaq,z0,z1,je,jb,and_true,true_and]
 ·obtain ⟨h0,i0,i1⟩:=hI;have e:=jj8 hb xs[k] nm;repeat' (first | (apply jc <;> intro _) | simp (disch:=first | exact dzG | fail) only [ja i0,ja i1,ja hi,ja hn,e,jd,jo,jn,jf,jt,ju,jx,jy,jv,rzZ,Qab,Qac,Qad,Qaa,Qae])
  ·rename_i h;exact G0.v (congrArg _ (uZ hk (λj hj=>h0 j (by omega) hj) (by simpa using h)).symm) rfl
  ·rename_i h;refine ⟨⟨λj hj hjk=>?_,?_⟩,?_⟩
   ·rcases QaS j k with h2 | h2
    ·have:=h0 j hj h2;simpa using this
    ·have:j=k:=by omega
     subst this;simpa using h
   ·simp (disch:=decide) only [Qam,Qaq,z0,z1,je,jb,and_true,true_and,i0,i1]
   ·simp (disch:=decide) only [Qam,Qaq,z0,z1,je,jb,and_true,true_and,hi,hn]
 ·obtain ⟨h0,i0,i1⟩:=hI;repeat' (first | (apply jc <;> intro _) | simp (disch:=first | exact dzG | fail) only [jd,jo,jn,jf,jt,ju,jx,jy,jv,rzZ,Qab,Qac,Qad,Qaa,Qae])
  exact G0.v (congrArg _ (uY λj hj=>h0 j hj hj).symm) rfl
theorem jd0 (hb:NB base)(xs:List EnumT)(hl:xs.length≤BIG)(d:DeclT):PL Qaf base 100 [.lst xs.length (fl enE xs),.fn 101 [.lptr (qc d) 0]] (.ok (.int .i64 (fi (λx=>decide (x.name=d.ty)) xs))):=by
 refine Qh jqk (by rfl) (hb.pur 100 5 (by decide)) rfl ?_;simp only [jmD,jm,Qai,Qaj,Qag,Qah];unfold jlV;try dsimp only [oo,oO,ot,oT,os,og,oh,oc,on,oN,oP]
 unfold BIG at hl;repeat' (first | (apply jc <;> intro _) | simp (disch:=first | exact dzG | fail) only [jd,jo,jn,jf,jt,ju,jx,jy,jv,rzZ,Qab,Qac,Qad,Qaa,Qae])
 refine qt xs.length (λk L s=>(∀ j (hj:j<xs.length),j<k->(λx=>decide (x.name=d.ty)) xs[j]=false)∧Has L 0 (.lst xs.length (fl enE xs))∧Has L 1 (.fn 101 [.lptr (qc d) 0])) (by first | assumption | omega) (by decide) (by simp (disch:=decide) only [je,jb]) (by simp (disch:=decide) only [je,jb]) ?_ (λk L s v h=>by simp (disch:=decide) only [jb]; exact h) (λk L s v h=>by simp (disch:=decide) only [jb]; exact h) (λk L s hk hI hi hn=>?_) (λL s hI=>?_)
 ·refine ⟨λj _ hj=>absurd hj (Qbl _),?_⟩;simp (disch:=decide) only [Qam,Qaq,z0,z1,je,jb,and_true,true_and]
 ·obtain ⟨h0,i0,i1⟩:=hI;have e:=jix hb xs[k] d;repeat' (first | (apply jc <;> intro _) | simp (disch:=first | exact dzG | fail) only [ja i0,ja i1,ja hi,ja hn,e,jd,jo,jn,jf,jt,ju,jx,jy,jv,rzZ,Qab,Qac,Qad,Qaa,Qae])
  ·rename_i h;exact G0.v (congrArg _ (uZ hk (λj hj=>h0 j (by omega) hj) (by simpa using h)).symm) rfl
  ·rename_i h;refine ⟨⟨λj hj hjk=>?_,?_⟩,?_⟩
   ·rcases QaS j k with h2 | h2
    ·have:=h0 j hj h2;simpa using this
    ·have:j=k:=by omega
     subst this;simpa using h
   ·simp (disch:=decide) only [Qam,Qaq,z0,z1,je,jb,and_true,true_and,i0,i1]
   ·simp (disch:=decide) only [Qam,Qaq,z0,z1,je,jb,and_true,true_and,hi,hn]
 ·obtain ⟨h0,i0,i1⟩:=hI;repeat' (first | (apply jc <;> intro _) | simp (disch:=first | exact dzG | fail) only [jd,jo,jn,jf,jt,ju,jx,jy,jv,rzZ,Qab,Qac,Qad,Qaa,Qae])
  exact G0.v (congrArg _ (uY λj hj=>h0 j hj hj).symm) rfl
theorem jiq (hb:NB base)(xs:List AsT)(hl:xs.length≤BIG)(a:AsT):PL Qaf base 143 [.lst xs.length (fl asE xs),.fn 106 [.lptr (asE a) 0]] (.ok (.int .i64 (fi (λx=>decide (x.name=a.name)) xs))):=by
 refine Qh jpT (by rfl) (hb.pur 143 5 (by decide)) rfl ?_;simp only [jmc,jm,Qai,Qaj,Qag,Qah];unfold jhw;try dsimp only [oo,oO,ot,oT,os,og,oh,oc,on,oN,oP]
 unfold BIG at hl;repeat' (first | (apply jc <;> intro _) | simp (disch:=first | exact dzG | fail) only [jd,jo,jn,jf,jt,ju,jx,jy,jv,rzZ,Qab,Qac,Qad,Qaa,Qae])
 refine qt xs.length (λk L s=>(∀ j (hj:j<xs.length),j<k->(λx=>decide (x.name=a.name)) xs[j]=false)∧Has L 0 (.lst xs.length (fl asE xs))∧Has L 1 (.fn 106 [.lptr (asE a) 0])) (by first | assumption | omega) (by decide) (by simp (disch:=decide) only [je,jb]) (by simp (disch:=decide) only [je,jb]) ?_ (λk L s v h=>by simp (disch:=decide) only [jb]; exact h) (λk L s v h=>by simp (disch:=decide) only [jb]; exact h) (λk L s hk hI hi hn=>?_) (λL s hI=>?_)
 ·refine ⟨λj _ hj=>absurd hj (Qbl _),?_⟩;simp (disch:=decide) only [Qam,Qaq,z0,z1,je,jb,and_true,true_and]
 ·obtain ⟨h0,i0,i1⟩:=hI;have e:=joy hb xs[k] a;repeat' (first | (apply jc <;> intro _) | simp (disch:=first | exact dzG | fail) only [ja i0,ja i1,ja hi,ja hn,e,jd,jo,jn,jf,jt,ju,jx,jy,jv,rzZ,Qab,Qac,Qad,Qaa,Qae])
  ·rename_i h;exact G0.v (congrArg _ (uZ hk (λj hj=>h0 j (by omega) hj) (by simpa using h)).symm) rfl
  ·rename_i h;refine ⟨⟨λj hj hjk=>?_,?_⟩,?_⟩
   ·rcases QaS j k with h2 | h2
    ·have:=h0 j hj h2;simpa using this
    ·have:j=k:=by omega
     subst this;simpa using h
   ·simp (disch:=decide) only [Qam,Qaq,z0,z1,je,jb,and_true,true_and,i0,i1]
   ·simp (disch:=decide) only [Qam,Qaq,z0,z1,je,jb,and_true,true_and,hi,hn]
 ·obtain ⟨h0,i0,i1⟩:=hI;repeat' (first | (apply jc <;> intro _) | simp (disch:=first | exact dzG | fail) only [jd,jo,jn,jf,jt,ju,jx,jy,jv,rzZ,Qab,Qac,Qad,Qaa,Qae])
  exact G0.v (congrArg _ (uY λj hj=>h0 j hj hj).symm) rfl
theorem jkO (hb:NB base)(xs:List AsT)(hl:xs.length≤BIG)(a:AsT):PL Qaf base 105 [.lst xs.length (fl asE xs),.fn 106 [.lptr (asE a) 0]] (.ok (.bool (decide (0≤fi (λx=>decide (x.name=a.name)) xs)))):=by
 refine Qh jqf (by rfl) (hb.pur 105 5 (by decide)) rfl ?_;simp only [jmy,jm,Qai,Qaj,Qag,Qah];unfold jlQ;try dsimp only [oo,oO,ot,oT,os,og,oh,oc,on,oN,oP]
 have F:∀ (st:St) (K Kp:AV->St->Prop),XB Qaf base 143 [.lst xs.length (fl asE xs),.fn 106 [.lptr (asE a) 0]] st K Kp=_:=λst K Kp=>(jiq hb xs hl a).xb (YJ rfl (zY rfl rfl)) (λst=>hb.no 143 (by decide) _ _) K Kp;repeat' (first | (apply jc <;> intro _) | simp (disch:=first | exact dzG | fail) only [F,jd,jo,jn,jf,jt,ju,jx,jy,jv,rzZ,Qab,Qac,Qad,Qaa,Qae])
 exact G0.v rfl rfl
end Go.Sy
end
noncomputable section
set_option maxRecDepth 100000
namespace Go.Sy
open Go.Ev Go.Proofs
variable {base:Bs}
def qW (op:Int):Int×Int:=if op=5∨op=14∨op=15∨op=16 then (1,1) else if op=19∨op=20∨op=21∨op=22 then (1,2) else if op=17∨op=18 then (0,2) else (2,2)
def Yc (op:Int):Bool:=(decide (7≤op) && decide (op≤13)) || (decide (23≤op) && decide (op≤26))
theorem G0.tupi {s:St}{a b:Int}{u:AV}(h:u=.tup [.int .i64 a,.int .i64 b]):G0 u (.tup [.int .i64 a,.int .i64 b]) s:=by
 subst h;exact FzD.tup (.cons (.pc rfl) (.cons (.pc rfl) .nil))
theorem jj7 (hb:NB base)(op:Int):Tot base 137 [.int .i64 op] (.tup [.int .i64 (qW op).1,.int .i64 (qW op).2]):=by
 refine hb.tot ?_ rfl rfl;refine jJ jpZ (by rfl) (hb.pur 137 1 (by decide)) ?_;simp only [jmi,jm,Qai,Qaj,Qag,Qah];unfold jlA;try dsimp only [oo,oO,ot,oT,os,og,oh,oc,on,oN,oP]
 repeat' (first | (apply jc <;> intro _) | simp (disch:=first | exact dzG | fail) only [jd,jo,jn,jf,jt,ju,jx,jy,jv,rzZ,Qab,Qac,Qad,Qaa,Qae])
 all_goals (refine G0.tupi ?_; unfold qW; simp_all)
theorem jm1 (hb:NB base)(op:Int):Tot base 138 [.int .i64 op] (.bool (Yc op)):=by
 refine hb.tot ?_ rfl rfl;refine jJ jpY (by rfl) (hb.pur 138 1 (by decide)) ?_;simp only [jmh,jm,Qai,Qaj,Qag,Qah];unfold jlz;try dsimp only [oo,oO,ot,oT,os,og,oh,oc,on,oN,oP]
 repeat' (first | (apply jc <;> intro _) | simp (disch:=first | exact dzG | fail) only [jd,jo,jn,jf,jt,ju,jx,jy,jv,rzZ,Qab,Qac,Qad,Qaa,Qae])
 all_goals (refine G0.v (congrArg AV.bool ?_) rfl; rw [QaU]; simp only [Yc,QaZ,Qar,decide_eq_true_eq,QaY,QbF,Qbc,decide_eq_false_iff_not,true_iff,false_iff,iff_true,iff_false,not_true_eq_false,not_false_eq_true,ne_eq,eq_self] <;> omega)
def WB:List Int->Int
 | []=>0
 | x :: xs=>xs.foldl min x
def WC:List Int->Int
 | []=>0
 | x :: xs=>xs.foldl max x
theorem jnz {l:List Int}{k:Nat}(h0:0<k)(h:k<l.length):WB (l.take (k+1))=min (WB (l.take k)) l[k]:=by
 match l,k,h0,h with
 | x :: xs,k+1,_,h=>
  have h':k<xs.length:=by simpa using h
  show (xs.take (k+1)).foldl min x=min ((xs.take k).foldl min x) xs[k];rw [zj h',Qch]; rfl
theorem jnA {l:List Int}{k:Nat}(h0:0<k)(h:k<l.length):WC (l.take (k+1))=max (WC (l.take k)) l[k]:=by
 match l,k,h0,h with
 | x :: xs,k+1,_,h=>
  have h':k<xs.length:=by simpa using h
  show (xs.take (k+1)).foldl max x=max ((xs.take k).foldl max x) xs[k];rw [zj h',Qch]; rfl
theorem UM {S:List Int}{k:Nat}{st:St}{K:AV->St->Prop}(h:k<S.length):jk (ya (.lptr (S.map (AV.int .i64)) k) st) K=K (.int .i64 S[k]) st:=by
 rw [Jg (by simpa using h)]
 congr 1
 simp [QaL,h]
theorem jpA (hb:NB base)(l:List Int)(h0:0<l.length)(hl:l.length≤1000000):PX Qaf base 181 [.lst l.length (l.map (AV.int .i64))] (.ok (.int .i64 (WB l))):=by
 have z:¬ ((l.length:Int)<1):=by omega
 have e1:WB (l.take 1)=l[0]:=by match l,h0 with | x :: xs,_=>rfl
 refine jJ jpE (by rfl) (hb.pur 181 1 (by decide)) ?_;simp only [jlX,jm,Qai,Qaj,Qag,Qah];unfold jlg;try dsimp only [oo,oO,ot,oT,os,og,oh,oc,on,oN,oP]
 repeat' (first | (apply jc <;> intro _) | simp (disch:=first | exact dzG | fail) only [z,UM,jd,jo,jn,jf,jt,ju,jx,jy,jv,rzZ,Qab,Qac,Qad,Qaa,Qae])
 refine zo (λmm L s=>∃ k:Nat,1≤k∧k≤l.length∧mm=l.length - k∧Has L 0 (.lst l.length (l.map (AV.int .i64)))∧Has L 3 (.int .i64 (WB (l.take k)))∧Has L 4 (.int .i64 (k:Int))) ?_ (l.length - 1) ?_
 ·rintro m L s ⟨k,hk1,hk,rfl,i0,i3,i4⟩;by_cases hlt:k<l.length
  ·have hlt':(k:Int)<(l.length:Int):=by omega
   have es:=jnz hk1 hlt;have e2:(((k+1:Nat):Int))=(k:Int)+1:=by omega
   repeat' (first | (apply jc <;> intro _) | simp (disch:=first | exact dzG | fail) only [ja i0,ja i3,ja i4,hlt',UM,jd,jo,jn,jf,jt,ju,jx,jy,jv,rzZ,Qab,Qac,Qad,Qaa,Qae])
   refine ⟨l.length - (k+1),by omega,k+1,by omega,by omega,rfl,?_⟩;rw [es];simp (disch:=decide) only [Qam,Qaq,z0,z1,je,jb,and_true,true_and,i0,e2]
  ·have hlt':¬ (k:Int)<(l.length:Int):=by omega
   have hk':k=l.length:=by omega
   subst hk';rw [QaD] at i3;repeat' (first | (apply jc <;> intro _) | simp (disch:=first | exact dzG | fail) only [ja i0,ja i3,ja i4,hlt',jd,jo,jn,jf,jt,ju,jx,jy,jv,rzZ,Qab,Qac,Qad,Qaa,Qae])
   exact G0.v rfl rfl
 ·refine ⟨1,by omega,by omega,rfl,?_⟩;rw [e1];simp (disch:=decide) only [Qam,Qaq,z0,z1,je,jb,and_true,true_and]
theorem jpB (hb:NB base)(l:List Int)(h0:0<l.length)(hl:l.length≤1000000):PX Qaf base 182 [.lst l.length (l.map (AV.int .i64))] (.ok (.int .i64 (WC l))):=by
 have z:¬ ((l.length:Int)<1):=by omega
 have e1:WC (l.take 1)=l[0]:=by match l,h0 with | x :: xs,_=>rfl
 refine jJ jpD (by rfl) (hb.pur 182 1 (by decide)) ?_;simp only [jlW,jm,Qai,Qaj,Qag,Qah];unfold jlf;try dsimp only [oo,oO,ot,oT,os,og,oh,oc,on,oN,oP]
 repeat' (first | (apply jc <;> intro _) | simp (disch:=first | exact dzG | fail) only [z,UM,jd,jo,jn,jf,jt,ju,jx,jy,jv,rzZ,Qab,Qac,Qad,Qaa,Qae])
 refine zo (λmm L s=>∃ k:Nat,1≤k∧k≤l.length∧mm=l.length - k∧Has L 0 (.lst l.length (l.map (AV.int .i64)))∧Has L 3 (.int .i64 (WC (l.take k)))∧Has L 4 (.int .i64 (k:Int))) ?_ (l.length - 1) ?_
 ·rintro m L s ⟨k,hk1,hk,rfl,i0,i3,i4⟩;by_cases hlt:k<l.length
  ·have hlt':(k:Int)<(l.length:Int):=by omega
   have es:=jnA hk1 hlt;have e2:(((k+1:Nat):Int))=(k:Int)+1:=by omega
   repeat' (first | (apply jc <;> intro _) | simp (disch:=first | exact dzG | fail) only [ja i0,ja i3,ja i4,hlt',UM,jd,jo,jn,jf,jt,ju,jx,jy,jv,rzZ,Qab,Qac,Qad,Qaa,Qae])
   refine ⟨l.length - (k+1),by omega,k+1,by omega,by omega,rfl,?_⟩;rw [es];simp (disch:=decide) only [Qam,Qaq,z0,z1,je,jb,and_true,true_and,i0,e2]
  ·have hlt':¬ (k:Int)<(l.length:Int):=by omega
   have hk':k=l.length:=by omega
   subst hk';rw [QaD] at i3;repeat' (first | (apply jc <;> intro _) | simp (disch:=first | exact dzG | fail) only [ja i0,ja i3,ja i4,hlt',jd,jo,jn,jf,jt,ju,jx,jy,jv,rzZ,Qab,Qac,Qad,Qaa,Qae])
   exact G0.v rfl rfl
 ·refine ⟨1,by omega,by omega,rfl,?_⟩;rw [e1];simp (disch:=decide) only [Qam,Qaq,z0,z1,je,jb,and_true,true_and]
theorem jcy:∀ l:List Int,(l.map (AV.int .i64)).all pc=true
 | []=>rfl
 | x :: xs=>by rw [Qai,Qbf,jcy xs]; rfl
theorem joE (hb:NB base)(l:List Int)(h0:0<l.length)(hl:l.length≤1000000):PX Qaf base 166 [.lst l.length (l.map (AV.int .i64))] (.ok (.tup [.int .i64 (WB l),.int .i64 (WC l)])):=by
 have A:=hb.tot (jpA hb l h0 hl) rfl rfl;have B:=hb.tot (jpB hb l h0 hl) rfl rfl;refine jJ jpI (by rfl) (hb.pur 166 1 (by decide)) ?_;simp only [jl1,jm,Qai,Qaj,Qag,Qah];unfold jlk;try dsimp only [oo,oO,ot,oT,os,og,oh,oc,on,oN,oP]
 repeat' (first | (apply jc <;> intro _) | simp (disch:=first | exact dzG | fail) only [A,B,jd,jo,jn,jf,jt,ju,jx,jy,jv,rzZ,Qab,Qac,Qad,Qaa,Qae])
 exact G0.tupi rfl
theorem jfs (hb:NB base)(l:List Int){cs:List AV}{n:Nat}(hc:l.map (AV.int .i64)=cs)(hn:l.length=n)(h0:0<n)(hl:n≤1000000)(st:St)(b m:Nat)(x:Bool)(D:Cl st b cs)(K Kp:AV->St->Prop) :
  XB Qaf base 166 [.slice b 0 n m 1 x] st K Kp=K (.tup [.int .i64 (WB l),.int .i64 (WC l)]) (kl b st):=by
 subst hc hn;have F:Fza st [.slice b 0 l.length m 1 x] [.lst l.length (l.map (AV.int .i64))] [b]:=Fza.sl D (by simp) (jcy l) .nil;exact (joE hb l h0 hl).xf F (λst=>hb.no 166 (by decide) _ _) K Kp
def zt (op:Int)(a b:MtT):Int×Int:=
 if op=5 then (min (-a.lo) (-a.hi),max (-a.lo) (-a.hi))
 else if op=15 then (min (a.lo+b.lo) (a.hi+b.hi),max (a.lo+b.lo) (a.hi+b.hi))
 else if op=16 then (min (a.lo - b.hi) (a.hi - b.lo),max (a.lo - b.hi) (a.hi - b.lo))
 else (min (min (min (a.lo * b.lo) (a.lo * b.hi)) (a.hi * b.lo)) (a.hi * b.hi),max (max (max (a.lo * b.lo) (a.lo * b.hi)) (a.hi * b.lo)) (a.hi * b.hi))
def Zt (m:MtT):Prop:=-100000000≤m.lo∧m.lo≤100000000∧-100000000≤m.hi∧m.hi≤100000000
theorem kw {a b:Int}(h1 : -100000000≤a)(h2:a≤100000000)(h3 : -100000000≤b)(h4:b≤100000000) : -10000000000000000≤a * b∧a * b≤10000000000000000:=by
 have e:a.natAbs * b.natAbs≤100000000 * 100000000:=Nat.mul_le_mul (by omega) (by omega);have e2:(a * b).natAbs=a.natAbs * b.natAbs:=Int.natAbs_mul a b;omega
set_option maxHeartbeats 1000000 in
theorem jhd (hb:NB base)(op:Int)(ms:List MtT)(h0:0<ms.length)(hl:ms.length≤2)(he:∀ m∈ms,Zt m)(a b:MtT)(ha:ms[0]=a)(hb2:ms[ms.length - 1]=b) :
  PX Qaf base 139 [.int .i64 op,.lst ms.length (fl mtE ms)] (.ok (.tup [.int .i64 (zt op a b).1,.int .i64 (zt op a b).2])):=by
 obtain ⟨a1,a2,a3,a4⟩:=ha▸he _ (Qax h0);obtain ⟨b1,b2,b3,b4⟩:=hb2▸he _ (Qax (show ms.length - 1<ms.length by omega));have m1:=kw a1 a2 b1 b2;have m2:=kw a1 a2 b3 b4;have m3:=kw a3 a4 b1 b2;have m4:=kw a3 a4 b3 b4;have ld0:∀ (st:St) (K:AV->St->Prop),jk (yX 4 (.lptr (fl mtE ms) 0) st) K=K (.agg (mtE a)) st:=λst K=>by
  have:=Hj (st:=st) (K:=K) h0;rw [Qbu,ha] at this;exact this
 have ld1:∀ (st:St) (K:AV->St->Prop),jk (yX 4 (.lptr (fl mtE ms) ((ms.length - 1) * 4)) st) K=K (.agg (mtE b)) st:=λst K=>by
  have:=Hj (st:=st) (K:=K) (show ms.length - 1<ms.length by omega);rw [hb2] at this;exact this
 have el:((ms.length:Int) - 1).toNat=ms.length - 1:=by omega
 have S2:=λ(p q:Int)=>jfs hb [p,q] (cs:=[.int .i64 p,.int .i64 q]) (n:=2) rfl rfl (by decide) (by decide);have S4:=λ(p q r t:Int)=>jfs hb [p,q,r,t] (cs:=[.int .i64 p,.int .i64 q,.int .i64 r,.int .i64 t]) (n:=4) rfl rfl (by decide) (by decide);have Sa:=S2 (-a.lo) (-a.hi);have Sb:=S2 (a.lo+b.lo) (a.hi+b.hi);have Sc:=S2 (a.lo - b.hi) (a.hi - b.lo);have Sd:=S4 (a.lo * b.lo) (a.lo * b.hi) (a.hi * b.lo) (a.hi * b.hi);clear S2 S4;clear he;refine jJ jpX (by rfl) (hb.pur 139 1 (by decide)) ?_;simp only [jmg,jm,Qai,Qaj,Qag,Qah];unfold jly;try dsimp only [oo,oO,ot,oT,os,og,oh,oc,on,oN,oP]
 repeat' (first | (apply jc <;> intro _) | simp (disch:=first | exact dzG | fail) only [el,ld0,ld1,Sa,Sb,Sc,Sd,jd,jo,jn,jf,jt,ju,jx,jy,jv,rzZ,Qab,Qac,Qad,Qaa,Qae])
 all_goals (refine G0.tupi ?_; unfold zt WB WC; simp_all)
end Go.Sy
end
noncomputable section
set_option maxRecDepth 100000
namespace Go.Sy
open Go.Ev Go.Proofs
variable {base:Bs}
inductive KR (α:Type) where
 | ok (x:α)
 | er (c l k:Int)
def qj (vars:List VarT)(s:List Nat):Int:=fi (λx=>decide (x.name=s)) vars
theorem jgA (hb:NB base)(vars:List VarT)(hl:vars.length≤BIG)(s:List Nat)(st:St)(b:Nat)(C:Cl st b [.str s])(K Kp:AV->St->Prop) :
  XB Qaf base 141 [.lst vars.length (fl vaE vars),.fn 142 [.ptr b 0]] st K Kp=K (.int .i64 (qj vars s)) st:=by
 refine (jgz hb vars hl s).xb (YJ rfl (zY ?_ rfl)) (λst=>hb.no 141 (by decide) _ _) K Kp;show (QC st.h [.ptr b 0]).map (AV.fn 142)=_;have:ZI st.h (.ptr b 0)=some (.lptr [.str s] 0):=uQ C (JO (uU 8 rfl) rfl K7);simp only [QC,this];rfl
theorem UK (hb:NB base)(vars:List VarT)(hl:vars.length≤BIG)(s:List Nat)(r:List AV):PL Qaf base 104 [.lptr (.lst vars.length (fl vaE vars) :: r) 0,.str s] (.ok (.int .i64 (qj vars s))):=by
 refine Qh jqg (by rfl) (hb.pur 104 5 (by decide)) rfl ?_;simp only [jmz,jm,Qai,Qaj,Qag,Qah];unfold jlR;try dsimp only [oo,oO,ot,oT,os,og,oh,oc,on,oN,oP]
 have F:=jgA hb vars hl s;repeat' (first | (apply jc <;> intro _) | simp (disch:=first | exact dzG | fail) only [F,Jg,jd,jo,jn,jf,jt,ju,jx,jy,jv,rzZ,Qab,Qac,Qad,Qaa,Qae])
 exact G0.v rfl rfl
def y8:List EnumT->List Nat->List Nat×Int
 | [],_=>([],-1)
 | e :: es,nm=>if 0≤fi (λv=>decide (nm=v)) e.vals then (e.name,fi (λv=>decide (nm=v)) e.vals) else y8 es nm
theorem H8:∀ {es:List EnumT} {nm:List Nat} {k:Nat} (h:k<es.length),(∀ j (hj:j<es.length),j<k->fi (λv=>decide (nm=v)) es[j].vals<0)->0≤fi (λv=>decide (nm=v)) es[k].vals->y8 es nm=(es[k].name,fi (λv=>decide (nm=v)) es[k].vals)
 | e :: es,nm,0,h,_,h2=>by simp only [Qbo] at h2 ⊢; rw [y8,if_pos h2]
 | e :: es,nm,k+1,h,h1,h2=>by
  have h0:=h1 0 (by simp) (by omega);simp only [Qbo] at h0;rw [y8,if_neg (by omega)];simp only [Qbp] at h2 ⊢;exact H8 (by simpa using h) (λj hj hjk=>by have:=h1 (j+1) (by simpa using hj) (by omega); simpa only [Qbp] using this) h2
theorem H7:∀ {es:List EnumT} {nm:List Nat},(∀ j (hj:j<es.length),fi (λv=>decide (nm=v)) es[j].vals<0)->y8 es nm=([],-1)
 | [],nm,_=>rfl
 | e :: es,nm,h=>by
  have h0:=h 0 (by simp);simp only [Qbo] at h0;rw [y8,if_neg (by omega)];exact H7 λj hj=>by have:=h (j+1) (by simpa using hj); simpa only [Qbp] using this
theorem jbG {s:St}{a:List Nat}{b:Int}{u:AV}(h:u=.tup [.str a,.int .i64 b]):G0 u (.tup [.str a,.int .i64 b]) s:=by
 subst h;exact FzD.tup (.cons (.pc rfl) (.cons (.pc rfl) .nil))
theorem jka (hb:NB base)(enums:List EnumT)(hl:enums.length≤BIG)(hv:∀ e∈enums,e.vals.length≤1000000)(nm:List Nat)(v:AV)(r:List AV):PL Qaf base 165 [.lptr (v :: .lst enums.length (fl enE enums) :: r) 0,.str nm] (.ok (.tup [.str (y8 enums nm).1,.int .i64 (y8 enums nm).2])):=by
 refine Qh jpJ (by rfl) (hb.pur 165 5 (by decide)) rfl ?_;simp only [jl2,jm,Qai,Qaj,Qag,Qah];unfold jll;try dsimp only [oo,oO,ot,oT,os,og,oh,oc,on,oN,oP]
 unfold BIG at hl;repeat' (first | (apply jc <;> intro _) | simp (disch:=first | exact dzG | fail) only [Jg,jd,jo,jn,jf,jt,ju,jx,jy,jv,rzZ,Qab,Qac,Qad,Qaa,Qae])
 refine qt enums.length (λk L s=>(∀ j (hj:j<enums.length),j<k->fi (λv=>decide (nm=v)) enums[j].vals<0)∧Has L 1 (.str nm)∧Has L 13 (.lst enums.length (fl enE enums))) (by first | assumption | omega) (by decide) (by simp (disch:=decide) only [je,jb]) (by simp (disch:=decide) only [je,jb]) ?_ (λk L s v h=>by simp (disch:=decide) only [jb]; exact h) (λk L s v h=>by simp (disch:=decide) only [jb]; exact h) (λk L s hk hI hi hn=>?_) (λL s hI=>?_)
 ·refine ⟨λj _ hj=>absurd hj (Qbl _),?_⟩;simp (disch:=decide) only [Qam,Qaq,z0,z1,je,jb,and_true,true_and]
 ·obtain ⟨h0,i1,i13⟩:=hI;have X:=jj4 hb enums[k].vals (hv _ (Qax hk)) nm;repeat' (first | (apply jc <;> intro _) | simp (disch:=first | exact dzG | fail) only [ja i1,ja i13,ja hi,ja hn,X,jd,jo,jn,jf,jt,ju,jx,jy,jv,rzZ,Qab,Qac,Qad,Qaa,Qae])
  ·rename_i h;refine jbG ?_;rw [H8 hk h0 (by omega)]
  ·rename_i h;refine ⟨⟨λj hj hjk=>?_,?_⟩,?_⟩
   ·rcases QaS j k with h2 | h2
    ·exact h0 j hj h2
    ·have:j=k:=by omega
     subst this;omega
   ·simp (disch:=decide) only [Qam,Qaq,z0,z1,je,jb,and_true,true_and,i1,i13]
   ·simp (disch:=decide) only [Qam,Qaq,z0,z1,je,jb,and_true,true_and,hi,hn]
 ·obtain ⟨h0,i1,i13⟩:=hI;repeat' (first | (apply jc <;> intro _) | simp (disch:=first | exact dzG | fail) only [jd,jo,jn,jf,jt,ju,jx,jy,jv,rzZ,Qab,Qac,Qad,Qaa,Qae])
  refine jbG ?_;rw [H7 λj hj=>h0 j hj hj]; rfl
def mt0:MtT:=⟨0,[],0,0⟩
def zm (vars:List VarT)(enums:List EnumT)(x:Ex):KR (Ex×MtT):=
 if 0≤qj vars x.name then
  (let v:=vars.getD (qj vars x.name).toNat ⟨[],0,[],0,0,false,0⟩
   .ok (.mk 4 (qj vars x.name) [] [] x.line x.col,⟨v.kind,v.enum,v.lo,v.hi⟩))
 else if (y8 enums x.name).2<0 then .er 161 x.line x.col
 else .ok (.mk 1 (y8 enums x.name).2 [] [] x.line x.col,⟨3,(y8 enums x.name).1,(y8 enums x.name).2,(y8 enums x.name).2⟩)
def kO (r:KR (Ex×MtT)):Oc:=match r with
 | .ok x=>.ok (.tup [.agg (eE x.1),.agg (mtE x.2)])
 | .er c l k=>.pn (kf c l k)
theorem w9 {α:Type}{q:α->Bool}:∀ {xs:List α},fi q xs<(xs.length:Int)
 | []=>by simp [fi]
 | x :: xs=>by
  have:=w9 (q:=q) (xs:=xs);have hl:((x :: xs).length:Int)=(xs.length:Int)+1:=by simp
  rw [hl];unfold fi;split
  ·omega
  ·split <;> omega
set_option maxHeartbeats 1000000 in
theorem jkA (hb:NB base)(vars:List VarT)(enums:List EnumT)(hl:vars.length≤BIG)(hl2:enums.length≤BIG)(hv:∀ e∈enums,e.vals.length≤1000000)(x:Ex)(r:List AV) :
  PL Qaf base 136 [.lptr (.lst vars.length (fl vaE vars) :: .lst enums.length (fl enE enums) :: r) 0,.agg (eE x)] (kO (zm vars enums x)):=by
 have V:=λst K Kp=>(UK hb vars hl x.name (.lst enums.length (fl enE enums) :: r)).pa (by rfl) (λst=>hb.no 104 (by decide) _ _) st K Kp;have W:=λst K Kp=>(jka hb enums hl2 hv x.name (.lst vars.length (fl vaE vars)) r).pa (by rfl) (λst=>hb.no 165 (by decide) _ _) st K Kp;have VT:=qj vars x.name;by_cases h1:0≤qj vars x.name
 ·have hlt:qj vars x.name<(vars.length:Int):=w9;have hlt2:(qj vars x.name).toNat<vars.length:=by omega
  obtain ⟨v,hv⟩:∃ v,vars[(qj vars x.name).toNat]=v:=⟨_,rfl⟩;have hn:zm vars enums x=.ok (.mk 4 (qj vars x.name) [] [] x.line x.col,⟨v.kind,v.enum,v.lo,v.hi⟩):=by
   unfold zm;rw [if_pos h1];simp only [QaC,Qav hlt2,Qba,hv]
  rw [hn];refine Qh jhD (by rfl) (hb.pur 136 5 (by decide)) (by rfl) ?_;simp only [jdd,jm,Qai,Qaj,Qag,Qah];unfold jda;try dsimp only [oo,oO,ot,oT,os,og,oh,oc,on,oN,oP]
  (have zz:=aI @yx @yw; (repeat' (first | (apply jc <;> intro _) | simp (disch:=first | exact qq | fail) only [V,h1,Jg,hv,sm3,sm9,sm2,yx,yw,jd,jo,jn,jf,jt,ju,jx,jy,jv,rzZ,Qab,Qac,Qad,Qaa,Qae])); (all_goals (clear zz)))
  exact FzD.tup (.cons XI (.cons (.agg (.pc rfl)) .nil))
 ·have h1':qj vars x.name<0:=by omega
  by_cases h2:(y8 enums x.name).2<0
  ·have hn:zm vars enums x=.er 161 x.line x.col:=by unfold zm; rw [if_neg h1,if_pos h2]
   rw [hn];refine Qh jhD (by rfl) (hb.pur 136 5 (by decide)) (by rfl) ?_;simp only [jdd,jm,Qai,Qaj,Qag,Qah];unfold jda;try dsimp only [oo,oO,ot,oT,os,og,oh,oc,on,oN,oP]
   repeat' (first | (apply jc <;> intro _) | simp (disch:=first | exact dzG | fail) only [V,W,h1,h2,zB hb,Jg,kO,jd,jo,jn,jf,jt,ju,jx,jy,jv,rzZ,Qab,Qac,Qad,Qaa,Qae])
   exact FzD.iface (FzD.agg (.pc rfl))
  ·have hn:zm vars enums x=.ok (.mk 1 (y8 enums x.name).2 [] [] x.line x.col,⟨3,(y8 enums x.name).1,(y8 enums x.name).2,(y8 enums x.name).2⟩):=by unfold zm; rw [if_neg h1,if_neg h2]
   rw [hn];refine Qh jhD (by rfl) (hb.pur 136 5 (by decide)) (by rfl) ?_;simp only [jdd,jm,Qai,Qaj,Qag,Qah];unfold jda;try dsimp only [oo,oO,ot,oT,os,og,oh,oc,on,oN,oP]
   repeat' (first | (apply jc <;> intro _) | simp (disch:=first | exact dzG | fail) only [V,W,h1,h2,Jg,jd,jo,jn,jf,jt,ju,jx,jy,jv,rzZ,Qab,Qac,Qad,Qaa,Qae])
   exact FzD.tup (.cons XI (.cons (.agg (.pc rfl)) .nil))
end Go.Sy
end
noncomputable section
set_option maxRecDepth 100000
namespace Go.Sy
open Go.Ev Go.Proofs
variable {base:Bs}
def W7 (part:Int)(ms:List MtT):Bool:=ms.any λm=>(decide (0<part) && decide (m.kind≠part)) || decide (m.kind≠(ms.getD 0 mt0).kind) || decide (m.enum≠(ms.getD 0 mt0).enum)
def zH (fm:Bool)(op num:Int)(name:List Nat)(l c:Int)(ys:List Ex)(ms:List MtT):KR (Ex×MtT):=
 if ms.length=0∨2<ms.length∨(Yc op=true∧fm=false)∨W7 (qW op).1 ms=true then .er 163 l c
 else if (qW op).2≠1 then .ok (.mk op num name ys l c,⟨(qW op).2,[],0,1⟩)
 else if (zt op (ms.getD 0 mt0) (ms.getD (ms.length - 1) mt0)).1 < -100000000∨100000000<(zt op (ms.getD 0 mt0) (ms.getD (ms.length - 1) mt0)).2 then .er 165 l c
 else .ok (.mk op num name ys l c,⟨(qW op).2,[],(zt op (ms.getD 0 mt0) (ms.getD (ms.length - 1) mt0)).1,(zt op (ms.getD 0 mt0) (ms.getD (ms.length - 1) mt0)).2⟩)
mutual
def qN (vars:List VarT)(enums:List EnumT):Bool->Ex->KR (Ex×MtT)
 | fm,.mk op num name ks l c=>
  if op=1 then .ok (.mk op num name ks l c,⟨1,[],num,num⟩)
  else if op=2 then .ok (.mk op num name ks l c,⟨2,[],0,1⟩)
  else if op=3 then zm vars enums (.mk op num name ks l c)
  else match qh vars enums (fm && decide (op≠17) && decide (op≠18)) ks with
   | .er a b d=>.er a b d
   | .ok r=>zH fm op num name l c r.1 r.2
def qh (vars:List VarT)(enums:List EnumT):Bool->List Ex->KR (List Ex×List MtT)
 | _,[]=>.ok ([],[])
 | fm,x :: xs=>match qN vars enums fm x with
  | .er a b d=>.er a b d
  | .ok y=>match qh vars enums fm xs with
   | .er a b d=>.er a b d
   | .ok r=>.ok (y.1 :: r.1,y.2 :: r.2)
end
theorem Ge {vars:List VarT}{enums:List EnumT}{fm:Bool}:∀ {xs:List Ex} {ys:List Ex} {ms:List MtT} {x y:Ex} {m:MtT},qh vars enums fm xs=.ok (ys,ms)->qN vars enums fm x=.ok (y,m)->qh vars enums fm (xs ++ [x])=.ok (ys ++ [y],ms ++ [m])
 | [],ys,ms,x,y,m,h,h2=>by
  simp only [qh] at h;cases h;simp only [QaG,qh,h2]
 | z :: xs,ys,ms,x,y,m,h,h2=>by
  simp only [qh] at h;cases hz:qN vars enums fm z with
  | er a b d=>rw [hz] at h; cases h
  | ok w=>
   rw [hz] at h;cases hr:qh vars enums fm xs with
   | er a b d=>rw [hr] at h; cases h
   | ok r=>
    rw [hr] at h;cases h;obtain ⟨r1,r2⟩:=r;simp only [Qaw,qh,hz,Ge hr h2]
theorem Gf {vars:List VarT}{enums:List EnumT}{fm:Bool}:∀ {xs:List Ex} {ys:List Ex} {ms:List MtT} {x:Ex} {a b d:Int} (zs:List Ex),qh vars enums fm xs=.ok (ys,ms)->qN vars enums fm x=.er a b d->qh vars enums fm (xs ++ x :: zs)=.er a b d
 | [],ys,ms,x,a,b,d,zs,h,h2=>by simp only [QaG,qh,h2]
 | z :: xs,ys,ms,x,a,b,d,zs,h,h2=>by
  simp only [qh] at h;cases hz:qN vars enums fm z with
  | er a b d=>rw [hz] at h; cases h
  | ok w=>
   rw [hz] at h;cases hr:qh vars enums fm xs with
   | er a b d=>rw [hr] at h; cases h
   | ok r=>
    rw [hr] at h;cases h;obtain ⟨r1,r2⟩:=r;simp only [Qaw,qh,hz,Gf zs hr h2]
theorem J5 {vars:List VarT}{enums:List EnumT}{fm:Bool}:∀ {xs:List Ex} {ys:List Ex} {ms:List MtT},qh vars enums fm xs=.ok (ys,ms)->ys.length=xs.length∧ms.length=xs.length
 | [],ys,ms,h=>by simp only [qh] at h; cases h; exact ⟨rfl,rfl⟩
 | z :: xs,ys,ms,h=>by
  simp only [qh] at h;cases hz:qN vars enums fm z with
  | er a b d=>rw [hz] at h; cases h
  | ok w=>
   rw [hz] at h;cases hr:qh vars enums fm xs with
   | er a b d=>rw [hr] at h; cases h
   | ok r=>
    rw [hr] at h;cases h;obtain ⟨r1,r2⟩:=r;have:=J5 hr;simp [this.1,this.2]
theorem wt (vars:List VarT)(enums:List EnumT)(fm:Bool)(x:Ex):qN vars enums fm x=if x.op=1 then .ok (x,⟨1,[],x.num,x.num⟩) else if x.op=2 then .ok (x,⟨2,[],0,1⟩) else if x.op=3 then zm vars enums x else match qh vars enums (fm && decide (x.op≠17) && decide (x.op≠18)) x.kids with
 | .er a b d=>.er a b d
 | .ok r=>zH fm x.op x.num x.name x.line x.col r.1 r.2:=by cases x; rw [qN]; rfl
structure VarsOK (vars:List VarT)(enums:List EnumT):Prop where
 len:vars.length≤1000000
 len2:enums.length≤1000000
 vals:∀ e∈enums,e.vals.length≤1000000
 ends:∀ v∈vars,-100000000≤v.lo∧v.lo≤100000000∧-100000000≤v.hi∧v.hi≤100000000
mutual
def Xo:Ex->Bool
 | .mk op num _ ks _ _=>(decide (op≠1) || (decide (-100000000≤num) && decide (num≤100000000))) && Jj ks
def Jj:List Ex->Bool
 | []=>true
 | x :: xs=>Xo x && Jj xs
end
theorem jhH {enums:List EnumT}{nm:List Nat}(h:∀ e∈enums,e.vals.length≤1000000) : -1≤(y8 enums nm).2∧(y8 enums nm).2≤1000000:=by
 induction enums with
 | nil=>simp [y8]
 | cons e es ih=>
  rw [y8];have h1:=h e (by simp);have h2:=w9 (q:=λv=>decide (nm=v)) (xs:=e.vals);split
  ·dsimp only; omega
  ·exact ih λe he=>h e (by simp [he])
theorem jbM {vars:List VarT}{enums:List EnumT}(V:VarsOK vars enums){x y:Ex}{m:MtT}(h:zm vars enums x=.ok (y,m)):Zt m:=by
 unfold zm at h;split at h
 ·rename_i h1;cases h;have hlt:qj vars x.name<(vars.length:Int):=w9;have hlt2:(qj vars x.name).toNat<vars.length:=by omega
  have:vars.getD (qj vars x.name).toNat ⟨[],0,[],0,0,false,0⟩∈vars:=by
   rw [QaC,Qav hlt2]; exact Qax hlt2
  exact V.ends _ this
 ·split at h
  ·cases h
  ·cases h;have:=jhH (nm:=x.name) V.vals;unfold Zt;dsimp only;omega
mutual
theorem jdP {vars:List VarT}{enums:List EnumT}(V:VarsOK vars enums):∀ (fm:Bool) (x y:Ex) (m:MtT),Xo x=true->qN vars enums fm x=.ok (y,m)->Zt m
 | fm,.mk op num name ks l c,y,m,hn,h=>by
  rw [Xo,Qar] at hn;rw [qN] at h;split at h
  ·rename_i h1;cases h;have:=hn.1;simp [h1] at this;exact ⟨this.1,this.2,this.1,this.2⟩
  ·split at h
   ·cases h; unfold Zt; dsimp only; omega
   ·split at h
    ·exact jbM V h
    ·split at h
     ·cases h
     ·rename_i r hr;unfold zH at h;split at h
      ·cases h
      ·split at h
       ·cases h; unfold Zt; dsimp only; omega
       ·split at h
        ·cases h
        ·rename_i h5;cases h;unfold Zt;dsimp only;have e:(zt op (r.2.getD 0 mt0) (r.2.getD (r.2.length - 1) mt0)).1≤(zt op (r.2.getD 0 mt0) (r.2.getD (r.2.length - 1) mt0)).2:=by
          unfold zt;split
          ·dsimp only; omega
          ·split
           ·dsimp only; omega
           ·split
            ·dsimp only; omega
            ·dsimp only; omega
         omega
end
theorem V6 {vars:List VarT}{enums:List EnumT}(V:VarsOK vars enums){fm:Bool}:∀ {xs ys:List Ex} {ms:List MtT},Jj xs=true->qh vars enums fm xs=.ok (ys,ms)->∀ m∈ms,Zt m
 | [],ys,ms,_,h,m,hm=>by simp only [qh] at h; cases h; cases hm
 | z :: xs,ys,ms,hn,h,m,hm=>by
  rw [Jj,Qar] at hn;simp only [qh] at h;cases hz:qN vars enums fm z with
  | er a b d=>rw [hz] at h; cases h
  | ok w=>
   rw [hz] at h;cases hr:qh vars enums fm xs with
   | er a b d=>rw [hr] at h; cases h
   | ok r=>
    rw [hr] at h;cases h;obtain ⟨r1,r2⟩:=r;obtain ⟨w1,w2⟩:=w;rcases Qbt.1 hm with rfl | hm
    ·exact jdP V fm z w1 _ hn.1 hz
    ·exact V6 V hn.2 hr m hm
theorem gV:∀ {xs:List Ex} {k:Nat} (h:k<xs.length),Jj xs=true->Xo xs[k]=true
 | x :: xs,0,_,h=>by rw [Jj,Qar] at h; exact h.1
 | x :: xs,k+1,hk,h=>by rw [Jj,Qar] at h; exact gV (xs:=xs) (k:=k) (by simpa using hk) h.2
end Go.Sy
end
noncomputable section
set_option maxRecDepth 100000
namespace Go.Sy
open Go.Ev Go.Proofs
variable {base:Bs}
structure Ck (p:Nat)(v1 v2 v3 mm:AV)(vars:List VarT)(enums:List EnumT)(fm:Bool)(s:St):Prop where
 cl:Cl s p [v1,v2,v3,mm,.bool fm]
 l1:Lr s v1 vars.length (fl vaE vars)
 l2:Lr s v2 enums.length (fl enE enums)
 n1:∀ b m z x,v1=.slice b 0 vars.length m z x->b≠p
 n2:∀ b m z x,v2=.slice b 0 enums.length m z x->b≠p
section
variable {p:Nat} {v1 v2 v3 mm:AV} {vars:List VarT} {enums:List EnumT} {fm:Bool} {s s':St}
theorem Ck.keep (h:Ck p v1 v2 v3 mm vars enums fm s)(k:Keep p s s'){fm':Bool}(C:Cl s' p [v1,v2,v3,mm,.bool fm']):Ck p v1 v2 v3 mm vars enums fm' s':=⟨C,k.lr h.l1 h.n1,k.lr h.l2 h.n2,h.n1,h.n2⟩
theorem Ck.lend (h:Ck p v1 v2 v3 mm vars enums fm s):∃ r,lend s.h (.ptr p 0)=some (.lptr (.lst vars.length (fl vaE vars) :: .lst enums.length (fl enE enums) :: r) 0):=by
 have e1:=h.l1.fz (d:=7) (zg Xk vars);have e2:=h.l2.fz (d:=7) (zg Jr enums);exact ⟨_,uQ h.cl (JO e1 rfl (JO e2 rfl rfl))⟩
end
set_option maxHeartbeats 4000000 in
theorem jkB (hb:NB base){vars:List VarT}{enums:List EnumT}(V:VarsOK vars enums)(x:Ex){p:Nat}{v1 v2 v3 mm:AV}{fm:Bool}(st:St)(C:Ck p v1 v2 v3 mm vars enums fm st)(K Kp:AV->St->Prop) :
  XB Qaf base 136 [.ptr p 0,.agg (eE x)] st K Kp=XG (kO (zm vars enums x)) K Kp st:=by
 obtain ⟨r,hr⟩:=C.lend;have h1:=V.len;have h2:=V.len2;exact (jkA hb vars enums (by unfold BIG; omega) (by unfold BIG; omega) V.vals x r).xb (zY hr (YJ (by first | rfl | simp [pa,pc,qQ,J9,Jr,zP,Xk,YT,Y0,Y2,Yl]) rfl)) (λst=>hb.no 136 (by decide) _ _) K Kp
def z6:List AV:=[.int .i64 0,.int .i64 0,.str [],.nils,.int .i64 0,.int .i64 0]
def z4:List AV:=[.int .i64 0,.str [],.int .i64 0,.int .i64 0]
def KC (p:Nat)(v1 v2 v3 mm:AV)(fm:Bool)(st:St)(r:KR (Ex×MtT))(K Kp:AV->St->Prop):Prop:=match r with
 | .ok y=>∀ s',Keep p st s'->Cl s' p [v1,v2,v3,mm,.bool fm]->K (.tup [.agg (eE y.1),.agg (mtE y.2)]) s'
 | .er c l k=>∀ s',Keep p st s'->Kp (kf c l k) s'
theorem jkW {st s:St}{b:Nat}{cs:List AV}:Cl (back st s) b cs=Cl s b cs:=propext ⟨λh=>⟨h.lt,h.row,h.len,h.cell⟩,λh=>⟨h.lt,h.row,h.len,h.cell⟩⟩
theorem Cl.kills {s:St}{b:Nat}{cs:List AV}{ks:List Nat}(C:Cl s b cs)(h:b∉ks):Cl (kills ks s) b cs:=C.keep (Qap _) (by
 show jq (ks.foldr _ s.h) b=_;rw [XV,if_neg h])
theorem VG {p:Nat}{st s:St}{v u:AV}{cs:List AV}{K:AV->St->Prop}{m:Nat}(F:FzD m 9 s v u)(hm:st.nx≤m)(hp:p<st.nx)(k:Keep p st.bare s)(C:Cl s p cs)(hK:∀ s',Keep p st s'->Cl s' p cs->K u s') :
  ∃ u ks,fz 9 s.h v=some (u,ks)∧K u (back st (kills ks s)):=by
 obtain ⟨ks,e,h⟩:=F;have hnx:st.bare.nx=st.nx:=rfl;refine ⟨u,ks,e,hK _ (Keep.bare (k.kills λc hc=>by have:=h c hc; omega) st) ?_⟩;rw [jkW];exact C.kills λhm=>by have:=h p hm; omega
theorem X6 {p:Nat}{st s:St}(k:Keep p st.bare s):Keep p st (bk st s):=⟨k.nx,rfl,k.get⟩
def iQ (st:St)(K:AV->St->Prop):Out->Prop:=QK Qaf y97.res λv s=>∃ u ks,fz 9 s.h v=some (u,ks)∧K u (back st (kills ks s))
def iP (st:St)(Kp:AV->St->Prop):AV->Sl->St->Prop:=λv _ s=>Kp v (bk st s)
structure KS (p q:Nat)(v1 v2 v3 mm:AV)(x:Ex)(fm:Bool)(st:St)(ys:List Ex)(ms:List MtT)(vk vm:AV)(L:Sl)(s:St):Prop where
 keep:Keep p st.bare s
 nx:q+4≤s.nx
 qn:q=st.nx
 hp:p<q
 cp:Cl s p [v1,v2,v3,mm,.bool fm]
 c0:Cl s q (eE x)
 c1:Cl s (q+1) z6
 c2:Cl s (q+2) z4
 c3:Cl s (q+3) [.int .i64 x.op,.int .i64 x.num,.str x.name,vk,.int .i64 x.line,.int .i64 x.col]
 lk:Lv (q+4) s.nx s vk ys.length (fl eE ys) 6
 lm:Lv (q+4) s.nx s vm ms.length (fl mtE ms) 4
 df:Df vk vm
 i0:Has L 0 (.ptr p 0)
 i3:Has L 3 (.ptr q 0)
 i4:Has L 4 (.ptr (q+1) 0)
 i5:Has L 5 (.ptr (q+2) 0)
 i6:Has L 6 (.ptr (q+3) 0)
 i7:Has L 7 vm
def UB (fm:Bool)(op:Int)(ms:List MtT):Bool:=decide (ms.length=0) || decide (2<ms.length) || (Yc op && !fm) || W7 (qW op).1 ms
theorem jii {fm:Bool}{op num:Int}{name:List Nat}{l c:Int}{ys:List Ex}{ms:List MtT}(h:UB fm op ms=true):zH fm op num name l c ys ms=.er 163 l c:=by
 unfold zH;unfold UB at h;simp only [QaZ,decide_eq_true_eq,Qar,Qbc] at h;rw [if_pos (by simpa only [or_assoc] using h)]
theorem jow {fm:Bool}{op:Int}{ms:List MtT}(h:UB fm op ms=false):¬ (ms.length=0∨2<ms.length∨(Yc op=true∧fm=false)∨W7 (qW op).1 ms=true):=by
 intro h2;have:UB fm op ms=true:=by
  unfold UB;simp only [QaZ,decide_eq_true_eq,Qar,Qbc];simpa only [or_assoc] using h2
 rw [this] at h; cases h
theorem Lv.klD {lo hi n z:Nat}{s:St}{v:AV}{cs:List AV}{b o m1 m2 z2:Nat}{x:Bool}(V:Lv lo hi s v n cs z)(h:Df v (.slice b o m1 m2 z2 x)):Lv lo hi (kl b s) v n cs z:=by
 rcases V with e | ⟨c,rfl,h2,h3,h4,h5,h6⟩
 ·exact .inl e
 ·exact .inr ⟨c,rfl,h2,h3,(jO (λe=>h e.symm)).symm▸h4,h5,h6⟩
theorem jfT (hb:NB base)(op:Int)(ms:List MtT)(h0:0<ms.length)(hl:ms.length≤2)(he:∀ m∈ms,Zt m)(st:St)(b m:Nat)(y:Bool)(D:Cl st b (fl mtE ms))(K Kp:AV->St->Prop) :
  XB Qaf base 139 [.int .i64 op,.slice b 0 ms.length m 4 y] st K Kp=K (.tup [.int .i64 (zt op (ms.getD 0 mt0) (ms.getD (ms.length - 1) mt0)).1,.int .i64 (zt op (ms.getD 0 mt0) (ms.getD (ms.length - 1) mt0)).2]) (kl b st):=by
 have e0:ms[0]=ms.getD 0 mt0:=by simp [QaL,h0]
 have e1:ms[ms.length - 1]=ms.getD (ms.length - 1) mt0:=by simp [QaL,show ms.length - 1<ms.length by omega]
 have F:Fza st [.int .i64 op,.slice b 0 ms.length m 4 y] [.int .i64 op,.lst ms.length (fl mtE ms)] [b]:=Fza.pa rfl (Fza.sl D (zU Xp ms).symm (zg Yl ms) .nil);exact (jhd hb op ms h0 hl he _ _ e0 e1).xf F (λst=>hb.no 139 (by decide) _ _) K Kp
set_option maxHeartbeats 4000000 in
theorem jnW (hb:NB base){p q:Nat}{v1 v2 v3 mm:AV}{x:Ex}{fm b:Bool}{st:St}{ys:List Ex}{ms:List MtT}{vk vm:AV}{L:Sl}{s:St}(S:KS p q v1 v2 v3 mm x fm st ys ms vk vm L s)(hb2:UB fm x.op ms=b)(he:∀ m∈ms,Zt m)
  (i13:Has L 13 (.int .i64 (qW x.op).1)) (i14:Has L 14 (.int .i64 (qW x.op).2)) (i15:Has L 15 (.bool b)) (K Kp:AV->St->Prop) (hK:KC p v1 v2 v3 mm fm st (zH fm x.op x.num x.name x.line x.col ys ms) K Kp) :
  xC Qaf base jhi L s (iQ st K) (iP st Kp):=by
 obtain ⟨k,nx,qn,hp,Cp,C0,C1,C2,C3,lk,lm,df,i0,i3,i4,i5,i6,i7⟩:=S;have hnp:p<s.nx:=Cp.lt;unfold z6 z4 at *;try dsimp only [oo,oO,ot,oT,os,og,oh,oc,on,oN,oP]
 unfold jhi iQ iP y97;try dsimp only [oo,oO,ot,oT,os,og,oh,oc,on,oN,oP]
 cases b with
 | true=>
  rw [jii hb2] at hK
  (have zz:=C0.r; (repeat' (first | (apply jc <;> intro _) | simp (disch:=first | exact qq | fail) only [ja i0,ja i3,ja i15,zB hb,C0.q,C0.r,jd,jo,jn,jf,jt,ju,jx,jy,jv,rzZ,Qab,Qac,Qad,Qaa,Qae])); (all_goals (clear zz)))
  exact hK _ (X6 k)
 | false=>
  have hnb:=jow hb2;have hlen:0<ms.length∧ms.length≤2:=by omega
  unfold zH at hK;rw [if_neg hnb] at hK;have vc:∀ l,lall AV.cell (vk :: l)=lall AV.cell l:=λl=>by show cond vk.cell _ false=_; rw [lk.cell]; rfl
  have qnx:q+4≤st.nx+4:=by omega
  by_cases ho:(qW x.op).2=1
  ·rw [if_neg (by simpa using ho)] at hK;rcases lm with ⟨_,h9,_⟩ | ⟨d,rfl,h2,h3,C5,h5,h6⟩
   ·omega
   have N:=jfT hb x.op ms hlen.1 hlen.2 he;obtain ⟨r1,r2,hr⟩:∃ r1 r2,zt x.op (ms.getD 0 mt0) (ms.getD (ms.length - 1) mt0)=(r1,r2):=⟨_,_,rfl⟩;rw [hr] at hK N;dsimp only at hK N;have f1:(r1 < -(99999999+1))=(r1 < -100000000):=by rfl
   by_cases hr1:r1 < -100000000
   ·rw [if_pos (.inl hr1)] at hK
    (have zz:=aI C0.r (aI C1.r (aI C2.r (aI C3.r C5.r))); (repeat' (first | (apply jc <;> intro _) | simp (disch:=first | exact qq | fail) only [ja i0,ja i3,ja i4,ja i5,ja i6,ja i7,ja i14,ja i15,ho,N,f1,hr1,zB hb,C0.q,C1.q,C2.q,C3.q,C5.q,C0.r,C1.r,C2.r,C3.r,C5.r,jd,jo,jn,jf,jt,ju,jx,jy,jv,rzZ,Qab,Qac,Qad,Qaa,Qae])); (all_goals (clear zz)))
    exact hK _ (X6 (k.kl (by show st.nx≤_; omega)))
   ·by_cases hr2:100000000<r2
    ·rw [if_pos (.inr hr2)] at hK
     (have zz:=aI C0.r (aI C1.r (aI C2.r (aI C3.r C5.r))); (repeat' (first | (apply jc <;> intro _) | simp (disch:=first | exact qq | fail) only [ja i0,ja i3,ja i4,ja i5,ja i6,ja i7,ja i14,ja i15,ho,N,f1,hr1,hr2,zB hb,C0.q,C1.q,C2.q,C3.q,C5.q,C0.r,C1.r,C2.r,C3.r,C5.r,jd,jo,jn,jf,jt,ju,jx,jy,jv,rzZ,Qab,Qac,Qad,Qaa,Qae])); (all_goals (clear zz)))
     exact hK _ (X6 (k.kl (by show st.nx≤_; omega)))
    ·rw [if_neg (by omega)] at hK;have hK:∀ s',Keep p st s'->Cl s' p [v1,v2,v3,mm,.bool fm]->K (.tup [.agg (eE (.mk x.op x.num x.name ys x.line x.col)),.agg (mtE ⟨(qW x.op).2,[],r1,r2⟩)]) s':=hK;rw [qv] at hK
     (have zz:=aI @vc (aI C0.r (aI C1.r (aI C2.r (aI C3.r C5.r)))); (repeat' (first | (apply jc <;> intro _) | simp (disch:=first | exact qq | fail) only [ja i0,ja i3,ja i4,ja i5,ja i6,ja i7,ja i14,ja i15,ho,N,f1,hr1,hr2,C0.q,C1.q,C2.q,C3.q,C5.q,vc,C0.r,C1.r,C2.r,C3.r,C5.r,jd,jo,jn,jf,jt,ju,jx,jy,jv,rzZ,Qab,Qac,Qad,Qaa,Qae])); (all_goals (clear zz)))
     rw [ho] at hK;refine VG (m:=st.nx) (cs:=[v1,v2,v3,mm,.bool fm]) (FzD.tup (.cons (FzD.agg (.cons (.pc rfl) (.cons (.pc rfl) (.cons (.pc rfl) (.cons (Lv.fz (lo:=q+4) (hi:=s.nx) (z:=6) ?_ (by omega) (zg qQ _)) (.cons (.pc rfl) (.cons (.pc rfl) .nil))))))) (.cons (.agg (.pc rfl)) .nil))) (Qap _) (by omega) ?_ ?_ hK
     ·have:=lk.klD df
      (first | exact this | (simp (disch:=first | assumption | decide | (first | omega | (simp only [jg,jh,jl,jj,ji]; first | done | omega))) only [jz,jA,jr,jO,jC,jE,jF,jG]; exact this))
     ·exact (((k.kl (by show st.nx≤_; omega)).wr (.inr (by show st.nx≤_; omega)) _ _).wr (.inr (by show st.nx≤_; omega)) _ _)
     ·(first | exact Cp | (simp (disch:=first | assumption | decide | (first | omega | (simp only [jg,jh,jl,jj,ji]; first | done | omega))) only [jz,jA,jr,jO,jC,jE,jF,jG]; exact Cp))
  ·rw [if_pos ho] at hK;have hK:∀ s',Keep p st s'->Cl s' p [v1,v2,v3,mm,.bool fm]->K (.tup [.agg (eE (.mk x.op x.num x.name ys x.line x.col)),.agg (mtE ⟨(qW x.op).2,[],0,1⟩)]) s':=hK;rw [qv] at hK
   (have zz:=aI @vc (aI C0.r (aI C1.r (aI C2.r C3.r))); (repeat' (first | (apply jc <;> intro _) | simp (disch:=first | exact qq | fail) only [ja i0,ja i3,ja i4,ja i5,ja i6,ja i14,ja i15,ho,C0.q,C1.q,C2.q,C3.q,vc,C0.r,C1.r,C2.r,C3.r,jd,jo,jn,jf,jt,ju,jx,jy,jv,rzZ,Qab,Qac,Qad,Qaa,Qae])); (all_goals (clear zz)))
   refine VG (m:=st.nx) (cs:=[v1,v2,v3,mm,.bool fm]) (FzD.tup (.cons (FzD.agg (.cons (.pc rfl) (.cons (.pc rfl) (.cons (.pc rfl) (.cons (Lv.fz (lo:=q+4) (hi:=s.nx) (z:=6) ?_ (by omega) (zg qQ _)) (.cons (.pc rfl) (.cons (.pc rfl) .nil))))))) (.cons (.agg (.pc rfl)) .nil))) (Qap _) (by omega) ?_ ?_ hK
   ·(first | exact lk | (simp (disch:=first | assumption | decide | (first | omega | (simp only [jg,jh,jl,jj,ji]; first | done | omega))) only [jz,jA,jr,jO,jC,jE,jF,jG]; exact lk))
   ·exact ((k.wr (.inr (by show st.nx≤_; omega)) _ _).wr (.inr (by show st.nx≤_; omega)) _ _)
   ·(first | exact Cp | (simp (disch:=first | assumption | decide | (first | omega | (simp only [jg,jh,jl,jj,ji]; first | done | omega))) only [jz,jA,jr,jO,jC,jE,jF,jG]; exact Cp))
end Go.Sy
end
noncomputable section
set_option maxRecDepth 100000
namespace Go.Sy
open Go.Ev Go.Proofs
variable {base:Bs}
def jev (part:Int)(k0:Int)(e0:List Nat)(m:MtT):Bool:=(decide (0<part) && decide (m.kind≠part)) || decide (m.kind≠k0) || decide (m.enum≠e0)
theorem Has.bool {c:Nat}{a b:Bool}{L:Sl}(h:a=b):Has ((c,.bool a) :: L) c (.bool b):=by rw [h]; simp only [je]
theorem jk1 (part:Int)(ms:List MtT):W7 part ms=ms.any (jev part (ms.getD 0 mt0).kind (ms.getD 0 mt0).enum):=rfl
section
variable {p q:Nat} {v1 v2 v3 mm:AV} {x:Ex} {fm:Bool} {st:St} {ys:List Ex} {ms:List MtT} {vk vm:AV} {L:Sl} {s:St}
theorem KS.nw (S:KS p q v1 v2 v3 mm x fm st ys ms vk vm L s)(ds:List AV):KS p q v1 v2 v3 mm x fm st ys ms vk vm L (nw s ds):=by
 obtain ⟨k,nx,qn,hp,Cp,C0,C1,C2,C3,lk,lm,df,i0,i3,i4,i5,i6,i7⟩:=S;have h0:=C0.lt;have h1:=C1.lt;have h2:=C2.lt;have h3:=C3.lt;have h4:=Cp.lt;exact ⟨k.nw ds,by rw [jg]; omega,qn,hp,by (first | exact Cp | (simp (disch:=first | assumption | decide | (first | omega | (simp only [jg,jh,jl,jj,ji]; first | done | omega))) only [jz,jA,jr,jO,jC,jE,jF,jG]; exact Cp)),by (first | exact C0 | (simp (disch:=first | assumption | decide | (first | omega | (simp only [jg,jh,jl,jj,ji]; first | done | omega))) only [jz,jA,jr,jO,jC,jE,jF,jG]; exact C0)),by (first | exact C1 | (simp (disch:=first | assumption | decide | (first | omega | (simp only [jg,jh,jl,jj,ji]; first | done | omega))) only [jz,jA,jr,jO,jC,jE,jF,jG]; exact C1)),by (first | exact C2 | (simp (disch:=first | assumption | decide | (first | omega | (simp only [jg,jh,jl,jj,ji]; first | done | omega))) only [jz,jA,jr,jO,jC,jE,jF,jG]; exact C2)),by (first | exact C3 | (simp (disch:=first | assumption | decide | (first | omega | (simp only [jg,jh,jl,jj,ji]; first | done | omega))) only [jz,jA,jr,jO,jC,jE,jF,jG]; exact C3)),((jE (Qap _)).symm▸lk:Lv _ _ (Go.Sy.nw s ds) _ _ _ _).up (by rw [jg]; omega),((jE (Qap _)).symm▸lm:Lv _ _ (Go.Sy.nw s ds) _ _ _ _).up (by rw [jg]; omega),df,i0,i3,i4,i5,i6,i7⟩
theorem KS.push (S:KS p q v1 v2 v3 mm x fm st ys ms vk vm L s){c:Nat}{v:AV}(h:c≠0∧c≠3∧c≠4∧c≠5∧c≠6∧c≠7):KS p q v1 v2 v3 mm x fm st ys ms vk vm ((c,v) :: L) s:=by
 obtain ⟨k,nx,qn,hp,Cp,C0,C1,C2,C3,lk,lm,df,i0,i3,i4,i5,i6,i7⟩:=S;obtain ⟨h0,h3,h4,h5,h6,h7⟩:=h;exact ⟨k,nx,qn,hp,Cp,C0,C1,C2,C3,lk,lm,df,by rw [jb h0]; exact i0,by rw [jb h3]; exact i3,by rw [jb h4]; exact i4,by rw [jb h5]; exact i5,by rw [jb h6]; exact i6,by rw [jb h7]; exact i7⟩
theorem KS.wr (S:KS p q v1 v2 v3 mm x fm st ys ms vk vm L s){c o:Nat}{ds:List AV}{hi:Nat}(hc:hi≤c)(lk':Lv (q+4) hi s vk ys.length (fl eE ys) 6)(lm':Lv (q+4) hi s vm ms.length (fl mtE ms) 4)(hq:q+4≤hi)(hs:hi≤s.nx):KS p q v1 v2 v3 mm x fm st ys ms vk vm L (wr s c o ds):=by
 obtain ⟨k,nx,qn,hp,Cp,C0,C1,C2,C3,lk,lm,df,i0,i3,i4,i5,i6,i7⟩:=S;have h4:=Cp.lt;exact ⟨k.wr (.inr (by show st.nx≤_; omega)) _ _,by rw [jh]; exact nx,qn,hp,by (first | exact Cp | (simp (disch:=first | assumption | decide | (first | omega | (simp only [jg,jh,jl,jj,ji]; first | done | omega))) only [jz,jA,jr,jO,jC,jE,jF,jG]; exact Cp)),by (first | exact C0 | (simp (disch:=first | assumption | decide | (first | omega | (simp only [jg,jh,jl,jj,ji]; first | done | omega))) only [jz,jA,jr,jO,jC,jE,jF,jG]; exact C0)),by (first | exact C1 | (simp (disch:=first | assumption | decide | (first | omega | (simp only [jg,jh,jl,jj,ji]; first | done | omega))) only [jz,jA,jr,jO,jC,jE,jF,jG]; exact C1)),by (first | exact C2 | (simp (disch:=first | assumption | decide | (first | omega | (simp only [jg,jh,jl,jj,ji]; first | done | omega))) only [jz,jA,jr,jO,jC,jE,jF,jG]; exact C2)),by (first | exact C3 | (simp (disch:=first | assumption | decide | (first | omega | (simp only [jg,jh,jl,jj,ji]; first | done | omega))) only [jz,jA,jr,jO,jC,jE,jF,jG]; exact C3)),((jC (.inr hc)).symm▸lk':Lv _ _ (Go.Sy.wr s c o ds) _ _ _ _).up (by rw [jh]; exact hs),((jC (.inr hc)).symm▸lm':Lv _ _ (Go.Sy.wr s c o ds) _ _ _ _).up (by rw [jh]; exact hs),df,i0,i3,i4,i5,i6,i7⟩
end
set_option maxHeartbeats 4000000 in
theorem jnX (hb:NB base){p q:Nat}{v1 v2 v3 mm:AV}{x:Ex}{fm b:Bool}{st:St}{ys:List Ex}{ms:List MtT}{vk vm:AV}{L:Sl}{s:St}(S:KS p q v1 v2 v3 mm x fm st ys ms vk vm L s)(hb2:(decide (ms.length=0) || decide (2<ms.length) || (Yc x.op && !fm))=b)(hml:ms.length≤1000000)(he:∀ m∈ms,Zt m)
  (i13:Has L 13 (.int .i64 (qW x.op).1)) (i14:Has L 14 (.int .i64 (qW x.op).2)) (i15:Has L 15 (.bool b)) (K Kp:AV->St->Prop) (hK:KC p v1 v2 v3 mm fm st (zH fm x.op x.num x.name x.line x.col ys ms) K Kp) :
  xC Qaf base jc7 L s (iQ st K) (iP st Kp):=by
 have vl:=S.lm.len;have i7:=S.i7;have bq:UB fm x.op ms=(b || ms.any (jev (qW x.op).1 (ms.getD 0 mt0).kind (ms.getD 0 mt0).enum)):=by rw [←jk1,←hb2]; rfl
 unfold jc7;try dsimp only [oo,oO,ot,oT,os,og,oh,oc,on,oN,oP]
 repeat' (first | (apply jc <;> intro _) | simp (disch:=first | exact dzG | fail) only [ja i7,vl,jd,jo,jn,jf,jt,ju,jx,jy,jv,rzZ,Qab,Qac,Qad,Qaa,Qae])
 refine qt ms.length (λk L s=>KS p q v1 v2 v3 mm x fm st ys ms vk vm L s∧Has L 13 (.int .i64 (qW x.op).1)∧Has L 14 (.int .i64 (qW x.op).2)∧Has L 15 (.bool (b || (ms.take k).any (jev (qW x.op).1 (ms.getD 0 mt0).kind (ms.getD 0 mt0).enum)))∧Has L 115 vm) (by first | assumption | omega) (by decide) (by simp (disch:=decide) only [je,jb]) (by simp (disch:=decide) only [je,jb]) ?_ (λk L s v h=>⟨h.1.push (by decide),by simp (disch:=decide) only [jb]; exact h.2⟩) (λk L s v h=>⟨h.1.push (by decide),by simp (disch:=decide) only [jb]; exact h.2⟩) (λk L s hk hI hi hn=>?_) (λL s hI=>?_)
 ·refine ⟨((S.push (by decide)).push (by decide)).push (by decide),?_⟩;simp (disch:=decide) only [jb,je,Qbe,List.any_nil,Bool.or_false];exact ⟨i13,i14,i15,trivial⟩
 ·obtain ⟨S,j13,j14,j15,j115⟩:=hI;have S0:=S;obtain ⟨k',nx,qn,hp,Cp,C0,C1,C2,C3,lk,lm,df,j0,j3,j4,j5,j6,j7⟩:=S;have qnx:q+4≤st.nx+4:=by omega
  rcases lm with ⟨_,h9,_⟩ | ⟨d,rfl,h2,h3,C5,h5,h6⟩
  ·omega
  have e0:ms.getD 0 mt0=ms[0]:=by simp [QaL,show 0<ms.length by omega]
  have g0:(fl mtE ms).getD 0 .bad=.int .i64 ms[0].kind:=(wz Xp (i:=0) (by omega) (k:=0) (by decide)).trans (by rw [Vt]; rfl);have g1:(fl mtE ms).getD 1 .bad=.str ms[0].enum:=(wz Xp (i:=0) (by omega) (k:=1) (by decide)).trans (by rw [Vt]; rfl);have tk:List.take (k+1) ms=List.take k ms ++ [ms[k]]:=by rw [Qcg,Qav hk]; rfl
  rw [e0] at j15;rw [tk,e0,List.any_append,List.any_cons,List.any_nil,Bool.or_false];have S1:∀ ba:Bool,KS p q v1 v2 v3 mm x fm st ys ms vk (.slice d 0 ms.length ms.length 4 false) ((15,.bool ba) :: (17,.ptr s.nx 0) :: L) (Go.Sy.wr (Go.Sy.nw s [.int .i64 0,.str [],.int .i64 0,.int .i64 0]) s.nx 0 (mtE ms[k])):=λba=>
   (((S0.push (by decide)).push (by decide)).nw _).wr (c:=s.nx) (hi:=s.nx) (Qap _) (by (first | exact lk | (simp (disch:=first | assumption | decide | (first | omega | (simp only [jg,jh,jl,jj,ji]; first | done | omega))) only [jz,jA,jr,jO,jC,jE,jF,jG]; exact lk))) (by have:=S0.lm; (first | exact this | (simp (disch:=first | assumption | decide | (first | omega | (simp only [jg,jh,jl,jj,ji]; first | done | omega))) only [jz,jA,jr,jO,jC,jE,jF,jG]; exact this))) (by omega) (by rw [jg]; omega)
  (have zz:=C5.r; (repeat' (first | (apply jc <;> intro _) | simp (disch:=first | exact qq | fail) only [ja j115,ja hi,ja hn,ja j13,ja j14,ja j15,ja j7,jdY Xp,g0,g1,C5.q,C5.r,jd,jo,jn,jf,jt,ju,jx,jy,jv,rzZ,Qab,Qac,Qad,Qaa,Qae])); (all_goals (clear zz)))
  all_goals simp (disch:=decide) only [jb,je]
  all_goals refine ⟨⟨S1 _,j13,j14,?_,j115⟩,hi,hn⟩
  all_goals apply Has.bool
  all_goals clear hb2 S1 S0 hK he hml bq C5 k' Cp C0 C1 C2 C3 lk df j0 j3 j4 j5 j6 j7 g0 g1 i13 i14 i15 j13 j14 j15 vl i7 e0 tk nx
  all_goals generalize List.any _ _=A at *
  all_goals unfold jev
  all_goals cases b <;> cases A <;> simp_all <;> omega
 ·obtain ⟨S,j13,j14,j15,j115⟩:=hI;rw [QaD] at j15;exact jnW hb S bq he j13 j14 j15 K Kp hK
end Go.Sy
end
noncomputable section
set_option maxRecDepth 100000
namespace Go.Sy
open Go.Ev Go.Proofs
variable {base:Bs}
theorem KS.setp {p q:Nat}{v1 v2 v3 mm:AV}{x:Ex}{fm:Bool}{st:St}{ys:List Ex}{ms:List MtT}{vk vm:AV}{L:Sl}{s:St}(S:KS p q v1 v2 v3 mm x fm st ys ms vk vm L s)(b:Bool):KS p q v1 v2 v3 mm x b st ys ms vk vm L (Go.Sy.wr s p 4 [.bool b]):=by
 obtain ⟨k,nx,qn,hp,Cp,C0,C1,C2,C3,lk,lm,df,i0,i3,i4,i5,i6,i7⟩:=S;have h0:=C0.lt;have h1:=C1.lt;have h2:=C2.lt;have h3:=C3.lt;exact ⟨k.wr (.inl rfl) _ _,by rw [jh]; exact nx,qn,hp,Cp.wr 4 [.bool b],by (first | exact C0 | (simp (disch:=first | assumption | decide | (first | omega | (simp only [jg,jh,jl,jj,ji]; first | done | omega))) only [jz,jA,jr,jO,jC,jE,jF,jG]; exact C0)),by (first | exact C1 | (simp (disch:=first | assumption | decide | (first | omega | (simp only [jg,jh,jl,jj,ji]; first | done | omega))) only [jz,jA,jr,jO,jC,jE,jF,jG]; exact C1)),by (first | exact C2 | (simp (disch:=first | assumption | decide | (first | omega | (simp only [jg,jh,jl,jj,ji]; first | done | omega))) only [jz,jA,jr,jO,jC,jE,jF,jG]; exact C2)),by (first | exact C3 | (simp (disch:=first | assumption | decide | (first | omega | (simp only [jg,jh,jl,jj,ji]; first | done | omega))) only [jz,jA,jr,jO,jC,jE,jF,jG]; exact C3)),by (first | exact lk | (simp (disch:=first | assumption | decide | (first | omega | (simp only [jg,jh,jl,jj,ji]; first | done | omega))) only [jz,jA,jr,jO,jC,jE,jF,jG]; exact lk)),by (first | exact lm | (simp (disch:=first | assumption | decide | (first | omega | (simp only [jg,jh,jl,jj,ji]; first | done | omega))) only [jz,jA,jr,jO,jC,jE,jF,jG]; exact lm)),df,i0,i3,i4,i5,i6,i7⟩
set_option maxHeartbeats 4000000 in
theorem jnY (hb:NB base){p q:Nat}{v1 v2 v3 mm:AV}{x:Ex}{fm fm2:Bool}{st:St}{ys:List Ex}{ms:List MtT}{vk vm:AV}{L:Sl}{s:St}(S:KS p q v1 v2 v3 mm x fm2 st ys ms vk vm L s)(hml:ms.length≤1000000)(he:∀ m∈ms,Zt m)
  (i8:Has L 8 (.bool fm)) (K Kp:AV->St->Prop) (hK:KC p v1 v2 v3 mm fm st (zH fm x.op x.num x.name x.line x.col ys ms) K Kp) :
  xC Qaf base jhj L s (iQ st K) (iP st Kp):=by
 have vl:=S.lm.len;have i7:=S.i7;have i0:=S.i0;have i3:=S.i3;have Cp:=S.cp;have C0:=S.c0;have hqp:q≠p:=by have:=S.hp; omega
 have S1:=S.setp fm;have C9:=S1.cp;have ee:∀ b,(decide (ms.length=0) || decide (2<ms.length) || (Yc x.op && !fm))=b->xC Qaf base jc7 ((15,.bool b) :: (14,.int .i64 (qW x.op).2) :: (13,.int .i64 (qW x.op).1) :: L) (wr s p 4 [.bool fm]) (iQ st K) (iP st Kp):=λb hb2=>jnX hb (((S1.push (by decide)).push (by decide)).push (by decide)) hb2 hml he (by simp (disch:=decide) only [jb,je]) (by simp (disch:=decide) only [jb,je]) (by simp only [je]) K Kp hK;unfold jhj;try dsimp only [oo,oO,ot,oT,os,og,oh,oc,on,oN,oP]
 (have zz:=aI @Cp.r C0.r; (repeat' (first | (apply jc <;> intro _) | simp (disch:=first | exact qq | fail) only [ja i0,ja i3,ja i7,ja i8,vl,jj7 hb,jm1 hb,Cp.q,C0.q,Cp.r,C0.r,jd,jo,jn,jf,jt,ju,jx,jy,jv,rzZ,Qab,Qac,Qad,Qaa,Qae])); (all_goals (clear zz)))
 all_goals refine ee _ ?_
 all_goals clear ee S1 S hK
 all_goals clear vl
 all_goals (cases fm <;> simp_all <;> first | omega | (left; omega))
end Go.Sy
end
noncomputable section
set_option maxRecDepth 100000
namespace Go.Sy
open Go.Ev Go.Proofs
variable {base:Bs}
theorem Lr.bare {s:St}{v:AV}{n:Nat}{cs:List AV}(h:Lr s v n cs):Lr s.bare v n cs:=by
 rcases h with e | e | ⟨b,m,z,x,e,h1,h2⟩
 ·exact .inl e
 ·exact .inr (.inl e)
 ·exact .inr (.inr ⟨b,m,z,x,e,h1,h2.bar⟩)
theorem Ck.bare {p:Nat}{v1 v2 v3 mm:AV}{vars:List VarT}{enums:List EnumT}{fm:Bool}{s:St}(h:Ck p v1 v2 v3 mm vars enums fm s):Ck p v1 v2 v3 mm vars enums fm s.bare:=⟨h.cl.bar,h.l1.bare,h.l2.bare,h.n1,h.n2⟩
section
variable {p q:Nat} {v1 v2 v3 mm:AV} {x:Ex} {fm:Bool} {st:St} {ys:List Ex} {ms:List MtT} {vk vm:AV} {L:Sl} {s t:St}
theorem KS.keep' (S:KS p q v1 v2 v3 mm x fm st ys ms vk vm L s)(k:Keep p s t){fm':Bool}(C:Cl t p [v1,v2,v3,mm,.bool fm']):KS p q v1 v2 v3 mm x fm' st ys ms vk vm L t:=by
 obtain ⟨k',nx,qn,hp,Cp,C0,C1,C2,C3,lk,lm,df,i0,i3,i4,i5,i6,i7⟩:=S;exact ⟨k'.trans k,by have:=k.nx; omega,qn,hp,C,k.cl C0 (by omega),k.cl C1 (by omega),k.cl C2 (by omega),k.cl C3 (by omega),(k.lv lk (.inl (by omega))).up k.nx,(k.lv lm (.inl (by omega))).up k.nx,df,i0,i3,i4,i5,i6,i7⟩
theorem KS.kid (S:KS p q v1 v2 v3 mm x fm st ys ms vk vm L s)(y:Ex):KS p q v1 v2 v3 mm x fm st (ys ++ [y]) ms (apv 6 vk s) vm L (Go.Sy.wr (Go.Sy.aps vk s (eE y)) (q+3) 3 [apv 6 vk s]):=by
 obtain ⟨k,nx,qn,hp,Cp,C0,C1,C2,C3,lk,lm,df,i0,i3,i4,i5,i6,i7⟩:=S;have hn:(Go.Sy.wr (Go.Sy.aps vk s (eE y)) (q+3) 3 [apv 6 vk s]).nx=s.nx+1:=by rw [jh,jj]
 have h4:=Cp.lt;have cq:∀ c ds,Cl s c ds->c<q+4->c≠q+3->Cl (Go.Sy.wr (Go.Sy.aps vk s (eE y)) (q+3) 3 [apv 6 vk s]) c ds:=λc ds C h h3=>by
  rw [jz h3,lk.cl s (eE y) ds c (.inl h) (by omega)]; exact C
 refine ⟨(k.aps lk (by show st.nx≤_; omega) (eE y)).wr (.inr (by show st.nx≤_; omega)) _ _,by rw [hn]; omega,qn,hp,cq _ _ Cp (by omega) (by omega),cq _ _ C0 (by omega) (by omega),cq _ _ C1 (by omega) (by omega),cq _ _ C2 (by omega) (by omega),?_,?_,?_,?_,i0,i3,i4,i5,i6,i7⟩
 ·have:=(cast (lk.cl s (eE y) _ (q+3) (.inl (by omega)) (by omega)).symm C3:Cl (Go.Sy.aps vk s (eE y)) (q+3) _);exact this.wr 3 [apv 6 vk s]
 ·rw [hn,jC (.inl (by omega)),Qal,QI,Jl];exact lk.put (zJ y) (by omega) rfl
 ·rw [hn,jC (.inl (by omega))];exact (lm.apsD df).up (by omega)
 ·exact (Df.put lm (Qap _)).1
theorem KS.mt (S:KS p q v1 v2 v3 mm x fm st ys ms vk vm L s)(m:MtT):KS p q v1 v2 v3 mm x fm st ys (ms ++ [m]) vk (apv 4 vm s) ((7,apv 4 vm s) :: L) (Go.Sy.aps vm s (mtE m)):=by
 obtain ⟨k,nx,qn,hp,Cp,C0,C1,C2,C3,lk,lm,df,i0,i3,i4,i5,i6,i7⟩:=S;have hn:(Go.Sy.aps vm s (mtE m)).nx=s.nx+1:=by rw [jj]
 have h4:=Cp.lt;have cq:∀ c ds,Cl s c ds->c<q+4->Cl (Go.Sy.aps vm s (mtE m)) c ds:=λc ds C h=>by
  rw [lm.cl s (mtE m) ds c (.inl h) (by omega)]; exact C
 refine ⟨k.aps lm (by show st.nx≤_; omega) (mtE m),by rw [hn]; omega,qn,hp,cq _ _ Cp (by omega),cq _ _ C0 (by omega),cq _ _ C1 (by omega),cq _ _ C2 (by omega),cq _ _ C3 (by omega),?_,?_,?_,?_,?_,?_,?_,?_,?_⟩
 ·rw [hn];exact (lk.apsD (Df.symm df)).up (by omega)
 ·rw [hn,Qal,QI,Jl];exact lm.put (Xp m) (by omega) rfl
 ·exact (Df.put lk (Qap _)).2
 ·rw [jb (by decide)]; exact i0
 ·rw [jb (by decide)]; exact i3
 ·rw [jb (by decide)]; exact i4
 ·rw [jb (by decide)]; exact i5
 ·rw [jb (by decide)]; exact i6
 ·rw [je]; trivial
end
mutual
def Zv:Ex->Bool
 | .mk _ _ _ ks _ _=>decide (ks.length≤1000000) && X8 ks
def X8:List Ex->Bool
 | []=>true
 | x :: xs=>Zv x && X8 xs
end
theorem Wl:∀ {xs:List Ex} {k:Nat} (h:k<xs.length),X8 xs=true->Zv xs[k]=true
 | x :: xs,0,_,h=>by rw [X8,Qar] at h; exact h.1
 | x :: xs,k+1,hk,h=>by rw [X8,Qar] at h; exact Wl (xs:=xs) (k:=k) (by simpa using hk) h.2
def KE (base:Bs)(vars:List VarT)(enums:List EnumT)(x:Ex):Prop:=∀ (p:Nat) (v1 v2 v3 mm:AV) (fm:Bool) (st:St),Ck p v1 v2 v3 mm vars enums fm st->∀ K Kp,KC p v1 v2 v3 mm fm st (qN vars enums fm x) K Kp->XB Qaf base 97 [.ptr p 0,.agg (eE x)] st K Kp
set_option maxHeartbeats 4000000 in
theorem jnZ (hb:NB base){vars:List VarT}{enums:List EnumT}(V:VarsOK vars enums){p q:Nat}{v1 v2 v3 mm:AV}{x:Ex}{fm fm2:Bool}{st:St}{vk vm:AV}{L:Sl}{s:St}(ih:∀ k∈x.kids,KE base vars enums k)(hn:Jj x.kids=true)(hw:x.kids.length≤1000000)(H:Ck p v1 v2 v3 mm vars enums fm st)(S:KS p q v1 v2 v3 mm x fm2 st [] [] vk vm L s)
  (i8:Has L 8 (.bool fm)) (K Kp:AV->St->Prop) (hK:KC p v1 v2 v3 mm fm st (match qh vars enums fm2 x.kids with
   | .er a b d=>.er a b d
   | .ok r=>zH fm x.op x.num x.name x.line x.col r.1 r.2) K Kp) :
  xC Qaf base jc8 L s (iQ st K) (iP st Kp):=by
 have C0:=S.c0;have i3:=S.i3;unfold jc8;try dsimp only [oo,oO,ot,oT,os,og,oh,oc,on,oN,oP]
 (have zz:=C0.r; (repeat' (first | (apply jc <;> intro _) | simp (disch:=first | exact qq | fail) only [ja i3,C0.q,C0.r,jd,jo,jn,jf,jt,ju,jx,jy,jv,rzZ,Qab,Qac,Qad,Qaa,Qae])); (all_goals (clear zz)))
 refine qt x.kids.length (λk L s=>∃ ys ms vk vm,KS p q v1 v2 v3 mm x fm2 st ys ms vk vm L s∧qh vars enums fm2 (x.kids.take k)=.ok (ys,ms)∧Has L 8 (.bool fm)∧Has L 62 (.lst x.kids.length (fl eE x.kids))) (by first | assumption | omega) (by decide) (by simp (disch:=decide) only [je,jb]) (by simp (disch:=decide) only [je,jb]) ?_ (λk L s v h=>(by obtain ⟨ys,ms,vk,vm,h1,h2,h3,h4⟩:=h; exact ⟨ys,ms,vk,vm,h1.push (by decide),h2,by simp (disch:=decide) only [jb]; exact h3,by simp (disch:=decide) only [jb]; exact h4⟩)) (λk L s v h=>(by obtain ⟨ys,ms,vk,vm,h1,h2,h3,h4⟩:=h; exact ⟨ys,ms,vk,vm,h1.push (by decide),h2,by simp (disch:=decide) only [jb]; exact h3,by simp (disch:=decide) only [jb]; exact h4⟩)) (λk L s hk hI hi hn=>?_) (λL s hI=>?_)
 ·refine ⟨[],[],vk,vm,((S.push (by decide)).push (by decide)).push (by decide),by rw [Qbe,qh],?_,?_⟩
  ·simp (disch:=decide) only [jb]; exact i8
  ·simp (disch:=decide) only [jb,je]
 ·obtain ⟨ys,ms,vk,vm,S,he,j8,j62⟩:=hI;have Cp:=S.cp;have C3:=S.c3;have j0:=S.i0;have j6:=S.i6;have j7:=S.i7;repeat' (first | (apply jc <;> intro _) | simp (disch:=first | exact dzG | fail) only [ja j0,ja j62,ja hi,ja hn,jd,jo,jn,jf,jt,ju,jx,jy,jv,rzZ,Qab,Qac,Qad,Qaa,Qae])
  have S0:KS p q v1 v2 v3 mm x fm2 st ys ms vk vm ((10,.ptr s.nx 0) :: L) (Go.Sy.wr (Go.Sy.nw s [.int .i64 0,.int .i64 0,.str [],.nils,.int .i64 0,.int .i64 0]) s.nx 0 (eE x.kids[k])):=
   ((S.push (by decide)).nw _).wr (c:=s.nx) (hi:=s.nx) (Qap _) (by have:=S.lk; (first | exact this | (simp (disch:=first | assumption | decide | (first | omega | (simp only [jg,jh,jl,jj,ji]; first | done | omega))) only [jz,jA,jr,jO,jC,jE,jF,jG]; exact this))) (by have:=S.lm; (first | exact this | (simp (disch:=first | assumption | decide | (first | omega | (simp only [jg,jh,jl,jj,ji]; first | done | omega))) only [jz,jA,jr,jO,jC,jE,jF,jG]; exact this))) S.nx (by rw [jg]; omega)
  refine ih x.kids[k] (Qax hk) p v1 v2 v3 mm fm2 _ (H.bare.keep S0.keep S0.cp) _ _ ?_;cases hx:qN vars enums fm2 x.kids[k] with
  | er a b d=>
   intro s' hk';have e:qh vars enums fm2 x.kids=.er a b d:=by
    have:=Gf (x.kids.drop (k+1)) he hx;rwa [QbD,Qby] at this
   rw [e] at hK;exact hK _ (X6 (S0.keep.trans hk'))
  | ok w=>
   intro s' hk' hC;have S1:=S0.keep' hk' hC;obtain ⟨y,m⟩:=w;have he':qh vars enums fm2 (x.kids.take (k+1))=.ok (ys ++ [y],ms ++ [m]):=by
    rw [Qcg,Qav hk];exact Ge he hx
   generalize Go.Sy.wr (Go.Sy.nw s [.int .i64 0,.int .i64 0,.str [],.nils,.int .i64 0,.int .i64 0]) s.nx 0 (eE x.kids[k])=t0 at *;clear S0;have A1:=λst bv xc xx K h hv=>@Q4 (q+4) s'.nx ys.length 6 st vk (fl eE ys) K 72 bv xc xx h (by decide) (by have:=J5 he; rw [QaJ] at this; omega) (by have:=J5 he; rw [QaJ] at this; omega) hv;have vk1:=S1.lk;have vm1:=S1.lm;have hq:=S1.nx;have C3':=S1.c3;have S2:=((((S1.push (c:=11) (v:=.ptr s'.nx 0) (by decide)).push (c:=12) (v:=.ptr (s'.nx+1) 0) (by decide)).nw [.int .i64 0,.int .i64 0,.str [],.nils,.int .i64 0,.int .i64 0]).nw [.int .i64 0,.str [],.int .i64 0,.int .i64 0]).wr (c:=s'.nx) (o:=0) (ds:=eE y) (hi:=s'.nx) (Qap _) (by (first | exact vk1 | (simp (disch:=first | assumption | decide | (first | omega | (simp only [jg,jh,jl,jj,ji]; first | done | omega))) only [jz,jA,jr,jO,jC,jE,jF,jG]; exact vk1))) (by (first | exact vm1 | (simp (disch:=first | assumption | decide | (first | omega | (simp only [jg,jh,jl,jj,ji]; first | done | omega))) only [jz,jA,jr,jO,jC,jE,jF,jG]; exact vm1))) hq (by (first | omega | (simp only [jg,jh,jl,jj,ji]; first | done | omega)));have S2:=(S2.wr (c:=s'.nx+1) (o:=0) (ds:=mtE m) (hi:=s'.nx) (by omega) (by (first | exact vk1 | (simp (disch:=first | assumption | decide | (first | omega | (simp only [jg,jh,jl,jj,ji]; first | done | omega))) only [jz,jA,jr,jO,jC,jE,jF,jG]; exact vk1))) (by (first | exact vm1 | (simp (disch:=first | assumption | decide | (first | omega | (simp only [jg,jh,jl,jj,ji]; first | done | omega))) only [jz,jA,jr,jO,jC,jE,jF,jG]; exact vm1))) hq (by (first | omega | (simp only [jg,jh,jl,jj,ji]; first | done | omega)))).nw (eE y);have S4:=(S2.kid y).nw (mtE m);have A2:=λbv xc xx K hv=>@Q4 (q+4) _ ms.length 4 _ vm (fl mtE ms) K 40 bv xc xx S4.lm (by decide) (by have:=J5 he; rw [QaJ] at this; omega) (by have:=J5 he; rw [QaJ] at this; omega) hv
   (have zz:=aI @vk1.ln (aI @vk1.rts (aI @jC (aI @jE (aI @jG (aI @vk1 (aI @vm1 (aI @jB (aI @jI (aI @jL @C3'.r))))))))); (repeat' (first | (apply jc <;> intro _) | simp (disch:=first | exact qq | fail) only [ja j0,ja j6,ja j7,A1,A2,vk1.at,jB,C3'.q,vk1.ln,vk1.rts,jC,jE,jG,vk1,vm1,jB,jI,jL,C3'.r,jd,jo,jn,jf,jt,ju,jx,jy,jv,rzZ,Qab,Qac,Qad,Qaa,Qae])); (all_goals (clear zz)))
   refine ⟨⟨_,_,_,_,S4.mt m,he',?_,?_⟩,?_,?_⟩;all_goals (simp (disch:=decide) only [jb]; assumption)
 ·obtain ⟨ys,ms,vk,vm,S,he,j8,j62⟩:=hI;rw [QaD] at he;rw [he] at hK;refine jnY hb S ?_ ?_ j8 K Kp hK
  ·have:=J5 he; omega
  ·exact V6 V hn he
end Go.Sy
end
noncomputable section
set_option maxRecDepth 100000
namespace Go.Sy
open Go.Ev Go.Proofs
variable {base:Bs}
set_option maxHeartbeats 4000000 in
theorem jn0 (hb:NB base){vars:List VarT}{enums:List EnumT}(V:VarsOK vars enums){p q:Nat}{v1 v2 v3 mm:AV}{x:Ex}{fm:Bool}{st:St}{L:Sl}{s:St}(ih:∀ k∈x.kids,KE base vars enums k)(hn:Jj x.kids=true)(hw:x.kids.length≤1000000)(H:Ck p v1 v2 v3 mm vars enums fm st)(hop:x.op≠1∧x.op≠2∧x.op≠3)
  (k:Keep p st.bare s) (hs:s.nx=q+3) (qn:q=st.nx) (hp:p<q) (Cp:Cl s p [v1,v2,v3,mm,.bool fm]) (C0:Cl s q (eE x)) (C1:Cl s (q+1) z6) (C2:Cl s (q+2) z4) (i0:Has L 0 (.ptr p 0)) (i3:Has L 3 (.ptr q 0)) (i4:Has L 4 (.ptr (q+1) 0)) (i5:Has L 5 (.ptr (q+2) 0)) (K Kp:AV->St->Prop) (hK:KC p v1 v2 v3 mm fm st (qN vars enums fm x) K Kp) :
  xC Qaf base jhk L s (iQ st K) (iP st Kp):=by
 rw [wt,if_neg hop.1,if_neg hop.2.1,if_neg hop.2.2] at hK;have hqp:q+3≠p:=by omega
 have hq3:q≠p:=by omega
 have hpq:p≠q+3:=by omega
 have S0:KS p q v1 v2 v3 mm x fm st [] [] .nils .nils ((8,.bool fm) :: (7,.nils) :: (6,.ptr (q+3) 0) :: L) (Go.Sy.wr (Go.Sy.wr (Go.Sy.nw s [.int .i64 0,.int .i64 0,.str [],.nils,.int .i64 0,.int .i64 0]) (q+3) 0 [.int .i64 x.op,.int .i64 x.num,.str x.name,.lst x.kids.length (fl eE x.kids),.int .i64 x.line,.int .i64 x.col]) (q+3) 3 [.nils]):=by
  refine ⟨((k.nw _).wr (.inr (by show st.nx≤_; omega)) _ _).wr (.inr (by show st.nx≤_; omega)) _ _,by (first | omega | (simp only [jg,jh,jl,jj,ji]; first | done | omega)),qn,hp,by (first | exact Cp | (simp (disch:=first | assumption | decide | (first | omega | (simp only [jg,jh,jl,jj,ji]; first | done | omega))) only [jz,jA,jr,jO,jC,jE,jF,jG]; exact Cp)),by (first | exact C0 | (simp (disch:=first | assumption | decide | (first | omega | (simp only [jg,jh,jl,jj,ji]; first | done | omega))) only [jz,jA,jr,jO,jC,jE,jF,jG]; exact C0)),by (first | exact C1 | (simp (disch:=first | assumption | decide | (first | omega | (simp only [jg,jh,jl,jj,ji]; first | done | omega))) only [jz,jA,jr,jO,jC,jE,jF,jG]; exact C1)),by (first | exact C2 | (simp (disch:=first | assumption | decide | (first | omega | (simp only [jg,jh,jl,jj,ji]; first | done | omega))) only [jz,jA,jr,jO,jC,jE,jF,jG]; exact C2)),?_,Lv.nil,Lv.nil,trivial,?_,?_,?_,?_,?_,?_⟩
  ·have:=((hs▸Cl.new s [.int .i64 0,.int .i64 0,.str [],.nils,.int .i64 0,.int .i64 0]:Cl (Go.Sy.nw s [.int .i64 0,.int .i64 0,.str [],.nils,.int .i64 0,.int .i64 0]) (q+3) _).wr 0 [.int .i64 x.op,.int .i64 x.num,.str x.name,.lst x.kids.length (fl eE x.kids),.int .i64 x.line,.int .i64 x.col]).wr 3 [.nils];exact this
  all_goals (simp (disch:=decide) only [jb,je]; try assumption)
 have ee:∀ b,(fm && decide (x.op≠17) && decide (x.op≠18))=b->xC Qaf base jc8 ((8,.bool fm) :: (7,.nils) :: (6,.ptr (q+3) 0) :: L) (Go.Sy.wr (Go.Sy.wr (Go.Sy.wr (Go.Sy.nw s [.int .i64 0,.int .i64 0,.str [],.nils,.int .i64 0,.int .i64 0]) (q+3) 0 [.int .i64 x.op,.int .i64 x.num,.str x.name,.lst x.kids.length (fl eE x.kids),.int .i64 x.line,.int .i64 x.col]) (q+3) 3 [.nils]) p 4 [.bool b]) (iQ st K) (iP st Kp):=λb e=>by
  rw [e] at hK;exact jnZ hb V ih hn hw H (S0.setp b) (by simp only [je]) K Kp hK
 unfold jhk;try dsimp only [oo,oO,ot,oT,os,og,oh,oc,on,oN,oP]
 (have zz:=aI @hs (aI @Cp.r C0.r); (repeat' (first | (apply jc <;> intro _) | simp (disch:=first | exact qq | fail) only [ja i0,ja i3,hs,Cp.q,C0.q,hs,Cp.r,C0.r,jd,jo,jn,jf,jt,ju,jx,jy,jv,rzZ,Qab,Qac,Qad,Qaa,Qae])); (all_goals (clear zz)))
 all_goals refine ee _ ?_
 all_goals clear ee S0 hK
 all_goals (cases fm <;> simp_all)
end Go.Sy
end
noncomputable section
set_option maxRecDepth 100000
namespace Go.Sy
open Go.Ev Go.Proofs
variable {base:Bs}
set_option maxHeartbeats 4000000 in
theorem jn1 (hb:NB base){vars:List VarT}{enums:List EnumT}(V:VarsOK vars enums){p q:Nat}{v1 v2 v3 mm:AV}{x:Ex}{fm:Bool}{st:St}{L:Sl}{s:St}(ih:∀ k∈x.kids,KE base vars enums k)(hn:Jj x.kids=true)(hw:x.kids.length≤1000000)(H:Ck p v1 v2 v3 mm vars enums fm st)
  (k:Keep p st.bare s) (hs:s.nx=q+3) (qn:q=st.nx) (hp:p<q) (Cp:Cl s p [v1,v2,v3,mm,.bool fm]) (C0:Cl s q (eE x)) (C1:Cl s (q+1) z6) (C2:Cl s (q+2) z4) (i0:Has L 0 (.ptr p 0)) (i3:Has L 3 (.ptr q 0)) (i4:Has L 4 (.ptr (q+1) 0)) (i5:Has L 5 (.ptr (q+2) 0)) (K Kp:AV->St->Prop) (hK:KC p v1 v2 v3 mm fm st (qN vars enums fm x) K Kp) :
  xC Qaf base Ua L s (iQ st K) (iP st Kp):=by
 have nk:=λK Kp=>jkB hb V x s (H.bare.keep k Cp) K Kp;have fin:∀ (y:Ex) (m:MtT) (s':St),Keep p st.bare s'->Cl s' p [v1,v2,v3,mm,.bool fm]->qN vars enums fm x=.ok (y,m)->∃ u ks,fz 9 s'.h (.tup [.agg (eE y),.agg (mtE m)])=some (u,ks)∧K u (back st (kills ks s')):=λy m s' k' C h=>by
  rw [h] at hK;exact VG (m:=st.nx) (cs:=[v1,v2,v3,mm,.bool fm]) (FzD.tup (.cons (FzD.agg (.pc (qQ y))) (.cons (.agg (.pc (Yl m))) .nil))) (Qap _) (by omega) k' C hK
 by_cases h1:x.op=1
 ·have e:=wt vars enums fm x;rw [if_pos h1] at e;unfold Ua iQ iP y97;try dsimp only [oo,oO,ot,oT,os,og,oh,oc,on,oN,oP]
  unfold z6 z4 at *;try dsimp only [oo,oO,ot,oT,os,og,oh,oc,on,oN,oP]
  have f:=fin x ⟨1,[],x.num,x.num⟩ (Go.Sy.wr (Go.Sy.wr s (q+1) 0 (eE x)) (q+2) 0 (mtE ⟨1,[],x.num,x.num⟩)) ((k.wr (.inr (by show st.nx≤_; omega)) _ _).wr (.inr (by show st.nx≤_; omega)) _ _) (by (first | exact Cp | (simp (disch:=first | assumption | decide | (first | omega | (simp only [jg,jh,jl,jj,ji]; first | done | omega))) only [jz,jA,jr,jO,jC,jE,jF,jG]; exact Cp))) e;rw [qv,h1] at f
  (have zz:=aI @Cp.r (aI C0.r (aI C1.r C2.r)); (repeat' (first | (apply jc <;> intro _) | simp (disch:=first | exact qq | fail) only [ja i0,ja i3,ja i4,ja i5,h1,Qm,sm2,Cp.q,C0.q,C1.q,C2.q,Cp.r,C0.r,C1.r,C2.r,jd,jo,jn,jf,jt,ju,jx,jy,jv,rzZ,Qab,Qac,Qad,Qaa,Qae])); (all_goals (clear zz)))
  refine ⟨?_,f⟩;have a1:rat s.h q 1=.int .i64 x.num:=(C0.cell 1 (by rw [zJ]; decide)).trans (by rw [gj]; rfl);exact ⟨(sm2 (by rw [C0.len,zJ]; decide) a1 rfl).mpr trivial,(sm2 (by rw [QD,C0.len,zJ]; decide) (by rw [Zj (by omega)]; exact a1) rfl).mpr trivial⟩
 ·by_cases h2:x.op=2
  ·have e:=wt vars enums fm x;rw [if_neg h1,if_pos h2] at e;unfold Ua iQ iP y97;try dsimp only [oo,oO,ot,oT,os,og,oh,oc,on,oN,oP]
   unfold z6 z4 at *;try dsimp only [oo,oO,ot,oT,os,og,oh,oc,on,oN,oP]
   have f:=fin x ⟨2,[],0,1⟩ (Go.Sy.wr (Go.Sy.wr s (q+1) 0 (eE x)) (q+2) 0 (mtE ⟨2,[],0,1⟩)) ((k.wr (.inr (by show st.nx≤_; omega)) _ _).wr (.inr (by show st.nx≤_; omega)) _ _) (by (first | exact Cp | (simp (disch:=first | assumption | decide | (first | omega | (simp only [jg,jh,jl,jj,ji]; first | done | omega))) only [jz,jA,jr,jO,jC,jE,jF,jG]; exact Cp))) e;rw [qv,h2] at f
   (have zz:=aI @Cp.r (aI C0.r (aI C1.r C2.r)); (repeat' (first | (apply jc <;> intro _) | simp (disch:=first | exact qq | fail) only [ja i0,ja i3,ja i4,ja i5,h2,Cp.q,C0.q,C1.q,C2.q,Cp.r,C0.r,C1.r,C2.r,jd,jo,jn,jf,jt,ju,jx,jy,jv,rzZ,Qab,Qac,Qad,Qaa,Qae])); (all_goals (clear zz)))
   exact f
  ·by_cases h3:x.op=3
   ·have e:=wt vars enums fm x;rw [if_neg h1,if_neg h2,if_pos h3] at e;rw [qv,h3] at nk;unfold z6 z4 at *;try dsimp only [oo,oO,ot,oT,os,og,oh,oc,on,oN,oP]
    cases hr:zm vars enums x with
    | er a b d=>
     rw [e,hr] at hK;rw [hr] at nk;unfold Ua;try dsimp only [oo,oO,ot,oT,os,og,oh,oc,on,oN,oP]
     (have zz:=aI @Cp.r (aI C0.r (aI C1.r C2.r)); (repeat' (first | (apply jc <;> intro _) | simp (disch:=first | exact qq | fail) only [ja i0,ja i3,ja i4,ja i5,h3,nk,kO,jdC,Cp.q,C0.q,C1.q,C2.q,Cp.r,C0.r,C1.r,C2.r,jd,jo,jn,jf,jt,ju,jx,jy,jv,rzZ,Qab,Qac,Qad,Qaa,Qae])); (all_goals (clear zz)))
     exact hK _ (X6 k)
    | ok y=>
     obtain ⟨y,m⟩:=y;have f:=fin y m (Go.Sy.wr (Go.Sy.wr s (q+1) 0 (eE y)) (q+2) 0 (mtE m)) ((k.wr (.inr (by show st.nx≤_; omega)) _ _).wr (.inr (by show st.nx≤_; omega)) _ _) (by (first | exact Cp | (simp (disch:=first | assumption | decide | (first | omega | (simp only [jg,jh,jl,jj,ji]; first | done | omega))) only [jz,jA,jr,jO,jC,jE,jF,jG]; exact Cp))) (e.trans hr);rw [hr] at nk;unfold Ua iQ iP y97;try dsimp only [oo,oO,ot,oT,os,og,oh,oc,on,oN,oP]
     (have zz:=aI @Cp.r (aI C0.r (aI C1.r C2.r)); (repeat' (first | (apply jc <;> intro _) | simp (disch:=first | exact qq | fail) only [ja i0,ja i3,ja i4,ja i5,h3,nk,kO,jdD,Cp.q,C0.q,C1.q,C2.q,Cp.r,C0.r,C1.r,C2.r,jd,jo,jn,jf,jt,ju,jx,jy,jv,rzZ,Qab,Qac,Qad,Qaa,Qae])); (all_goals (clear zz)))
     exact f
   ·have ee:=λL (j0:Has L 0 (.ptr p 0)) (j3:Has L 3 (.ptr q 0)) (j4:Has L 4 (.ptr (q+1) 0)) (j5:Has L 5 (.ptr (q+2) 0))=>jn0 hb V ih hn hw H ⟨h1,h2,h3⟩ k hs qn hp Cp C0 C1 C2 j0 j3 j4 j5 K Kp hK;unfold Ua;try dsimp only [oo,oO,ot,oT,os,og,oh,oc,on,oN,oP]
    (have zz:=C0.r; (repeat' (first | (apply jc <;> intro _) | simp (disch:=first | exact qq | fail) only [ja i0,ja i3,h1,h2,h3,C0.q,C0.r,jd,jo,jn,jf,jt,ju,jx,jy,jv,rzZ,Qab,Qac,Qad,Qaa,Qae])); (all_goals (clear zz)))
    refine ee _ ?_ ?_ ?_ ?_;all_goals (simp (disch:=decide) only [jb]; assumption)
theorem jnV (hb:NB base){vars:List VarT}{enums:List EnumT}(V:VarsOK vars enums):∀ x:Ex,Xo x=true->Zv x=true->KE base vars enums x:=by
 refine Ex.indk λx ih hn hw p v1 v2 v3 mm fm st H K Kp hK=>?_;have hn':Jj x.kids=true:=by cases x; rw [Xo,Qar] at hn; exact hn.2
 have hw':x.kids.length≤1000000∧X8 x.kids=true:=by cases x; rw [Zv,Qar,decide_eq_true_eq] at hw; exact hw
 have ih':∀ k∈x.kids,KE base vars enums k:=λk hk=>by
  obtain ⟨i,hi,rfl⟩:=QbH.1 hk;exact ih _ hk (gV hi hn') (Wl hi hw'.2)
 refine jaS x97 (by rfl) (hb.pur 97 2 (by decide)) (hb.no 97 (by decide) _ _) ?_;simp only [y97,jm,Qai,Qaj,Qag,Qah];have Cp:=H.cl.bar;have h0:p<st.nx:=H.cl.lt;have hB:st.bare.nx=st.nx:=rfl;unfold z97;try dsimp only [oo,oO,ot,oT,os,og,oh,oc,on,oN,oP]
 (have zz:=@Cp.r; (repeat' (first | (apply jc <;> intro _) | simp (disch:=first | exact qq | fail) only [Cp.q,Cp.r,jd,jo,jn,jf,jt,ju,jx,jy,jv,rzZ,Qab,Qac,Qad,Qaa,Qae])); (all_goals (clear zz)))
 have Hc:=H.cl;have n0:Cl (Go.Sy.nw st.bare (eE x)) st.nx (eE x):=Cl.new st.bare (eE x);have n1:Cl (Go.Sy.nw (Go.Sy.nw st.bare (eE x)) z6) (st.nx+1) z6:=Cl.new _ _;have n2:Cl (Go.Sy.nw (Go.Sy.nw (Go.Sy.nw st.bare (eE x)) z6) z4) (st.nx+2) z4:=Cl.new _ _;refine jn1 (L:=[(5,.ptr (st.nx+1+1) 0),(4,.ptr (st.nx+1) 0),(3,.ptr st.nx 0),(0,.ptr p 0),(1,.agg (eE x))]) (s:=Go.Sy.nw (Go.Sy.nw (Go.Sy.nw st.bare (eE x)) z6) z4) (st:=st) hb V ih' hn' hw'.1 H ((((Keep.refl (s:=st.bare)).nw _).nw _).nw _) rfl rfl h0 (by (first | exact Hc | (simp (disch:=first | assumption | decide | (first | omega | (simp only [jg,jh,jl,jj,ji]; first | done | omega))) only [jz,jA,jr,jO,jC,jE,jF,jG]; exact Hc))) (by (first | exact n0 | (simp (disch:=first | assumption | decide | (first | omega | (simp only [jg,jh,jl,jj,ji]; first | done | omega))) only [jz,jA,jr,jO,jC,jE,jF,jG]; exact n0))) (by (first | exact n1 | (simp (disch:=first | assumption | decide | (first | omega | (simp only [jg,jh,jl,jj,ji]; first | done | omega))) only [jz,jA,jr,jO,jC,jE,jF,jG]; exact n1))) n2 ?_ ?_ ?_ ?_ K Kp hK;all_goals exact ⟨rfl,rfl⟩
end Go.Sy
end
noncomputable section
set_option maxRecDepth 100000
namespace Go.Sy
open Go.Ev Go.Proofs
variable {base:Bs}
def qE (vars:List VarT)(enums:List EnumT)(fm:Bool)(x:Ex)(w:Int)(en:List Nat):KR Ex:=match qN vars enums fm x with
 | .er a b c=>.er a b c
 | .ok r=>if r.2.kind≠w∨r.2.enum≠en then .er 163 x.line x.col else .ok r.1
def KT (p:Nat)(v1 v2 v3 mm:AV)(fm:Bool)(st:St)(r:KR Ex)(K Kp:AV->St->Prop):Prop:=match r with
 | .ok y=>∀ s',Keep p st s'->Cl s' p [v1,v2,v3,mm,.bool fm]->K (.agg (eE y)) s'
 | .er c l k=>∀ s',Keep p st s'->Kp (kf c l k) s'
set_option maxHeartbeats 4000000 in
theorem Vf (hb:NB base){vars:List VarT}{enums:List EnumT}(V:VarsOK vars enums)(x:Ex)(hn:Xo x=true)(hw:Zv x=true)(w:Int)(en:List Nat){p:Nat}{v1 v2 v3 mm:AV}{fm:Bool}{st:St}(H:Ck p v1 v2 v3 mm vars enums fm st)(K Kp:AV->St->Prop)(hK:KT p v1 v2 v3 mm fm st (qE vars enums fm x w en) K Kp):XB Qaf base 60 [.ptr p 0,.agg (eE x),.int .i64 w,.str en] st K Kp:=by
 refine jaS x60 (by rfl) (hb.pur 60 2 (by decide)) (hb.no 60 (by decide) _ _) ?_;simp only [y60,jm,Qai,Qaj,Qag,Qah];have Hc:=H.cl;have Cp:=H.cl.bar;have h0:p<st.nx:=H.cl.lt;have hB:st.bare.nx=st.nx:=rfl;have k1:Keep p st.bare (Go.Sy.nw (Go.Sy.nw st.bare (eE x)) [.int .i64 0,.int .i64 0,.str [],.nils,.int .i64 0,.int .i64 0]):=(Keep.refl.nw _).nw _;have C1:Cl (Go.Sy.nw (Go.Sy.nw st.bare (eE x)) [.int .i64 0,.int .i64 0,.str [],.nils,.int .i64 0,.int .i64 0]) p [v1,v2,v3,mm,.bool fm]:=by (first | exact Hc | (simp (disch:=first | assumption | decide | (first | omega | (simp only [jg,jh,jl,jj,ji]; first | done | omega))) only [jz,jA,jr,jO,jC,jE,jF,jG]; exact Hc))
 have n0:Cl (Go.Sy.nw st.bare (eE x)) st.nx (eE x):=Cl.new st.bare (eE x);have n0:Cl (Go.Sy.nw (Go.Sy.nw st.bare (eE x)) [.int .i64 0,.int .i64 0,.str [],.nils,.int .i64 0,.int .i64 0]) st.nx (eE x):=by (first | exact n0 | (simp (disch:=first | assumption | decide | (first | omega | (simp only [jg,jh,jl,jj,ji]; first | done | omega))) only [jz,jA,jr,jO,jC,jE,jF,jG]; exact n0))
 have n1:Cl (Go.Sy.nw (Go.Sy.nw st.bare (eE x)) [.int .i64 0,.int .i64 0,.str [],.nils,.int .i64 0,.int .i64 0]) (st.nx+1) [.int .i64 0,.int .i64 0,.str [],.nils,.int .i64 0,.int .i64 0]:=Cl.new _ _;unfold z60;try dsimp only [oo,oO,ot,oT,os,og,oh,oc,on,oN,oP]
 repeat' (first | (apply jc <;> intro _) | simp (disch:=first | exact dzG | fail) only [jd,jo,jn,jf,jt,ju,jx,jy,jv,rzZ,Qab,Qac,Qad,Qaa,Qae])
 refine jnV hb V x hn hw p v1 v2 v3 mm fm _ (H.bare.keep k1 C1) _ _ ?_;unfold qE at hK;cases hr:qN vars enums fm x with
 | er a b c=>
  rw [hr] at hK;intro s' k2;exact hK _ (X6 (k1.trans k2))
 | ok y=>
  rw [hr] at hK;obtain ⟨y,m⟩:=y;intro s' k2 C2;have k3:=k1.trans k2;have m0:=k2.cl n0 (by omega);have m1:=k2.cl n1 (by omega);have hnx:=k2.nx;have hnx:st.nx+2≤s'.nx:=hnx;have hK:KT p v1 v2 v3 mm fm st (if m.kind≠w∨m.enum≠en then .er 163 x.line x.col else .ok y) K Kp:=hK;generalize Go.Sy.nw (Go.Sy.nw st.bare (eE x)) [.int .i64 0,.int .i64 0,.str [],.nils,.int .i64 0,.int .i64 0]=t0 at *
  (have zz:=aI @m0.r @m1.r; (repeat' (first | (apply jc <;> intro _) | simp (disch:=first | exact qq | fail) only [zB hb,m0.q,m1.q,m0.r,m1.r,jd,jo,jn,jf,jt,ju,jx,jy,jv,rzZ,Qab,Qac,Qad,Qaa,Qae])); (all_goals (clear zz)))
  ·rw [if_pos (.inl (by assumption))] at hK;exact hK _ (X6 ((((k3.nw _).nw _).wr (.inr (by show st.nx≤_; omega)) _ _).wr (.inr (by show st.nx≤_; omega)) _ _))
  ·rw [if_pos (.inr (by assumption))] at hK;exact hK _ (X6 ((((k3.nw _).nw _).wr (.inr (by show st.nx≤_; omega)) _ _).wr (.inr (by show st.nx≤_; omega)) _ _))
  ·rename_i h1 h2;rw [if_neg (by rintro (h | h) <;> contradiction)] at hK;refine VG (m:=st.nx) (cs:=[v1,v2,v3,mm,.bool fm]) (FzD.agg (.pc (qQ y))) (Qap _) h0 (((((k3.nw _).nw _).wr (.inr (by show st.nx≤_; omega)) _ _).wr (.inr (by show st.nx≤_; omega)) _ _).wr (.inr (by show st.nx≤_; omega)) _ _) (by (first | exact C2 | (simp (disch:=first | assumption | decide | (first | omega | (simp only [jg,jh,jl,jj,ji]; first | done | omega))) only [jz,jA,jr,jO,jC,jE,jF,jG]; exact C2))) hK
end Go.Sy
end
noncomputable section
set_option maxRecDepth 100000
namespace Go.Sy
open Go.Ev Go.Proofs
variable {base:Bs}
section
variable {P:Program} {e:En} {st s:St} {K:AV->St->Prop}
def jdI (st:St):ER:=st.alloc (.map []) λb st=>.ok (.map b) st
def jdJ (P:Program)(t:TypeId)(ok:Bool)(m k:AV)(st:St):ER:=(QW P t (O m) (O k) ok).run E0 st
def jhI (P:Program)(t:TypeId)(m k v:AV)(st:St):ER:=(zX P t (O m) (O k) (O v)).run E0 st
theorem jpo:wK P base (.i .mkMap) e st K=jk (jdI st) K:=k_0 (V:=jdI) rfl (λ_=>rfl) K
theorem jgj (t:TypeId)(m k:A)(ok:Bool):wK P base (.i (.look t m k ok)) e st K=on1 e m λv=>on1 e k λu=>jk (jdJ P t ok v u st) K:=k_2 rfl (λ_=>rfl) K
theorem jjC (t:TypeId)(m k x:A):wK P base (.i (.upd t m k x)) e st K=on1 e m λv=>on1 e k λu=>on1 e x λw=>jk (jhI P t v u w st) K:=k_3 rfl (λ_=>rfl) K
def mpl (ts:List (List Nat)):List (AV×AV):=ts.map λt=>(.str t,.int .i64 1)
def mp (s:St)(b:Nat)(es:List (AV×AV)):St:=⟨s.nx,(j9 (jM b)).run (.map es) s.h,min s.dirty b,s.fr⟩
def nmp (s:St):St:=⟨s.nx+1,(j9 (jM s.nx)).run (.map []) s.h,s.dirty,s.fr⟩
theorem jdE (s:St)(b:Nat)(es:List (AV×AV)):(mp s b es).nx=s.nx:=nr rfl
theorem jpl (s:St):(nmp s).nx=s.nx+1:=nr rfl
theorem kU (s:St)(b c:Nat)(es:List (AV×AV)):jq (mp s b es).h c=if c=b then some (.map es) else jq s.h c:=by unfold mp; rw [jY]
theorem jgt (s:St)(c:Nat):jq (nmp s).h c=if c=s.nx then some (.map []) else jq s.h c:=by unfold nmp; rw [jY]
structure Mp (s:St)(b:Nat)(ts:List (List Nat)):Prop where
 lt:b<s.nx
 get:jq s.h b=some (.map (mpl ts))
theorem Mp.new (s:St):Mp (nmp s) s.nx []:=⟨by rw [jpl]; omega,by rw [jgt,if_pos rfl]; rfl⟩
theorem Mp.keep {b:Nat}{ts:List (List Nat)}{t:St}(h:Mp s b ts)(h1:s.nx≤t.nx)(h2:jq t.h b=jq s.h b):Mp t b ts:=⟨QaN h.lt h1,h2.trans h.get⟩
theorem Mp.put {b:Nat}{ts us:List (List Nat)}(h:Mp s b ts):Mp (mp s b (mpl us)) b us:=⟨by rw [jdE]; exact h.lt,by rw [kU,if_pos rfl]⟩
theorem joV:jk (jdI st) K=K (.map st.nx) (nmp st):=by
 unfold jdI;rw [St.alloc_eq];rfl
end
theorem jjd:Tryz.prog.underlying 114=some (.map 9 3):=by kernel_rfl
theorem jmW:Tryz.prog.underlying 9=some .string:=by kernel_rfl
theorem ze3:UE Qaf 3=some (.int .i64 0):=by kernel_rfl
theorem kf9 (s:List Nat):(Zm Qaf 9).run (.str s)=true:=by unfold Zm; rw [jmW]
theorem eq9 (s t:List Nat):(eqF Qaf 20 9).run (.str s) (.str t)=some (decide (s=t)):=by
 show (eqF Qaf (19+1) 9).run (.str s) (.str t)=_;unfold eqF; rw [jmW,←JD]
theorem jcK (nm:List Nat):∀ ts:List (List Nat),uX (eqF Qaf 20 9) (.str nm) (mpl ts)=some (if nm∈ts then some (.int .i64 1) else none)
 | []=>rfl
 | t :: ts=>by
  show (match (eqF Qaf 20 9).run (.str nm) (.str t) with | some b=>cond b (some (some (AV.int .i64 1))) (uX (eqF Qaf 20 9) (.str nm) (mpl ts)) | none=>none)=_;rw [eq9,jcK nm ts];by_cases h:nm=t
  ·simp [h]
  ·simp [h]
theorem jff (nm:List Nat):∀ ts:List (List Nat),nm∉ts->Wn (eqF Qaf 20 9) (.str nm) (.int .i64 1) (mpl ts)=some (mpl (ts ++ [nm]))
 | [],_=>rfl
 | t :: ts,h=>by
  have h1:nm≠t:=λe=>h (by simp [e]);have h2:=jff nm ts λe=>h (by simp [e]);show (match (eqF Qaf 20 9).run (.str nm) (.str t) with
   | some b=>cond b (cond (VK (.str nm) (.str t)) (some (QaX (AV.str nm,AV.int .i64 1) (mpl ts))) none) (match Wn (eqF Qaf 20 9) (.str nm) (.int .i64 1) (mpl ts) with | some l=>some (QaX (AV.str t,AV.int .i64 1) l) | none=>none)
   | none=>none)=_
  rw [eq9,h2];simp [h1,mpl]
section
variable {st:St} {K:AV->St->Prop}
theorem jmQ {b:Nat}{ts:List (List Nat)}(h:Mp st b ts)(nm:List Nat):jk (jdJ Qaf 114 false (.map b) (.str nm) st) K=K (.int .i64 (if nm∈ts then 1 else 0)) st:=by
 unfold jdJ QW;rw [jjd];simp only [ze3];show jk (cond ((Zm Qaf 9).run (.str nm)) (YY (jq st.h b) λes=>jR (uX (eqF Qaf 20 9) (.str nm) es) λo=>_) .no) K=_;rw [kf9,h.get];show jk (jR (uX (eqF Qaf 20 9) (.str nm) (mpl ts)) λo=>_) K=_;rw [jcK];by_cases h:nm∈ts
 ·simp only [if_pos h]; rfl
 ·simp only [if_neg h]; rfl
theorem joQ {b:Nat}{ts:List (List Nat)}(h:Mp st b ts){nm:List Nat}(hn:nm∉ts):jk (jhI Qaf 114 (.map b) (.str nm) (.int .i64 1) st) K=K qd (mp st b (mpl (ts ++ [nm]))):=by
 unfold jhI zX;rw [jjd];show jk (cond ((Zm Qaf 9).run (.str nm)) (YY (jq st.h b) λes=>jR (Wn (eqF Qaf 20 9) (.str nm) (.int .i64 1) es) λes=>st.put b (.map es) λst=>.ok qd st) .no) K=_;rw [kf9,h.get];show jk (jR (Wn (eqF Qaf 20 9) (.str nm) (.int .i64 1) (mpl ts)) λes=>st.put b (.map es) λst=>.ok qd st) K=_;rw [jff nm ts hn];show jk (st.put b (.map (mpl (ts ++ [nm]))) λst=>.ok qd st) K=_;rw [St.put_eq];rfl
end
end Go.Sy
end
noncomputable section
set_option maxRecDepth 100000
namespace Go.Sy
open Go.Ev Go.Proofs
variable {base:Bs}
set_option maxHeartbeats 4000000 in
theorem UR (hb:NB base){p mb:Nat}{v1 v2 v3:AV}{fm:Bool}{ts:List (List Nat)}{st:St}(C:Cl st p [v1,v2,v3,.map mb,.bool fm])(M:Mp st mb ts)(nm:List Nat)(l c:Int)(K Kp:AV->St->Prop)
  (hK:if nm∈ts then Kp (kf 162 l c) st else K (.tup []) (mp st mb (mpl (ts ++ [nm])))):XB Qaf base 63 [.ptr p 0,.str nm,.int .i64 l,.int .i64 c] st K Kp:=by
 refine Jc x63 (by rfl) (hb.at0 63 (by decide) (by decide) _ _) ?_;simp only [y63,jm,Qai,Qaj,Qag,Qah];unfold z63;try dsimp only [oo,oO,ot,oT,os,og,oh,oc,on,oN,oP]
 have M:Mp st.bare mb ts:=⟨M.lt,M.get⟩;have hK:if nm∈ts then Kp (kf 162 l c) (bk st st.bare) else K (.tup []) (bk st (mp st.bare mb (mpl (ts ++ [nm])))):=hK
 have C:=C.bar;have hbk:bk st st.bare=st:=rfl;have hbc:back st st.bare=st:=rfl;have hbb:st.bare.bare=st.bare:=rfl;generalize st.bare=s0 at *;have L1:=λK nm=>jmQ (st:=s0) (K:=K) M nm;by_cases h:nm∈ts
 ·rw [if_pos h] at hK
  (have zz:=C.r; (repeat' (first | (apply jc <;> intro _) | simp (disch:=first | exact qq | fail) only [jgj,jjC,L1,h,if_true,zB hb,C.q,C.r,jd,jo,jn,jf,jt,ju,jx,jy,jv,rzZ,Qab,Qac,Qad,Qaa,Qae])); (all_goals (clear zz)))
  exact hK
 ·rw [if_neg h] at hK;have U1:=λK=>joQ (st:=s0) (K:=K) M h
  (have zz:=C.r; (repeat' (first | (apply jc <;> intro _) | simp (disch:=first | exact qq | fail) only [jgj,jjC,L1,U1,h,if_false,show ((0:Int)+1)=1 from rfl,zB hb,C.q,C.r,jd,jo,jn,jf,jt,ju,jx,jy,jv,rzZ,Qab,Qac,Qad,Qaa,Qae])); (all_goals (clear zz)))
  exact hK
end Go.Sy
end
noncomputable section
set_option maxRecDepth 100000
namespace Go.Sy
open Go.Ev Go.Proofs
variable {base:Bs}
structure Kq (p mb lo:Nat)(s s':St):Prop where
 nx:s.nx≤s'.nx
 fr:s'.fr=s.fr
 get:∀ b,b<lo->b≠p->b≠mb->jq s'.h b=jq s.h b
section
variable {p mb lo:Nat} {s t u:St}
theorem Kq.refl:Kq p mb lo s s:=⟨Qap _,rfl,λ_ _ _ _=>rfl⟩
theorem Kq.trans (h:Kq p mb lo s t)(k:Kq p mb lo t u):Kq p mb lo s u:=⟨Qau h.nx k.nx,k.fr.trans h.fr,λb h1 h2 h3=>(k.get b h1 h2 h3).trans (h.get b h1 h2 h3)⟩
theorem Kq.nw (h:Kq p mb lo s t)(hl:lo≤t.nx)(ds:List AV):Kq p mb lo s (Go.Sy.nw t ds):=⟨Qcv h.nx,h.fr,λb h1 h2 h3=>(Je (by omega)).trans (h.get b h1 h2 h3)⟩
theorem Kq.wr (h:Kq p mb lo s t){c:Nat}(hc:c=p∨lo≤c)(o:Nat)(vs:List AV):Kq p mb lo s (Go.Sy.wr t c o vs):=⟨h.nx,h.fr,λb h1 h2 h3=>(zN (by omega)).trans (h.get b h1 h2 h3)⟩
theorem Kq.kl (h:Kq p mb lo s t){c:Nat}(hc:lo≤c):Kq p mb lo s (Go.Sy.kl c t):=⟨h.nx,h.fr,λb h1 h2 h3=>(wx (by omega)).trans (h.get b h1 h2 h3)⟩
theorem Kq.mp (h:Kq p mb lo s t)(es:List (AV×AV)):Kq p mb lo s (Go.Sy.mp t mb es):=⟨h.nx,h.fr,λb h1 h2 h3=>by rw [kU,if_neg h3]; exact h.get b h1 h2 h3⟩
theorem Kq.aps (h:Kq p mb lo s t){hi n z:Nat}{v:AV}{ds:List AV}{u:St}(V:Lv lo hi u v n ds z)(hl:lo≤t.nx)(news:List AV):Kq p mb lo s (Go.Sy.aps v t news):=⟨by rw [jj]; exact Qcv h.nx,by rw [ub]; exact h.fr,λb h1 h2 h3=>(V.get t news b (.inl h1) (by omega)).trans (h.get b h1 h2 h3)⟩
theorem Kq.keep (h:Kq p mb lo s t)(k:Keep p t u)(hl:lo≤t.nx):Kq p mb lo s u:=⟨Qau h.nx k.nx,k.fr.trans h.fr,λb h1 h2 h3=>(k.get b (by omega) h2).trans (h.get b h1 h2 h3)⟩
theorem Kq.cl (h:Kq p mb lo s t){b:Nat}{cs:List AV}(C:Cl s b cs)(h1:b<lo)(h2:b≠p)(h3:b≠mb):Cl t b cs:=C.keep h.nx (h.get b h1 h2 h3)
theorem Kq.bk (h:Kq p mb lo s.bare t):Kq p mb lo s (bk s t):=⟨h.nx,rfl,h.get⟩
end
theorem Mp.nw {s:St}{b:Nat}{ts:List (List Nat)}(h:Mp s b ts)(ds:List AV):Mp (Go.Sy.nw s ds) b ts:=h.keep (Nat.le_succ _) (Je (by have:=h.lt; omega))
theorem Mp.wr {s:St}{b:Nat}{ts:List (List Nat)}(h:Mp s b ts){c:Nat}(hc:b≠c)(o:Nat)(ds:List AV):Mp (Go.Sy.wr s c o ds) b ts:=h.keep (Qap _) (zN hc)
theorem u7 {s:St}{b c:Nat}{es:List (AV×AV)}{cs:List AV}(h:c≠b):Cl (mp s b es) c cs=Cl s c cs:=propext ⟨λC=>C.keep (QbI (jdE s b es)) (by rw [kU,if_neg h]),λC=>C.keep (Qap _) (by rw [kU,if_neg h])⟩
structure MS (p mb lo hi:Nat)(m:ModT)(ts:List (List Nat))(v1 v2 v3:AV)(s:St):Prop where
 cp:Cl s p [v1,v2,v3,.map mb,.bool false]
 mp:Mp s mb ts
 l1:Lv lo hi s v1 m.vars.length (fl vaE m.vars) 7
 l2:Lv lo hi s v2 m.enums.length (fl enE m.enums) 4
 l3:Lv lo hi s v3 m.moves.length (fl moE m.moves) 7
 d12:Df v1 v2
 d13:Df v1 v3
 d23:Df v2 v3
 hp:p<lo
 hm:mb<lo
 pm:p≠mb
 lo:lo≤hi
 hi:hi≤s.nx
def MX (p mb lo:Nat)(m:ModT)(ts:List (List Nat))(s:St):Prop:=∃ v1 v2 v3,MS p mb lo s.nx m ts v1 v2 v3 s
section
variable {p mb lo hi:Nat} {m:ModT} {ts us:List (List Nat)} {v1 v2 v3:AV} {s t:St}
theorem Lv.mp {n z:Nat}{v:AV}{cs:List AV}{es:List (AV×AV)}(h:Lv lo hi s v n cs z)(hm:mb<lo):Lv lo hi (Go.Sy.mp s mb es) v n cs z:=h.imp id λ⟨c,h1,h2,h3,h4,h5,h6⟩=>⟨c,h1,h2,h3,by rw [u7 (by omega)]; exact h4,h5,h6⟩
theorem MS.nw (S:MS p mb lo hi m ts v1 v2 v3 s)(ds:List AV):MS p mb lo hi m ts v1 v2 v3 (Go.Sy.nw s ds):=by
 obtain ⟨C,M,l1,l2,l3,d12,d13,d23,hp,hm,pm,h1,h2⟩:=S;exact ⟨by (first | exact C | (simp (disch:=first | assumption | decide | (first | omega | (simp only [jg,jh,jl,jj,ji]; first | done | omega))) only [jz,jA,jr,jO,jC,jE,jF,jG]; exact C)),M.nw ds,by (first | exact l1 | (simp (disch:=first | assumption | decide | (first | omega | (simp only [jg,jh,jl,jj,ji]; first | done | omega))) only [jz,jA,jr,jO,jC,jE,jF,jG]; exact l1)),by (first | exact l2 | (simp (disch:=first | assumption | decide | (first | omega | (simp only [jg,jh,jl,jj,ji]; first | done | omega))) only [jz,jA,jr,jO,jC,jE,jF,jG]; exact l2)),by (first | exact l3 | (simp (disch:=first | assumption | decide | (first | omega | (simp only [jg,jh,jl,jj,ji]; first | done | omega))) only [jz,jA,jr,jO,jC,jE,jF,jG]; exact l3)),d12,d13,d23,hp,hm,pm,h1,by rw [jg]; omega⟩
theorem MS.wr (S:MS p mb lo hi m ts v1 v2 v3 s){c:Nat}(hc:hi≤c)(o:Nat)(ds:List AV):MS p mb lo hi m ts v1 v2 v3 (Go.Sy.wr s c o ds):=by
 obtain ⟨C,M,l1,l2,l3,d12,d13,d23,hp,hm,pm,h1,h2⟩:=S;exact ⟨by (first | exact C | (simp (disch:=first | assumption | decide | (first | omega | (simp only [jg,jh,jl,jj,ji]; first | done | omega))) only [jz,jA,jr,jO,jC,jE,jF,jG]; exact C)),M.wr (by omega) o ds,by (first | exact l1 | (simp (disch:=first | assumption | decide | (first | omega | (simp only [jg,jh,jl,jj,ji]; first | done | omega))) only [jz,jA,jr,jO,jC,jE,jF,jG]; exact l1)),by (first | exact l2 | (simp (disch:=first | assumption | decide | (first | omega | (simp only [jg,jh,jl,jj,ji]; first | done | omega))) only [jz,jA,jr,jO,jC,jE,jF,jG]; exact l2)),by (first | exact l3 | (simp (disch:=first | assumption | decide | (first | omega | (simp only [jg,jh,jl,jj,ji]; first | done | omega))) only [jz,jA,jr,jO,jC,jE,jF,jG]; exact l3)),d12,d13,d23,hp,hm,pm,h1,by rw [jh]; omega⟩
theorem MS.take (S:MS p mb lo hi m ts v1 v2 v3 s)(us:List (List Nat)):MS p mb lo hi m us v1 v2 v3 (Go.Sy.mp s mb (mpl us)):=by
 obtain ⟨C,M,l1,l2,l3,d12,d13,d23,hp,hm,pm,h1,h2⟩:=S;exact ⟨by rw [u7 pm]; exact C,M.put,l1.mp hm,l2.mp hm,l3.mp hm,d12,d13,d23,hp,hm,pm,h1,h2⟩
theorem MS.keep (S:MS p mb lo hi m ts v1 v2 v3 s)(k:Keep p s t)(C':Cl t p [v1,v2,v3,.map mb,.bool false]):MS p mb lo hi m ts v1 v2 v3 t:=by
 obtain ⟨C,M,l1,l2,l3,d12,d13,d23,hp,hm,pm,h1,h2⟩:=S;exact ⟨C',M.keep k.nx (k.get mb M.lt (by omega)),k.lv l1 (.inl hp),k.lv l2 (.inl hp),k.lv l3 (.inl hp),d12,d13,d23,hp,hm,pm,h1,Qau h2 k.nx⟩
theorem MS.up (S:MS p mb lo hi m ts v1 v2 v3 s){hi':Nat}(h:hi≤hi')(h2:hi'≤s.nx):MS p mb lo hi' m ts v1 v2 v3 s:=by
 obtain ⟨C,M,l1,l2,l3,d12,d13,d23,hp,hm,pm,h1,h3⟩:=S;exact ⟨C,M,l1.up h,l2.up h,l3.up h,d12,d13,d23,hp,hm,pm,Qau h1 h,h2⟩
theorem MS.bare (S:MS p mb lo hi m ts v1 v2 v3 s):MS p mb lo hi m ts v1 v2 v3 s.bare:=by
 obtain ⟨C,M,l1,l2,l3,d12,d13,d23,hp,hm,pm,h1,h2⟩:=S;exact ⟨C.bar,⟨M.lt,M.get⟩,by rw [jF]; exact l1,by rw [jF]; exact l2,by rw [jF]; exact l3,d12,d13,d23,hp,hm,pm,h1,h2⟩
theorem MS.ofbk {u:St}(S:MS p mb lo hi m ts v1 v2 v3 s):MS p mb lo hi m ts v1 v2 v3 (bk u s):=by
 obtain ⟨C,M,l1,l2,l3,d12,d13,d23,hp,hm,pm,h1,h2⟩:=S;have e:∀ b cs,Cl s b cs->Cl (bk u s) b cs:=λb cs h=>⟨h.lt,h.row,h.len,h.cell⟩;have el:∀ v n cs z,Lv lo hi s v n cs z->Lv lo hi (bk u s) v n cs z:=λv n cs z h=>h.imp id λ⟨c,h1,h2,h3,h4,h5,h6⟩=>⟨c,h1,h2,h3,e _ _ h4,h5,h6⟩;exact ⟨e _ _ C,⟨M.lt,M.get⟩,el _ _ _ _ l1,el _ _ _ _ l2,el _ _ _ _ l3,d12,d13,d23,hp,hm,pm,h1,h2⟩
theorem MS.enum (S:MS p mb lo hi m ts v1 v2 v3 s)(e:EnumT):MS p mb lo (s.nx+1) { m with enums:=m.enums ++ [e] } ts v1 (apv 4 v2 s) v3 (Go.Sy.wr (Go.Sy.aps v2 s (enE e)) p 1 [apv 4 v2 s]):=by
 obtain ⟨C,M,l1,l2,l3,d12,d13,d23,hp,hm,pm,h1,h2⟩:=S;have h4:=C.lt;have hn:(Go.Sy.wr (Go.Sy.aps v2 s (enE e)) p 1 [apv 4 v2 s]).nx=s.nx+1:=by rw [jh,jj]
 refine ⟨?_,?_,?_,?_,?_,(Df.put l1 h2).2,d13,(Df.put l3 h2).1,hp,hm,pm,by omega,by rw [hn]; exact Qap _⟩
 ·exact (cast (l2.cl s (enE e) _ p (.inl hp) h4).symm C:Cl (Go.Sy.aps v2 s (enE e)) p _).wr 1 [apv 4 v2 s]
 ·exact M.keep (by rw [hn]; omega) (by rw [zN (λh=>pm h.symm)]; exact l2.get s (enE e) mb (.inl hm) M.lt)
 ·rw [jC (.inl hp)];exact (l1.apsD (Df.symm d12)).up (by omega)
 ·rw [jC (.inl hp),Qal,QI,Jl];exact l2.put (JH e) (by omega) rfl
 ·rw [jC (.inl hp)];exact (l3.apsD d23).up (by omega)
end
def KM (p mb lo:Nat)(st:St)(r:KR (ModT×List (List Nat)))(K Kp:AV->St->Prop):Prop:=match r with
 | .ok y=>∀ s',Kq p mb lo st s'->MX p mb lo y.1 y.2 s'->K (.tup []) s'
 | .er c l k=>∀ s',Kq p mb lo st s'->Kp (kf c l k) s'
def QR (ts:List (List Nat))(nm:List Nat)(l c:Int):KR (List (List Nat)):=if nm∈ts then .er 162 l c else .ok (ts ++ [nm])
def yS (l c:Int):List (List Nat)->List (List Nat)->KR (List (List Nat))
 | ts,[]=>.ok ts
 | ts,n :: ns=>match QR ts n l c with
  | .er a b d=>.er a b d
  | .ok ts=>yS l c ts ns
def vb (m:ModT)(ts:List (List Nat))(e:EnumT):KR (ModT×List (List Nat)):=match yS e.line e.col ts (e.name :: e.vals) with
 | .er a b d=>.er a b d
 | .ok ts=>.ok ({ m with enums:=m.enums ++ [e] },ts)
theorem uB {l c:Int}:∀ {xs ys:List (List Nat)} {ts:List (List Nat)},yS l c ts (xs ++ ys)=match yS l c ts xs with | .er a b d=>.er a b d | .ok us=>yS l c us ys
 | [],ys,ts=>rfl
 | x :: xs,ys,ts=>by
  simp only [Qaw,yS];cases QR ts x l c with
  | er a b d=>rfl
  | ok us=>exact uB
set_option maxHeartbeats 4000000 in
theorem jn8 (hb:NB base)(hcl:∀ vs:List (List Nat),0<vs.length->vs.length≤1000000->Tot base 99 [.lst vs.length (vs.map .str)] (.lst vs.length (vs.map .str))){p mb lo:Nat}{m:ModT}{ts:List (List Nat)}{st:St}(e:EnumT)(hv:0<e.vals.length)(hv2:e.vals.length≤1000000)(hE:m.enums.length≤1000000)(H:MX p mb lo m ts st)(K Kp:AV->St->Prop)(hK:KM p mb lo st (vb m ts e) K Kp):XB Qaf base 61 [.ptr p 0,.agg (enE e)] st K Kp:=by
 obtain ⟨v1,v2,v3,S⟩:=H;obtain ⟨C,M,l1,l2,l3,d12,d13,d23,hp,hm,pm,lo0,hi0⟩:=id S;refine Jc x61 (by rfl) (hb.at0 61 (by decide) (by decide) _ _) ?_;simp only [y61,jm,Qai,Qaj,Qag,Qah];unfold z61;try dsimp only [oo,oO,ot,oT,os,og,oh,oc,on,oN,oP]
 have q0:Kq p mb lo st.bare st.bare:=Kq.refl;have hnx:st.bare.nx=st.nx:=rfl;have S0:=S.bare.nw (enE e);have q1:=q0.nw lo0 (enE e);have Cb:Cl (Go.Sy.nw st.bare (enE e)) st.nx (enE e):=Cl.new st.bare (enE e);unfold vb at hK;repeat' (first | (apply jc <;> intro _) | simp (disch:=first | exact dzG | fail) only [jd,jo,jn,jf,jt,ju,jx,jy,jv,rzZ,Qab,Qac,Qad,Qaa,Qae])
 refine UR hb S0.cp S0.mp _ _ _ _ _ ?_;by_cases h:e.name∈ts
 ·rw [if_pos h];have e1:yS e.line e.col ts (e.name :: e.vals)=.er 162 e.line e.col:=by simp only [yS,QR,if_pos h]
  rw [e1] at hK;exact hK _ q1.bk
 ·rw [if_neg h];have e1:yS e.line e.col ts (e.name :: e.vals)=yS e.line e.col (ts ++ [e.name]) e.vals:=by simp only [yS,QR,if_neg h]
  rw [e1] at hK
  replace S0:=S0.take (ts ++ [e.name])
  replace q1:=q1.mp (mpl (ts ++ [e.name]))
  have Cb:Cl (Go.Sy.mp (Go.Sy.nw st.bare (enE e)) mb (mpl (ts ++ [e.name]))) st.nx (enE e):=by rw [u7 (by omega)]; exact Cb
  have hn1:(Go.Sy.mp (Go.Sy.nw st.bare (enE e)) mb (mpl (ts ++ [e.name]))).nx=st.nx+1:=rfl;generalize Go.Sy.mp (Go.Sy.nw st.bare (enE e)) mb (mpl (ts ++ [e.name]))=s1 at *
  (have zz:=@Cb.r; (repeat' (first | (apply jc <;> intro _) | simp (disch:=first | exact qq | fail) only [Cb.q,Cb.r,jd,jo,jn,jf,jt,ju,jx,jy,jv,rzZ,Qab,Qac,Qad,Qaa,Qae])); (all_goals (clear zz)))
  refine qt e.vals.length (λk L s=>∃ us,yS e.line e.col (ts ++ [e.name]) (e.vals.take k)=.ok us∧MS p mb lo st.nx m us v1 v2 v3 s∧Kq p mb lo st.bare s∧st.nx+1≤s.nx∧Cl s st.nx (enE e)∧Has L 0 (.ptr p 0)∧Has L 3 (.ptr st.nx 0)∧Has L 15 (.lst e.vals.length (e.vals.map .str))) (by first | assumption | omega) (by decide) (by simp (disch:=decide) only [je,jb]) (by simp (disch:=decide) only [je,jb]) ?_ (λk L s v h=>(by obtain ⟨us,h1,h2,h3,h4,h5,h6,h7,h8⟩:=h; refine ⟨us,h1,h2,h3,h4,h5,?_,?_,?_⟩ <;> simp (disch:=decide) only [jb] <;> assumption)) (λk L s v h=>(by obtain ⟨us,h1,h2,h3,h4,h5,h6,h7,h8⟩:=h; refine ⟨us,h1,h2,h3,h4,h5,?_,?_,?_⟩ <;> simp (disch:=decide) only [jb] <;> assumption)) (λk L s hk hI hi hn=>?_) (λL s hI=>?_)
  ·refine ⟨_,by rw [Qbe,yS],S0,q1,by omega,Cb,?_,?_,?_⟩ <;> simp (disch:=decide) only [jb,je]
  ·obtain ⟨us,h1,S1,q1,hnn,Cb,i0,i3,i15⟩:=hI;have tk:e.vals.take (k+1)=e.vals.take k ++ [e.vals[k]]:=zj hk
   (have zz:=@Cb.r; (repeat' (first | (apply jc <;> intro _) | simp (disch:=first | exact qq | fail) only [ja i0,ja i3,ja i15,ja hi,ja hn,jeT hk,Cb.q,Cb.r,jd,jo,jn,jf,jt,ju,jx,jy,jv,rzZ,Qab,Qac,Qad,Qaa,Qae])); (all_goals (clear zz)))
   refine UR hb S1.cp S1.mp _ _ _ _ _ ?_;by_cases h:e.vals[k]∈us
   ·rw [if_pos h];have e2:yS e.line e.col (ts ++ [e.name]) e.vals=.er 162 e.line e.col:=by
     have e3:e.vals=e.vals.take k ++ (e.vals[k] :: e.vals.drop (k+1)):=by rw [QbD,Qby]
     rw [e3,uB,h1];simp only [yS,QR,if_pos h]
    rw [e2] at hK;exact hK _ q1.bk
   ·rw [if_neg h];have e2:yS e.line e.col (ts ++ [e.name]) (e.vals.take (k+1))=.ok (us ++ [e.vals[k]]):=by
     rw [tk,uB,h1];simp only [yS,QR,if_neg h]
    repeat' (first | (apply jc <;> intro _) | simp (disch:=first | exact dzG | fail) only [jd,jo,jn,jf,jt,ju,jx,jy,jv,rzZ,Qab,Qac,Qad,Qaa,Qae])
    refine ⟨⟨_,e2,S1.take _,q1.mp _,by rw [jdE]; exact hnn,by rw [u7 (by omega)]; exact Cb,?_,?_,?_⟩,?_,?_⟩ <;> simp (disch:=decide) only [jb] <;> assumption
  ·obtain ⟨us,h1,S1,q1,hnn,Cb,i0,i3,i15⟩:=hI;rw [QaD] at h1;rw [h1] at hK;have T:=λ(h:0<e.vals.length)=>hcl e.vals h hv2;have Cp:=S1.cp;have V2:=S1.l2;have ve2:=V2.eqs;have Ap:=λst' bv xc xx K h hv=>@Q4 lo st.nx m.enums.length 4 st' v2 (fl enE m.enums) K 56 bv xc xx h (by decide) (by omega) (by omega) hv;have hqp:st.nx≠p:=by omega
   have S2:=(S1.nw (enE e)).enum e;have S2:=(S2.up (by (first | omega | (simp only [jg,jh,jl,jj,ji]; first | done | omega))) (Qap _)).ofbk (u:=st);have q2:=(((q1.nw (by omega) (enE e)).aps V2 (by (first | omega | (simp only [jg,jh,jl,jj,ji]; first | done | omega))) (enE e)).wr (.inl rfl) 1 [apv 4 v2 (Go.Sy.nw s (enE e))]).bk;have g0:rat s.h st.nx 0=.str e.name:=(Cb.cell 0 (by rw [JH]; decide)).trans (by rw [u4]; rfl);have g2:rat s.h st.nx 2=.int .i64 e.line:=(Cb.cell 2 (by rw [JH]; decide)).trans (by rw [u4]; rfl);have g3:rat s.h st.nx 3=.int .i64 e.col:=(Cb.cell 3 (by rw [JH]; decide)).trans (by rw [u4]; rfl);have gp:rat s.h p 1=v2:=Cp.cell 1 (by simp only [Qak,Qan]; omega);have ln:qo s.h st.nx=4:=by rw [Cb.len,JH]
   (have zz:=aI V2.ln (aI V2.rts (aI @jC (aI @jE (aI @jG (aI @V2 (aI @jB (aI @jI (aI @jL (aI @Cb.r @Cp.r))))))))); (repeat' (first | (apply jc <;> intro _) | simp (disch:=first | exact qq | fail) only [ja i0,ja i3,T hv,Ap,KK,sm9,KJ,sm3,ve2,V2.at,jB,Cb.q,Cp.q,V2.ln,V2.rts,jC,jE,jG,V2,jB,jI,jL,Cb.r,Cp.r,jd,jo,jn,jf,jt,ju,jx,jy,jv,rzZ,Qab,Qac,Qad,Qaa,Qae])); (all_goals (clear zz)))
   have a9:=(sm9 (by omega) g0 rfl).mpr trivial;have a2:=(sm3 (by omega) g2 rfl).mpr trivial;have a3:=(sm3 (by omega) g3 rfl).mpr trivial;have a23:=(KK (by rw [Cp.len]; simp only [Qak,Qan]; omega) gp ve2).mpr trivial;repeat' apply aI
   all_goals first | exact a9 | exact a23 | exact a2 | exact a3 | exact hK _ q2 ⟨_,_,_,S2⟩
end Go.Sy
end
noncomputable section
set_option maxRecDepth 100000
namespace Go.Sy
open Go.Ev Go.Proofs
variable {base:Bs}
mutual
def JA:Ex->Option Ex
 | .mk op num name ks l c=>if op=4 then some (.mk op num name ks l c) else zA ks
def zA:List Ex->Option Ex
 | []=>none
 | x :: xs=>match JA x with
  | some y=>some y
  | none=>zA xs
end
theorem w8 (x:Ex):JA x=if x.op=4 then some x else zA x.kids:=by cases x; rw [JA]; rfl
theorem vF:∀ {xs ys:List Ex},zA (xs ++ ys)=match zA xs with | some y=>some y | none=>zA ys
 | [],ys=>rfl
 | x :: xs,ys=>by
  simp only [Qaw,zA];cases JA x with
  | some y=>rfl
  | none=>exact vF
def zV (x:Ex):Ex×Bool:=match JA x with
 | some y=>(y,true)
 | none=>(x,false)
theorem G0.exb {s:St}{a:List AV}{b:Bool}{u:AV}(h:u=.tup [.agg a,.bool b])(ha:a.all pc=true):G0 u (.tup [.agg a,.bool b]) s:=by
 subst h;exact FzD.tup (.cons (.agg (.pc ha)) (.cons (.pc rfl) .nil))
set_option maxHeartbeats 4000000 in
theorem jkQ (hb:NB base):∀ x:Ex,Zv x=true->Tot base 102 [.agg (eE x)] (.tup [.agg (eE (zV x).1),.bool (zV x).2]):=by
 refine Ex.indk λx ih hw=>?_;have hw':x.kids.length≤1000000∧X8 x.kids=true:=by cases x; rw [Zv,Qar,decide_eq_true_eq] at hw; exact hw
 refine hb.tot ?_ (by first | rfl | simp [pa,pc,qQ,J9,Jr,zP,Xk,YT,Y0,Y2,Yl]) rfl;refine jJ jqi (by rfl) (hb.pur 102 1 (by decide)) ?_;simp only [jmB,jm,Qai,Qaj,Qag,Qah];unfold jlT;try dsimp only [oo,oO,ot,oT,os,og,oh,oc,on,oN,oP]
 repeat' (first | (apply jc <;> intro _) | simp (disch:=first | exact dzG | fail) only [jd,jo,jn,jf,jt,ju,jx,jy,jv,rzZ,Qab,Qac,Qad,Qaa,Qae])
 ·rename_i h;have e:zV x=(x,true):=by unfold zV; rw [w8,if_pos h]
  rw [e];exact G0.exb rfl (qQ x)
 rename_i h;have e0:JA x=zA x.kids:=by rw [w8,if_neg h]
 refine qt x.kids.length (λk L s=>zA (x.kids.take k)=none∧2≤s.nx∧Cl s 0 (eE x)∧Cl s 1 z6∧Has L 1 (.ptr 0 0)∧Has L 2 (.ptr 1 0)∧Has L 13 (.lst x.kids.length (fl eE x.kids))) (by first | assumption | omega) (by decide) (by simp (disch:=decide) only [je,jb]) (by simp (disch:=decide) only [je,jb]) ?_ (λk L s v h=>(by obtain ⟨h1,h2,h3,h4,h5,h6,h7⟩:=h; refine ⟨h1,h2,h3,h4,?_,?_,?_⟩ <;> simp (disch:=decide) only [jb] <;> assumption)) (λk L s v h=>(by obtain ⟨h1,h2,h3,h4,h5,h6,h7⟩:=h; refine ⟨h1,h2,h3,h4,?_,?_,?_⟩ <;> simp (disch:=decide) only [jb] <;> assumption)) (λk L s hk hI hi hn=>?_) (λL s hI=>?_)
 ·refine ⟨by rw [Qbe,zA],by (first | omega | (simp only [jg,jh,jl,jj,ji]; first | done | omega)),?_,Cl.new _ _,?_,?_,?_⟩
  ·have n0:=Cl.new st0 (eE x);exact n0.nw _
  all_goals simp (disch:=decide) only [jb,je]
 ·obtain ⟨h1,h2,C0,C1,i1,i2,i13⟩:=hI;have E:=ih x.kids[k] (Qax hk) (Wl hk hw'.2);have tk:x.kids.take (k+1)=x.kids.take k ++ [x.kids[k]]:=zj hk;cases hf:JA x.kids[k] with
  | some y=>
   have e:zV x=(y,true):=by
    unfold zV;have e3:x.kids=x.kids.take k ++ (x.kids[k] :: x.kids.drop (k+1)):=by rw [QbD,Qby]
    rw [e0,e3,vF,h1];simp only [zA,hf]
   have e2:zV x.kids[k]=(y,true):=by unfold zV; rw [hf]
   rw [e2] at E;unfold z6 at C1;try dsimp only [oo,oO,ot,oT,os,og,oh,oc,on,oN,oP]
   (have zz:=aI C0.r C1.r; (repeat' (first | (apply jc <;> intro _) | simp (disch:=first | exact qq | fail) only [ja i1,ja i2,ja i13,ja hi,ja hn,E,C0.q,C1.q,C0.r,C1.r,jd,jo,jn,jf,jt,ju,jx,jy,jv,rzZ,Qab,Qac,Qad,Qaa,Qae])); (all_goals (clear zz)))
   rw [e];exact G0.exb rfl (qQ y)
  | none=>
   have e2:zV x.kids[k]=(x.kids[k],false):=by unfold zV; rw [hf]
   rw [e2] at E
   (have zz:=aI C0.r C1.r; (repeat' (first | (apply jc <;> intro _) | simp (disch:=first | exact qq | fail) only [ja i1,ja i2,ja i13,ja hi,ja hn,E,C0.q,C1.q,C0.r,C1.r,jd,jo,jn,jf,jt,ju,jx,jy,jv,rzZ,Qab,Qac,Qad,Qaa,Qae])); (all_goals (clear zz)))
   refine ⟨⟨?_,by (first | omega | (simp only [jg,jh,jl,jj,ji]; first | done | omega)),by (first | exact C0 | (simp (disch:=first | assumption | decide | (first | omega | (simp only [jg,jh,jl,jj,ji]; first | done | omega))) only [jz,jA,jr,jO,jC,jE,jF,jG]; exact C0)),by (first | exact C1 | (simp (disch:=first | assumption | decide | (first | omega | (simp only [jg,jh,jl,jj,ji]; first | done | omega))) only [jz,jA,jr,jO,jC,jE,jF,jG]; exact C1)),?_,?_,?_⟩,?_,?_⟩
   ·rw [tk,vF,h1]; simp only [zA,hf]
   all_goals (simp (disch:=decide) only [jb]; assumption)
 ·obtain ⟨h1,h2,C0,C1,i1,i2,i13⟩:=hI;rw [QaD] at h1;have e:zV x=(x,false):=by unfold zV; rw [e0,h1]
  unfold z6 at C1;try dsimp only [oo,oO,ot,oT,os,og,oh,oc,on,oN,oP]
  (have zz:=aI C0.r C1.r; (repeat' (first | (apply jc <;> intro _) | simp (disch:=first | exact qq | fail) only [ja i1,ja i2,C0.q,C1.q,C0.r,C1.r,jd,jo,jn,jf,jt,ju,jx,jy,jv,rzZ,Qab,Qac,Qad,Qaa,Qae])); (all_goals (clear zz)))
  rw [e,←qv];exact G0.exb rfl (qQ x)
end Go.Sy
end
noncomputable section
set_option maxRecDepth 100000
namespace Go.Sy
open Go.Ev Go.Proofs
variable {base:Bs}
section
variable {st:St} {K:AV->St->Prop}
theorem jfe (k:IntKind)(a b:Int):jk (Ju .add (.int k a) (.int k b) st) K=K (.int k (qS k (a+b))) st:=by
 cases k <;> rfl
theorem jeS (k:IntKind)(a b:Int):jk (Ju .sub (.int k a) (.int k b) st) K=K (.int k (qS k (a - b))) st:=by
 cases k <;> rfl
theorem je1 (k:IntKind)(a b:Int):jk (Ju .mul (.int k a) (.int k b) st) K=K (.int k (qS k (a * b))) st:=by
 cases k <;> rfl
theorem jmP (k:IntKind)(a:Int):jk (unV .neg (.int k a) st) K=K (.int k (qS k (-a))) st:=by
 have e:k.wrap (0 - a)=qS k (-a):=by rw [←Yw,Int.zero_sub]
 simp only [unV,Yb,O,e,jk]
theorem jfc (k j:IntKind)(a:Int):jk (joh k (.int j a) st) K=K (.int k (qS k a)) st:=by
 cases k <;> cases j <;> rfl
end
def Uz (b:Bool):Int:=if b then 1 else 0
def jel (op num a b:Int):Int:=
 if op=5 then qS .i64 (-a) else if op=6 then qS .i64 (1 - a) else if op=14 then qS .i64 (a * b) else if op=15 then qS .i64 (a+b) else if op=16 then qS .i64 (a - b)
 else if op=17∨op=30 then Uz (decide (a=b)) else if op=18 then Uz (decide (a≠b)) else if op=19 then Uz (decide (a<b)) else if op=20∨op=29 then Uz (decide (a≤b))
 else if op=21 then Uz (decide (b<a)) else if op=22 then Uz (decide (b≤a)) else if op=27 then qS .i64 (a * b) else if op=28 then max a b else num
mutual
def zW:Ex->Int
 | .mk op num _ ks _ _=>jel op num ((JQ ks).getD 0 0) ((JQ ks).getD 1 0)
def JQ:List Ex->List Int
 | []=>[]
 | x :: xs=>zW x :: JQ xs
end
mutual
def Jp:Ex->Bool
 | .mk _ _ _ ks _ _=>decide (ks.length≤2) && zT ks
def zT:List Ex->Bool
 | []=>true
 | x :: xs=>Jp x && zT xs
end
theorem jgU (x:Ex):zW x=jel x.op x.num ((JQ x.kids).getD 0 0) ((JQ x.kids).getD 1 0):=by cases x; rw [zW]; rfl
theorem gB:∀ {xs:List Ex} {k:Nat} (h:k<xs.length),zT xs=true->Jp xs[k]=true
 | x :: xs,0,_,h=>by rw [zT,Qar] at h; exact h.1
 | x :: xs,k+1,hk,h=>by rw [zT,Qar] at h; exact gB (xs:=xs) (k:=k) (by simpa using hk) h.2
theorem kZ:∀ {xs:List Ex} {k:Nat} (h:k<xs.length),zA xs=none->JA xs[k]=none
 | x :: xs,0,_,h=>by
  rw [zA] at h;cases hx:JA x with
  | none=>exact hx
  | some y=>rw [hx] at h; cases h
 | x :: xs,k+1,hk,h=>by
  rw [zA] at h;cases hx:JA x with
  | none=>rw [hx] at h; exact kZ (xs:=xs) (k:=k) (by simpa using hk) h
  | some y=>rw [hx] at h; cases h
def UC (ks:List Ex)(k:Nat):List AV:=[.int .i64 ((JQ (ks.take k)).getD 0 0),.int .i64 ((JQ (ks.take k)).getD 1 0)]
theorem jbu (ks:List Ex)(k:Nat):(UC ks k).length=2:=nr rfl
theorem jk2 {ks:List Ex}{k:Nat}(hk:k<ks.length)(h2:ks.length≤2):upd (UC ks k) k [.int .i64 (zW ks[k])]=UC ks (k+1):=by
 match ks,k with
 | [a],0=>rfl
 | [a,b],0=>rfl
 | [a,b],1=>rfl
 | [a],k+1=>simp at hk
 | [a,b],k+2=>exact absurd hk (by simp)
 | a :: b :: c :: l,_=>simp at h2
theorem jpw (hb:NB base)(q:Bool):Tot base 140 [.bool q] (.int .i64 (Uz q)):=by
 refine hb.tot ?_ rfl rfl;refine jJ jpW (by rfl) (hb.pur 140 1 (by decide)) ?_;simp only [jmf,jm,Qai,Qaj,Qag,Qah];unfold jlx;try dsimp only [oo,oO,ot,oT,os,og,oh,oc,on,oN,oP]
 repeat' (first | (apply jc <;> intro _) | simp (disch:=first | exact dzG | fail) only [jd,jo,jn,jf,jt,ju,jx,jy,jv,rzZ,Qab,Qac,Qad,Qaa,Qae])
 ·rename_i h;subst h;exact G0.v rfl rfl
 ·rename_i h;have h:q=false:=by simpa using h
  subst h;exact G0.v rfl rfl
set_option maxHeartbeats 4000000 in
theorem jen (hb:NB base):∀ x:Ex,Jp x=true->JA x=none->Tot base 103 [.agg (eE x)] (.int .i64 (zW x)):=by
 refine Ex.indk λx ih ht hf=>?_;have ht':x.kids.length≤2∧zT x.kids=true:=by cases x; rw [Jp,Qar,decide_eq_true_eq] at ht; exact ht
 have hop:x.op≠4:=λh=>by rw [w8,if_pos h] at hf; cases hf
 rw [w8,if_neg hop] at hf;refine hb.tot ?_ (by first | rfl | simp [pa,pc,qQ,J9,Jr,zP,Xk,YT,Y0,Y2,Yl]) rfl;refine jJ jqh (by rfl) (hb.pur 103 1 (by decide)) ?_;simp only [jmA,jm,Qai,Qaj,Qag,Qah];unfold jlS;try dsimp only [oo,oO,ot,oT,os,og,oh,oc,on,oN,oP]
 repeat' (first | (apply jc <;> intro _) | simp (disch:=first | exact dzG | fail) only [jd,jo,jn,jf,jt,ju,jx,jy,jv,rzZ,Qab,Qac,Qad,Qaa,Qae])
 refine qt x.kids.length (λk L s=>2≤s.nx∧Cl s 0 (eE x)∧Cl s 1 (UC x.kids k)∧Has L 1 (.ptr 0 0)∧Has L 3 (.ptr 1 0)∧Has L 8 (.lst x.kids.length (fl eE x.kids))) (by first | assumption | omega) (by decide) (by simp (disch:=decide) only [je,jb]) (by simp (disch:=decide) only [je,jb]) ?_ (λk L s v h=>(by obtain ⟨h2,h3,h4,h5,h6,h7⟩:=h; refine ⟨h2,h3,h4,?_,?_,?_⟩ <;> simp (disch:=decide) only [jb] <;> assumption)) (λk L s v h=>(by obtain ⟨h2,h3,h4,h5,h6,h7⟩:=h; refine ⟨h2,h3,h4,?_,?_,?_⟩ <;> simp (disch:=decide) only [jb] <;> assumption)) (λk L s hk hI hi hn=>?_) (λL s hI=>?_)
 ·refine ⟨by (first | omega | (simp only [jg,jh,jl,jj,ji]; first | done | omega)),?_,Cl.new _ _,?_,?_,?_⟩
  ·have n0:=Cl.new st0 (eE x);exact n0.nw _
  all_goals simp (disch:=decide) only [jb,je]
 ·obtain ⟨h2,C0,C1,i1,i3,i8⟩:=hI;have E:=ih x.kids[k] (Qax hk) (gB hk ht'.2) (kZ hk hf);have ap:=jk2 hk ht'.1;have hk2:k<2:=by omega
  (have zz:=aI @jbu (aI C0.r C1.r); (repeat' (first | (apply jc <;> intro _) | simp (disch:=first | exact qq | fail) only [ja i1,ja i3,ja i8,ja hi,ja hn,E,jbu,C0.q,C1.q,jbu,C0.r,C1.r,jd,jo,jn,jf,jt,ju,jx,jy,jv,rzZ,Qab,Qac,Qad,Qaa,Qae])); (all_goals (clear zz)))
  refine ⟨⟨by (first | omega | (simp only [jg,jh,jl,jj,ji]; first | done | omega)),by (first | exact C0 | (simp (disch:=first | assumption | decide | (first | omega | (simp only [jg,jh,jl,jj,ji]; first | done | omega))) only [jz,jA,jr,jO,jC,jE,jF,jG]; exact C0)),Cl.cv (Cl.wr (?_:Cl _ 1 (UC x.kids k)) k _) ap,?_,?_,?_⟩,?_,?_⟩
  ·(first | exact C1 | (simp (disch:=first | assumption | decide | (first | omega | (simp only [jg,jh,jl,jj,ji]; first | done | omega))) only [jz,jA,jr,jO,jC,jE,jF,jG]; exact C1))
  all_goals (simp (disch:=decide) only [jb]; assumption)
 ·obtain ⟨h2,C0,C1,i1,i3,i8⟩:=hI;have hc:=jgU x;have ea:UC x.kids x.kids.length=[.int .i64 ((JQ x.kids).getD 0 0),.int .i64 ((JQ x.kids).getD 1 0)]:=by unfold UC; rw [QaD]
  rw [ea] at C1;generalize (JQ x.kids).getD 0 0=a at *;generalize (JQ x.kids).getD 1 0=b at *;rw [hc];have B:=jpw hb
  (have zz:=aI C0.r C1.r; (repeat' (first | (apply jc <;> intro _) | simp (disch:=first | exact qq | fail) only [ja i1,ja i3,ja i8,B,jmP,jeS,je1,jfe,C0.q,C1.q,C0.r,C1.r,jd,jo,jn,jf,jt,ju,jx,jy,jv,rzZ,Qab,Qac,Qad,Qaa,Qae])); (all_goals (clear zz)))
  all_goals (refine G0.v (congrArg _ ?_) rfl; unfold jel; simp_all)
end Go.Sy
end
noncomputable section
set_option maxRecDepth 100000
namespace Go.Sy
open Go.Ev Go.Proofs
variable {base:Bs}
def stW (n:Int)(v:VarT):Int:=qS .u64 (n * qS .u64 (qS .u64 (qS .u64 v.hi - qS .u64 v.lo)+1))
def Vh (vars:List VarT):Int:=qS .i64 (vars.foldl stW 1)
set_option maxHeartbeats 4000000 in
theorem jhN (hb:NB base)(vars:List VarT)(hl:vars.length≤1000000)(n2 n3:Nat)(c2 c3:List AV):PL Qaf base 33 [.agg [.lst vars.length (fl vaE vars),.lst n2 c2,.lst n3 c3]] (.ok (.int .i64 (Vh vars))):=by
 refine Qh x33 (by rfl) (hb.pur 33 5 (by decide)) rfl ?_;simp only [y33,jm,Qai,Qaj,Qag,Qah];unfold z33;try dsimp only [oo,oO,ot,oT,os,og,oh,oc,on,oN,oP]
 repeat' (first | (apply jc <;> intro _) | simp (disch:=first | exact dzG | fail) only [jd,jo,jn,jf,jt,ju,jx,jy,jv,rzZ,Qab,Qac,Qad,Qaa,Qae])
 refine qt vars.length (λk L s=>1≤s.nx∧Has L 3 (.int .u64 ((vars.take k).foldl stW 1))∧Has L 7 (.lst vars.length (fl vaE vars))) (by first | assumption | omega) (by decide) (by simp (disch:=decide) only [je,jb]) (by simp (disch:=decide) only [je,jb]) ?_ (λk L s v h=>(by obtain ⟨h1,h2,h3⟩:=h; refine ⟨h1,?_,?_⟩ <;> simp (disch:=decide) only [jb] <;> assumption)) (λk L s v h=>(by obtain ⟨h1,h2,h3⟩:=h; refine ⟨h1,?_,?_⟩ <;> simp (disch:=decide) only [jb] <;> assumption)) (λk L s hk hI hi hn=>?_) (λL s hI=>?_)
 ·refine ⟨by (first | omega | (simp only [jg,jh,jl,jj,ji]; first | done | omega)),?_,?_⟩ <;> simp (disch:=decide) only [jb,je,Qbe,List.foldl_nil]
 ·obtain ⟨h1,i3,i7⟩:=hI;have tk:vars.take (k+1)=vars.take k ++ [vars[k]]:=zj hk;have A1:=λa b st K=>@jfe st K .u64 a b;have A2:=λa b st K=>@jeS st K .u64 a b;repeat' (first | (apply jc <;> intro _) | simp (disch:=first | exact dzG | fail) only [ja i3,ja i7,ja hi,ja hn,jfc,je1,A1,A2,jd,jo,jn,jf,jt,ju,jx,jy,jv,rzZ,Qab,Qac,Qad,Qaa,Qae])
  refine ⟨⟨by (first | omega | (simp only [jg,jh,jl,jj,ji]; first | done | omega)),?_,?_⟩,?_,?_⟩
  ·rw [tk,Qch];exact ⟨rfl,rfl⟩
  all_goals (simp (disch:=decide) only [jb]; assumption)
 ·obtain ⟨h1,i3,i7⟩:=hI;rw [QaD] at i3;repeat' (first | (apply jc <;> intro _) | simp (disch:=first | exact dzG | fail) only [ja i3,jfc,jd,jo,jn,jf,jt,ju,jx,jy,jv,rzZ,Qab,Qac,Qad,Qaa,Qae])
  exact G0.v rfl rfl
end Go.Sy
end
noncomputable section
set_option maxRecDepth 100000
namespace Go.Sy
open Go.Ev Go.Proofs
variable {base:Bs}
def JF (vars:List VarT)(enums:List EnumT):VarT->List Ex->KR VarT
 | v,[]=>.ok v
 | v,x :: xs=>match qE vars enums false x v.kind v.enum with
  | .er a b c=>.er a b c
  | .ok y=>match JA y with
   | some z=>.er 161 z.line z.col
   | none=>if zW y<v.lo∨v.hi<zW y then .er 164 x.line x.col else JF vars enums { v with beg:=true,first:=zW y } xs
theorem UA {vars:List VarT}{enums:List EnumT}:∀ {xs ys:List Ex} {v:VarT},JF vars enums v (xs ++ ys)=match JF vars enums v xs with | .er a b c=>.er a b c | .ok u=>JF vars enums u ys
 | [],ys,v=>rfl
 | x :: xs,ys,v=>by
  simp only [Qaw,JF];cases qE vars enums false x v.kind v.enum with
  | er a b c=>rfl
  | ok y=>
   dsimp only;cases JA y with
   | some z=>rfl
   | none=>
    dsimp only;split
    ·rfl
    ·exact UA
def en0:EnumT:=⟨[],[],0,0⟩
def J7 (enums:List EnumT)(nm:List Nat):Int:=fi (λx=>decide (x.name=nm)) enums
def uS (enums:List EnumT)(d:DeclT):KR VarT:=
 if d.ty=[98,111,111,108] then .ok ⟨d.name,2,[],0,1,false,0⟩
 else if 0≤J7 enums d.ty then .ok ⟨d.name,3,d.ty,0,((enums.getD (J7 enums d.ty).toNat en0).vals.length:Int) - 1,false,0⟩
 else if d.ty≠[] then .er 161 d.line d.col
 else if d.hi<d.lo then .er 164 d.line d.col
 else if 1024≤d.hi - d.lo then .er 165 d.line d.col
 else .ok ⟨d.name,1,[],d.lo,d.hi,false,0⟩
def KU (m:ModT)(ts:List (List Nat))(d:DeclT)(v:VarT):KR (ModT×List (List Nat)):=
 if 281474976710656<Vh (m.vars ++ [v]) then .er 165 d.line d.col else .ok ({ m with vars:=m.vars ++ [v] },ts)
def vr (m:ModT)(ts:List (List Nat))(d:DeclT)(v:VarT):KR (ModT×List (List Nat)):=match JF m.vars m.enums v d.begins with
 | .er a b c=>.er a b c
 | .ok v=>KU m ts d v
def Y7 (m:ModT)(ts:List (List Nat))(d:DeclT):KR (ModT×List (List Nat)):=match QR ts d.name d.line d.col with
 | .er a b c=>.er a b c
 | .ok ts=>match uS m.enums d with
  | .er a b c=>.er a b c
  | .ok v=>vr m ts d v
section
variable {p mb lo hi:Nat} {m:ModT} {ts us:List (List Nat)} {v1 v2 v3:AV} {s t:St}
theorem MS.ck (S:MS p mb lo hi m ts v1 v2 v3 s):Ck p v1 v2 v3 (.map mb) m.vars m.enums false s:=by
 obtain ⟨C,M,l1,l2,l3,d12,d13,d23,hp,hm,pm,h1,h2⟩:=S;refine ⟨C,l1.lr,l2.lr,?_,?_⟩
 ·intro b k z x e;rcases l1 with ⟨h,_⟩ | ⟨c,h,h2,_⟩
  ·rw [h] at e; cases e
  ·rw [h] at e; cases e; omega
 ·intro b k z x e;rcases l2 with ⟨h,_⟩ | ⟨c,h,h2,_⟩
  ·rw [h] at e; cases e
  ·rw [h] at e; cases e; omega
theorem MS.var (S:MS p mb lo hi m ts v1 v2 v3 s)(e:VarT):MS p mb lo (s.nx+1) { m with vars:=m.vars ++ [e] } ts (apv 7 v1 s) v2 v3 (Go.Sy.wr (Go.Sy.aps v1 s (vaE e)) p 0 [apv 7 v1 s]):=by
 obtain ⟨C,M,l1,l2,l3,d12,d13,d23,hp,hm,pm,h1,h2⟩:=S;have h4:=C.lt;have hn:(Go.Sy.wr (Go.Sy.aps v1 s (vaE e)) p 0 [apv 7 v1 s]).nx=s.nx+1:=by rw [jh,jj]
 refine ⟨?_,?_,?_,?_,?_,(Df.put l2 h2).1,(Df.put l3 h2).1,d23,hp,hm,pm,by omega,by rw [hn]; exact Qap _⟩
 ·exact (cast (l1.cl s (vaE e) _ p (.inl hp) h4).symm C:Cl (Go.Sy.aps v1 s (vaE e)) p _).wr 0 [apv 7 v1 s]
 ·exact M.keep (by rw [hn]; omega) (by rw [zN (λh=>pm h.symm)]; exact l1.get s (vaE e) mb (.inl hm) M.lt)
 ·rw [jC (.inl hp),Qal,QI,Jl];exact l1.put (QO e) (by omega) rfl
 ·rw [jC (.inl hp)];exact (l2.apsD d12).up (by omega)
 ·rw [jC (.inl hp)];exact (l3.apsD d13).up (by omega)
end
def va0:List AV:=[.str [],.int .i64 0,.str [],.int .i64 0,.int .i64 0,.bool false,.int .i64 0]
def dQ (st:St)(K:AV->St->Prop):Out->Prop:=QK Qaf y62.res λv s=>K v (back st s)
def dP (st:St)(Kp:AV->St->Prop):AV->Sl->St->Prop:=λv _ s=>Kp v (bk st s)
structure DS (p mb lo q:Nat)(m:ModT)(ts:List (List Nat))(v1 v2 v3:AV)(d:DeclT)(v:VarT)(st:St)(L:Sl)(s:St):Prop where
 S:MS p mb lo q m ts v1 v2 v3 s
 k:Kq p mb lo st.bare s
 nx:q+2≤s.nx
 c3:Cl s q (qc d)
 c4:Cl s (q+1) (vaE v)
 i0:Has L 0 (.ptr p 0)
 i3:Has L 3 (.ptr q 0)
 i4:Has L 4 (.ptr (q+1) 0)
theorem jhO (hb:NB base)(vars:List VarT)(hl:vars.length≤1000000){st:St}{v1 v2 v3:AV}{n2 n3:Nat}{c2 c3:List AV}(h1:Lr st v1 vars.length (fl vaE vars))(h2:Lr st v2 n2 c2)(h3:Lr st v3 n3 c3)(p2:c2.all pc=true)(p3:c3.all pc=true)(K Kp:AV->St->Prop) :
  XB Qaf base 33 [.agg [v1,v2,v3]] st K Kp=K (.int .i64 (Vh vars)) st:=by
 refine (jhN hb vars hl n2 n3 c2 c3).xb (zY (jf9 (jdU (h1.fz (d:=6) (zg Xk vars)) (jdU (h2.fz (d:=6) p2) (jdU (h3.fz (d:=6) p3) jpp)))) w4) (λst=>hb.no 33 (by decide) _ _) K Kp
set_option maxHeartbeats 4000000 in
theorem jof (hb:NB base){p mb lo q:Nat}{m:ModT}{ts:List (List Nat)}{v1 v2 v3:AV}{d:DeclT}{v:VarT}{st:St}{L:Sl}{s:St}(D:DS p mb lo q m ts v1 v2 v3 d v st L s)(hV:m.vars.length≤900000)(K Kp:AV->St->Prop)(hK:KM p mb lo st (KU m ts d v) K Kp):xC Qaf base jhp L s (dQ st K) (dP st Kp):=by
 obtain ⟨S,k,nx,C3,C4,i0,i3,i4⟩:=D;obtain ⟨C,M,l1,l2,l3,d12,d13,d23,hp,hm,pm,lo0,hi0⟩:=id S;have ve1:=l1.eqs;have Ap:=λst' bv xc xx K h hv=>@Q4 lo q m.vars.length 7 st' v1 (fl vaE m.vars) K 72 bv xc xx h (by decide) (by omega) (by omega) hv;have hqp:q≠p:=by omega
 have hqp1:q+1≠p:=by omega
 have S3:=(S.nw (vaE v)).var v;have q2:=(((k.nw (by omega) (vaE v)).aps l1 (by (first | omega | (simp only [jg,jh,jl,jj,ji]; first | done | omega))) (vaE v)).wr (.inl rfl) 0 [apv 7 v1 (Go.Sy.nw s (vaE v))]).bk;have S33:=λK Kp=>jhO hb (m.vars ++ [v]) (by simp; omega) S3.l1.lr S3.l2.lr S3.l3.lr (zg Jr _) (zg Y0 _) K Kp;have S2:=(S3.up (by (first | omega | (simp only [jg,jh,jl,jj,ji]; first | done | omega))) (Qap _)).ofbk (u:=st);have gp:rat s.h p 0=v1:=C.cell 0 (by simp only [Qak,Qan]; omega);clear S3;simp only [ut] at S33;unfold jhp dQ dP y62;try dsimp only [oo,oO,ot,oT,os,og,oh,oc,on,oN,oP]
 unfold KU at hK;by_cases hs:281474976710656<Vh (m.vars ++ [v])
 ·rw [if_pos hs] at hK
  (have zz:=aI @l1.ln (aI @l1.rts (aI @jC (aI @jE (aI @jG (aI @l1 (aI @jB (aI @jI (aI @jL (aI C3.r (aI C4.r C.r)))))))))); (repeat' (first | (apply jc <;> intro _) | simp (disch:=first | exact qq | fail) only [ja i0,ja i3,ja i4,Ap,l1.at,S33,hs,zB hb,jB,C3.q,C4.q,C.q,l1.ln,l1.rts,jC,jE,jG,l1,jB,jI,jL,C3.r,C4.r,C.r,jd,jo,jn,jf,jt,ju,jx,jy,jv,rzZ,Qab,Qac,Qad,Qaa,Qae])); (all_goals (clear zz)))
  exact hK _ q2
 ·rw [if_neg hs] at hK
  (have zz:=aI @l1.ln (aI @l1.rts (aI @jC (aI @jE (aI @jG (aI @l1 (aI @jB (aI @jI (aI @jL (aI C3.r (aI C4.r C.r)))))))))); (repeat' (first | (apply jc <;> intro _) | simp (disch:=first | exact qq | fail) only [ja i0,ja i3,ja i4,Ap,l1.at,S33,hs,jB,C3.q,C4.q,C.q,l1.ln,l1.rts,jC,jE,jG,l1,jB,jI,jL,C3.r,C4.r,C.r,jd,jo,jn,jf,jt,ju,jx,jy,jv,rzZ,Qab,Qac,Qad,Qaa,Qae])); (all_goals (clear zz)))
  exact hK _ q2 ⟨_,_,_,S2⟩
end Go.Sy
end
noncomputable section
set_option maxRecDepth 100000
namespace Go.Sy
open Go.Ev Go.Proofs
variable {base:Bs}
mutual
theorem kN {vars:List VarT}{enums:List EnumT}:∀ (fm:Bool) (x y:Ex) (m:MtT),Jp x=true->qN vars enums fm x=.ok (y,m)->Jp y=true
 | fm,.mk op num name ks l c,y,m,ht,h=>by
  rw [qN] at h;split at h
  ·cases h; exact ht
  ·split at h
   ·cases h; exact ht
   ·split at h
    ·unfold zm at h;split at h
     ·cases h; rfl
     ·split at h
      ·cases h
      ·cases h; rfl
    ·split at h
     ·cases h
     ·rename_i r hr;rw [Jp,Qar,decide_eq_true_eq] at ht;have h2:=V5 _ _ r.1 r.2 ht.2 hr;have h3:r.1.length=ks.length:=(J5 hr).1;unfold zH at h;have e:∀ o n nm l c,Jp (.mk o n nm r.1 l c)=true:=λo n nm l c=>by rw [Jp,Qar,decide_eq_true_eq]; exact ⟨by omega,h2⟩
      split at h
      ·cases h
      ·split at h
       ·cases h; exact e _ _ _ _ _
       ·split at h
        ·cases h
        ·cases h; exact e _ _ _ _ _
theorem V5 {vars:List VarT}{enums:List EnumT}:∀ (fm:Bool) (xs ys:List Ex) (ms:List MtT),zT xs=true->qh vars enums fm xs=.ok (ys,ms)->zT ys=true
 | fm,[],ys,ms,_,h=>by rw [qh] at h; cases h; rfl
 | fm,x :: xs,ys,ms,ht,h=>by
  rw [zT,Qar] at ht;rw [qh] at h;cases hx:qN vars enums fm x with
  | er a b d=>rw [hx] at h; cases h
  | ok y=>
   rw [hx] at h;cases hr:qh vars enums fm xs with
   | er a b d=>rw [hr] at h; cases h
   | ok r=>
    rw [hr] at h;cases h;rw [zT,Qar];exact ⟨kN fm x y.1 y.2 ht.1 hx,V5 fm xs r.1 r.2 ht.2 hr⟩
end
theorem jbI {vars:List VarT}{enums:List EnumT}{fm:Bool}{x y:Ex}{w:Int}{en:List Nat}(ht:Jp x=true)(h:qE vars enums fm x w en=.ok y):Jp y=true:=by
 unfold qE at h;split at h
 ·cases h
 ·rename_i r hr;split at h
  ·cases h
  ·cases h; exact kN fm x r.1 r.2 ht hr
mutual
theorem XO:∀ x:Ex,Jp x=true->Zv x=true
 | .mk op num name ks l c,h=>by
  rw [Jp,Qar,decide_eq_true_eq] at h;rw [Zv,Qar,decide_eq_true_eq];exact ⟨by omega,UO ks h.2⟩
theorem UO:∀ xs:List Ex,zT xs=true->X8 xs=true
 | [],_=>rfl
 | x :: xs,h=>by
  rw [zT,Qar] at h;rw [X8,Qar];exact ⟨XO x h.1,UO xs h.2⟩
end
def OkE (x:Ex):Prop:=Jp x=true∧Xo x=true
section
variable {p mb lo q:Nat} {m:ModT} {ts:List (List Nat)} {v1 v2 v3:AV} {d:DeclT} {v:VarT} {st:St} {L:Sl} {s:St}
theorem DS.push (D:DS p mb lo q m ts v1 v2 v3 d v st L s){c:Nat}{w:AV}(h:c≠0∧c≠3∧c≠4):DS p mb lo q m ts v1 v2 v3 d v st ((c,w) :: L) s:=by
 obtain ⟨S,k,nx,c3,c4,i0,i3,i4⟩:=D;exact ⟨S,k,nx,c3,c4,by rw [jb h.1]; exact i0,by rw [jb h.2.1]; exact i3,by rw [jb h.2.2]; exact i4⟩
end
set_option maxHeartbeats 4000000 in
theorem jog (hb:NB base){p mb lo q:Nat}{m:ModT}{ts:List (List Nat)}{v1 v2 v3:AV}{d:DeclT}{v:VarT}{st:St}{L:Sl}{s:St}(D:DS p mb lo q m ts v1 v2 v3 d v st L s)(V:VarsOK m.vars m.enums)(hV:m.vars.length≤900000)(hx:∀ x∈d.begins,OkE x)(hbl:d.begins.length≤1000000)(K Kp:AV->St->Prop)(hK:KM p mb lo st (vr m ts d v) K Kp):xC Qaf base jc9 L s (dQ st K) (dP st Kp):=by
 have i0:=D.i0;have i3:=D.i3;have i4:=D.i4;have C3:=D.c3;have C4:=D.c4;unfold jc9;try dsimp only [oo,oO,ot,oT,os,og,oh,oc,on,oN,oP]
 (have zz:=aI C3.r C4.r; (repeat' (first | (apply jc <;> intro _) | simp (disch:=first | exact qq | fail) only [ja i0,ja i3,ja i4,C3.q,C4.q,C3.r,C4.r,jd,jo,jn,jf,jt,ju,jx,jy,jv,rzZ,Qab,Qac,Qad,Qaa,Qae])); (all_goals (clear zz)))
 refine qt d.begins.length (λk L s=>(∃ u,JF m.vars m.enums v (d.begins.take k)=.ok u∧DS p mb lo q m ts v1 v2 v3 d u st L s)∧Has L 93 (.lst d.begins.length (fl eE d.begins))) (by first | assumption | omega) (by decide) (by simp (disch:=decide) only [je,jb]) (by simp (disch:=decide) only [je,jb]) ?_ (λk L s v h=>(by obtain ⟨⟨u,h1,h2⟩,h3⟩:=h; refine ⟨⟨u,h1,h2.push (by decide)⟩,?_⟩; simp (disch:=decide) only [jb]; assumption)) (λk L s v h=>(by obtain ⟨⟨u,h1,h2⟩,h3⟩:=h; refine ⟨⟨u,h1,h2.push (by decide)⟩,?_⟩; simp (disch:=decide) only [jb]; assumption)) (λk L s hk hI hi hn=>?_) (λL s hI=>?_)
 ·refine ⟨⟨v,by rw [Qbe,JF],((D.push (by decide)).push (by decide)).push (by decide)⟩,?_⟩;simp (disch:=decide) only [jb,je]
 ·obtain ⟨⟨u,h1,D⟩,i93⟩:=hI;obtain ⟨S,k0,nx,C3,C4,i0,i3,i4⟩:=D;have tk:d.begins.take (k+1)=d.begins.take k ++ [d.begins[k]]:=zj hk;obtain ⟨x1,x2⟩:=hx _ (Qax hk);have hqm:q≠p∧q+1≠p:=by have:=S.hp; have:=S.lo; omega
  have hqn:=S.hi;have hlq:=S.lo;have z6l:(eE d.begins[k]).length=([.int .i64 0,.int .i64 0,.str [],.nils,.int .i64 0,.int .i64 0]:List AV).length:=by rw [zJ]; rfl
  have S1:=(S.nw [.int .i64 0,.int .i64 0,.str [],.nils,.int .i64 0,.int .i64 0]).wr hqn 0 (eE d.begins[k]);have k1:=(k0.nw (by omega) [.int .i64 0,.int .i64 0,.str [],.nils,.int .i64 0,.int .i64 0]).wr (c:=s.nx) (.inr (by omega)) 0 (eE d.begins[k]);have C7:=(Cl.new s [.int .i64 0,.int .i64 0,.str [],.nils,.int .i64 0,.int .i64 0]).wr0 z6l;have D3:Cl (Go.Sy.wr (Go.Sy.nw s [.int .i64 0,.int .i64 0,.str [],.nils,.int .i64 0,.int .i64 0]) s.nx 0 (eE d.begins[k])) q (qc d):=by (first | exact C3 | (simp (disch:=first | assumption | decide | (first | omega | (simp only [jg,jh,jl,jj,ji]; first | done | omega))) only [jz,jA,jr,jO,jC,jE,jF,jG]; exact C3))
  have D4:Cl (Go.Sy.wr (Go.Sy.nw s [.int .i64 0,.int .i64 0,.str [],.nils,.int .i64 0,.int .i64 0]) s.nx 0 (eE d.begins[k])) (q+1) (vaE u):=by (first | exact C4 | (simp (disch:=first | assumption | decide | (first | omega | (simp only [jg,jh,jl,jj,ji]; first | done | omega))) only [jz,jA,jr,jO,jC,jE,jF,jG]; exact C4))
  (have zz:=aI C3.r C4.r; (repeat' (first | (apply jc <;> intro _) | simp (disch:=first | exact qq | fail) only [ja i0,ja i3,ja i4,ja i93,ja hi,ja hn,C3.q,C4.q,C3.r,C4.r,jd,jo,jn,jf,jt,ju,jx,jy,jv,rzZ,Qab,Qac,Qad,Qaa,Qae])); (all_goals (clear zz)))
  have hn1:(Go.Sy.wr (Go.Sy.nw s [.int .i64 0,.int .i64 0,.str [],.nils,.int .i64 0,.int .i64 0]) s.nx 0 (eE d.begins[k])).nx=s.nx+1:=rfl;generalize Go.Sy.wr (Go.Sy.nw s [.int .i64 0,.int .i64 0,.str [],.nils,.int .i64 0,.int .i64 0]) s.nx 0 (eE d.begins[k])=t1 at *;refine Vf hb V _ x2 (XO _ x1) u.kind u.enum S1.ck _ _ ?_;have e3:d.begins=d.begins.take k ++ (d.begins[k] :: d.begins.drop (k+1)):=by rw [QbD,Qby]
  have bk1:JF m.vars m.enums v d.begins=JF m.vars m.enums u (d.begins[k] :: d.begins.drop (k+1)):=by
   have e:=congrArg (JF m.vars m.enums v) e3;rw [UA,h1] at e;exact e
  have bk2:JF m.vars m.enums v (d.begins.take (k+1))=JF m.vars m.enums u [d.begins[k]]:=by
   rw [tk,UA,h1]
  unfold vr at hK;rw [bk1,JF] at hK;rw [JF] at bk2;cases hr:qE m.vars m.enums false d.begins[k] u.kind u.enum with
  | er a b c=>
   rw [hr] at hK;intro s' k2;exact hK _ (k1.keep k2 (by omega)).bk
  | ok y=>
   have y1:=jbI x1 hr;have y2:=XO _ y1;rw [hr] at hK bk2;dsimp only at hK bk2;intro s' k2 C2;have hs':=k2.nx;have k3:=k1.keep k2 (by omega);have S3:=S1.keep k2 C2;have E3:=k2.cl D3 hqm.1;have E4:=k2.cl D4 hqm.2;have E7:=k2.cl C7 (by have:=S.cp.lt; omega);have F:=jkQ hb y y2;clear S1 k1 k2 C2 C7 D3 D4 C3 C4 S k0;cases hf:JA y with
   | some z=>
    rw [show zV y=(z,true) by unfold zV; rw [hf]] at F;rw [hf] at hK
    (have zz:=aI E3.r (aI E4.r E7.r); (repeat' (first | (apply jc <;> intro _) | simp (disch:=first | exact qq | fail) only [ja i0,ja i3,ja i4,F,zB hb,E3.q,E4.q,E7.q,E3.r,E4.r,E7.r,jd,jo,jn,jf,jt,ju,jx,jy,jv,rzZ,Qab,Qac,Qad,Qaa,Qae])); (all_goals (clear zz)))
    exact hK _ (((((k3.nw (by omega) _).wr (c:=s'.nx) (.inr (by omega)) 0 _).nw (by (first | omega | (simp only [jg,jh,jl,jj,ji]; first | done | omega))) _).wr (.inr (by (first | omega | (simp only [jg,jh,jl,jj,ji]; first | done | omega)))) 0 _)).bk
   | none=>
    rw [show zV y=(y,false) by unfold zV; rw [hf]] at F;rw [hf] at hK bk2;dsimp only at hK bk2;have G:=jen hb y y1 hf;by_cases hc:zW y<u.lo∨u.hi<zW y
    ·rw [if_pos hc] at hK
     (have zz:=aI E3.r (aI E4.r E7.r); (repeat' (first | (apply jc <;> intro _) | simp (disch:=first | exact qq | fail) only [ja i0,ja i3,ja i4,F,G,zB hb,E3.q,E4.q,E7.q,E3.r,E4.r,E7.r,jd,jo,jn,jf,jt,ju,jx,jy,jv,rzZ,Qab,Qac,Qad,Qaa,Qae])); (all_goals (clear zz)))
     all_goals exact hK _ ((((((k3.nw (by omega) _).wr (c:=s'.nx) (.inr (by omega)) 0 _).nw (by (first | omega | (simp only [jg,jh,jl,jj,ji]; first | done | omega))) _).wr (.inr (by (first | omega | (simp only [jg,jh,jl,jj,ji]; first | done | omega)))) 0 _).wr (c:=q+1) (.inr (by omega)) 5 _).wr (c:=q+1) (.inr (by omega)) 6 _).bk
    ·rw [if_neg hc] at bk2;have hc1:¬ zW y<u.lo:=λh=>hc (.inl h);have hc2:¬ u.hi<zW y:=λh=>hc (.inr h)
     (have zz:=aI E3.r (aI E4.r E7.r); (repeat' (first | (apply jc <;> intro _) | simp (disch:=first | exact qq | fail) only [ja i0,ja i3,ja i4,ja hi,F,G,hc1,hc2,E3.q,E4.q,E7.q,E3.r,E4.r,E7.r,jd,jo,jn,jf,jt,ju,jx,jy,jv,rzZ,Qab,Qac,Qad,Qaa,Qae])); (all_goals (clear zz)))
     have S5:=((((((S3.nw [.int .i64 0,.int .i64 0,.str [],.nils,.int .i64 0,.int .i64 0]).wr (c:=s'.nx) (by omega) 0 (eE y)).nw [.int .i64 0,.int .i64 0,.str [],.nils,.int .i64 0,.int .i64 0]).wr (c:=s'.nx+1) (by omega) 0 (eE y)).wr (c:=q+1) (by omega) 5 [.bool true]).wr (c:=q+1) (by omega) 6 [.int .i64 (zW y)]);have k5:=((((((k3.nw (by omega) [.int .i64 0,.int .i64 0,.str [],.nils,.int .i64 0,.int .i64 0]).wr (c:=s'.nx) (.inr (by omega)) 0 (eE y)).nw (by (first | omega | (simp only [jg,jh,jl,jj,ji]; first | done | omega))) [.int .i64 0,.int .i64 0,.str [],.nils,.int .i64 0,.int .i64 0]).wr (c:=s'.nx+1) (.inr (by omega)) 0 (eE y)).wr (c:=q+1) (.inr (by omega)) 5 [.bool true]).wr (c:=q+1) (.inr (by omega)) 6 [.int .i64 (zW y)]);refine ⟨⟨⟨{ u with beg:=true,first:=zW y },?_,S5,k5,by (first | omega | (simp only [jg,jh,jl,jj,ji]; first | done | omega)),?_,Cl.wr (Cl.wr (?_:Cl _ (q+1) (vaE u)) 5 [.bool true]) 6 [.int .i64 (zW y)],?_,?_,?_⟩,?_⟩,?_,?_⟩
     ·rw [bk2];rfl
     ·(first | exact E3 | (simp (disch:=first | assumption | decide | (first | omega | (simp only [jg,jh,jl,jj,ji]; first | done | omega))) only [jz,jA,jr,jO,jC,jE,jF,jG]; exact E3))
     ·(first | exact E4 | (simp (disch:=first | assumption | decide | (first | omega | (simp only [jg,jh,jl,jj,ji]; first | done | omega))) only [jz,jA,jr,jO,jC,jE,jF,jG]; exact E4))
     all_goals (simp (disch:=decide) only [jb]; assumption)
 ·obtain ⟨⟨u,h1,D⟩,i93⟩:=hI;rw [QaD] at h1;unfold vr at hK;rw [h1] at hK;repeat' (first | (apply jc <;> intro _) | simp (disch:=first | exact dzG | fail) only [jd,jo,jn,jf,jt,ju,jx,jy,jv,rzZ,Qab,Qac,Qad,Qaa,Qae])
  exact jof hb D hV K Kp hK
end Go.Sy
end
noncomputable section
set_option maxRecDepth 100000
namespace Go.Sy
open Go.Ev Go.Proofs
variable {base:Bs}
theorem jd1 (hb:NB base)(enums:List EnumT)(hl:enums.length≤1000000)(d:DeclT){v2:AV}(st:St){q:Nat}(h:Lr st v2 enums.length (fl enE enums))(C:Cl st q (qc d))(K Kp:AV->St->Prop) :
  XB Qaf base 100 [v2,.fn 101 [.ptr q 0]] st K Kp=K (.int .i64 (J7 enums d.ty)) st:=by
 refine (jd0 hb enums (by unfold BIG; omega) d).xb (zY (h.lend (zg Jr enums)) (zY ?_ w4)) (λst=>hb.no 100 (by decide) _ _) K Kp;show (QC st.h [.ptr q 0]).map (AV.fn 101)=_;have:ZI st.h (.ptr q 0)=some (.lptr (qc d) 0):=uQ C (JO (uU 8 rfl) rfl (JO (uU 8 rfl) rfl (JO (uU 8 rfl) rfl (JO (uU 8 rfl) rfl (JO (uU 8 rfl) rfl (JO (uU 8 rfl) rfl (JO (uU 8 rfl) rfl K7)))))));simp only [QC,this];rfl
set_option maxHeartbeats 4000000 in
theorem joe (hb:NB base){p mb lo:Nat}{m:ModT}{ts:List (List Nat)}{st:St}(d:DeclT)(V:VarsOK m.vars m.enums)(hV:m.vars.length≤900000)(hx:∀ x∈d.begins,OkE x)(hbl:d.begins.length≤1000000)(hlo : -100000000≤d.lo∧d.lo≤100000000)(hhi : -100000000≤d.hi∧d.hi≤100000000)(H:MX p mb lo m ts st)(K Kp:AV->St->Prop)(hK:KM p mb lo st (Y7 m ts d) K Kp):XB Qaf base 62 [.ptr p 0,.agg (qc d)] st K Kp:=by
 obtain ⟨v1,v2,v3,S⟩:=H;obtain ⟨C,M,l1,l2,l3,d12,d13,d23,hp,hm,pm,lo0,hi0⟩:=id S;refine Jc x62 (by rfl) (hb.at0 62 (by decide) (by decide) _ _) ?_;simp only [y62,jm,Qai,Qaj,Qag,Qah];unfold z62;try dsimp only [oo,oO,ot,oT,os,og,oh,oc,on,oN,oP]
 have hnx:st.bare.nx=st.nx:=rfl;have S0:=S.bare.nw (qc d);have q1:=(Kq.refl:Kq p mb lo st.bare st.bare).nw (Qau lo0 hi0) (qc d);have Cb:Cl (Go.Sy.nw st.bare (qc d)) st.nx (qc d):=Cl.new st.bare (qc d);unfold Y7 QR at hK;repeat' (first | (apply jc <;> intro _) | simp (disch:=first | exact dzG | fail) only [jd,jo,jn,jf,jt,ju,jx,jy,jv,rzZ,Qab,Qac,Qad,Qaa,Qae])
 refine UR hb S0.cp S0.mp _ _ _ _ _ ?_;by_cases h:d.name∈ts
 ·rw [if_pos h] at hK ⊢;exact hK _ q1.bk
 ·rw [if_neg h] at hK ⊢
  replace S0:=S0.take (ts ++ [d.name])
  replace q1:=q1.mp (mpl (ts ++ [d.name]))
  have Cb:Cl (Go.Sy.mp (Go.Sy.nw st.bare (qc d)) mb (mpl (ts ++ [d.name]))) st.nx (qc d):=by rw [u7 (by omega)]; exact Cb
  have hn1:(Go.Sy.mp (Go.Sy.nw st.bare (qc d)) mb (mpl (ts ++ [d.name]))).nx=st.nx+1:=rfl;generalize Go.Sy.mp (Go.Sy.nw st.bare (qc d)) mb (mpl (ts ++ [d.name]))=s1 at *;dsimp only at hK;have Cv:=(Cl.new s1 va0).wr0 (c':=vaE ⟨d.name,1,[],d.lo,d.hi,false,0⟩) rfl;have S1:=(S0.nw va0).wr (c:=s1.nx) (by omega) 0 (vaE ⟨d.name,1,[],d.lo,d.hi,false,0⟩);have q2:=(q1.nw (by omega) va0).wr (c:=s1.nx) (.inr (by omega)) 0 (vaE ⟨d.name,1,[],d.lo,d.hi,false,0⟩);have Cd:Cl (Go.Sy.wr (Go.Sy.nw s1 va0) s1.nx 0 (vaE ⟨d.name,1,[],d.lo,d.hi,false,0⟩)) st.nx (qc d):=by (first | exact Cb | (simp (disch:=first | assumption | decide | (first | omega | (simp only [jg,jh,jl,jj,ji]; first | done | omega))) only [jz,jA,jr,jO,jC,jE,jF,jG]; exact Cb))
  have FE:=λK Kp=>jd1 hb m.enums V.len2 d _ S1.l2.lr Cd K Kp;have C0:=S0.cp;have C1:=S1.cp;have hmp:st.nx≠p∧st.nx+1≠p:=by omega
  simp only [ut,hn1] at FE;simp only [hn1] at S1 q2 Cv Cd C1;unfold va0 at *;have mk:∀ (v:VarT) (L:Sl) (s:St),MS p mb lo st.nx m (ts ++ [d.name]) v1 v2 v3 s->Kq p mb lo st.bare s->st.nx+2≤s.nx->Cl s st.nx (qc d)->Cl s (st.nx+1) (vaE v)->Has L 0 (.ptr p 0)->Has L 3 (.ptr st.nx 0)->Has L 4 (.ptr (st.nx+1) 0)->KM p mb lo st (vr m (ts ++ [d.name]) d v) K Kp->xC Qaf base jc9 L s (dQ st K) (dP st Kp):=λv L s a1 a2 a3 a4 a5 a6 a7 a8 hK=>jog hb ⟨a1,a2,a3,a4,a5,a6,a7,a8⟩ V hV hx hbl K Kp hK;unfold uS at hK;by_cases h1:d.ty=[98,111,111,108]
  ·rw [if_pos h1] at hK;have S2:=(((S1.wr (c:=st.nx+1) (by omega) 1 [.int .i64 2]).wr (c:=st.nx+1) (by omega) 3 [.int .i64 0]).wr (c:=st.nx+1) (by omega) 4 [.int .i64 1]);have q3:=(((q2.wr (c:=st.nx+1) (.inr (by omega)) 1 [.int .i64 2]).wr (c:=st.nx+1) (.inr (by omega)) 3 [.int .i64 0]).wr (c:=st.nx+1) (.inr (by omega)) 4 [.int .i64 1])
   (have zz:=aI @hn1 (aI @Cb.r C0.r); (repeat' (first | (apply jc <;> intro _) | simp (disch:=first | exact qq | fail) only [FE,h1,hn1,Cb.q,C0.q,hn1,Cb.r,C0.r,jd,jo,jn,jf,jt,ju,jx,jy,jv,rzZ,Qab,Qac,Qad,Qaa,Qae])); (all_goals (clear zz)))
   refine mk ⟨d.name,2,[],0,1,false,0⟩ _ _ S2 q3 (by (first | omega | (simp only [jg,jh,jl,jj,ji]; first | done | omega))) (by (first | exact Cb | (simp (disch:=first | assumption | decide | (first | omega | (simp only [jg,jh,jl,jj,ji]; first | done | omega))) only [jz,jA,jr,jO,jC,jE,jF,jG]; exact Cb))) ?_ ?_ ?_ ?_ hK
   ·exact ((Cv.wr 1 [.int .i64 2]).wr 3 [.int .i64 0]).wr 4 [.int .i64 1]
   all_goals simp (disch:=decide) only [jb,je]
  rw [if_neg h1] at hK;by_cases h2:0≤J7 m.enums d.ty
  ·rw [if_pos h2] at hK;have hlt:J7 m.enums d.ty<(m.enums.length:Int):=w9;have hi2:(J7 m.enums d.ty).toNat<m.enums.length:=by omega
   have eg:m.enums.getD (J7 m.enums d.ty).toNat en0=m.enums[(J7 m.enums d.ty).toNat]:=by simp [QaL,hi2]
   rw [eg] at hK;have Lw:=S0.l2;rcases id Lw with ⟨_,e0,_⟩ | ⟨b,rfl,b1,b2,Ce,b5,b6⟩
   ·omega
   have gl:qo s1.h b=m.enums.length * 4:=by rw [Ce.len,zU JH]
   have ge:rat s1.h b ((J7 m.enums d.ty).toNat * 4+1)=.lst m.enums[(J7 m.enums d.ty).toNat].vals.length (m.enums[(J7 m.enums d.ty).toNat].vals.map .str):=by
    rw [Ce.cell _ (by rw [zU JH]; omega),wz JH hi2 (by decide)]; rfl
   have hbp:b≠p∧b≠st.nx∧b≠st.nx+1∧b<s1.nx:=by omega
   have gp:rat s1.h p 1=.slice b 0 m.enums.length m.enums.length 4 false:=C0.cell 1 (by simp only [Qak,Qan]; omega);have gd:rat s1.h st.nx 1=.str d.ty:=(Cb.cell 1 (by rw [Qk]; decide)).trans (by rw [ug]; rfl);have hvl:=V.vals _ (Qax hi2)
   (have zz:=aI @hn1 (aI @gl (aI @ge (aI @Cb.r C0.r))); (repeat' (first | (apply jc <;> intro _) | simp (disch:=first | exact qq | fail) only [FE,h1,h2,hn1,ge,sm9,KK,KJ,Cb.q,C0.q,hn1,gl,ge,Cb.r,C0.r,jd,jo,jn,jf,jt,ju,jx,jy,jv,rzZ,Qab,Qac,Qad,Qaa,Qae])); (all_goals (clear zz)))
   refine ⟨?_,?_,?_,?_⟩;rotate_right
   ·have S2:=((((S1.wr (c:=st.nx+1) (by omega) 1 [.int .i64 3]).wr (c:=st.nx+1) (by omega) 2 [.str d.ty]).wr (c:=st.nx+1) (by omega) 3 [.int .i64 0]).wr (c:=st.nx+1) (by omega) 4 [.int .i64 ((m.enums[(J7 m.enums d.ty).toNat].vals.length:Int) - 1)]);have q3:=((((q2.wr (c:=st.nx+1) (.inr (by omega)) 1 [.int .i64 3]).wr (c:=st.nx+1) (.inr (by omega)) 2 [.str d.ty]).wr (c:=st.nx+1) (.inr (by omega)) 3 [.int .i64 0]).wr (c:=st.nx+1) (.inr (by omega)) 4 [.int .i64 ((m.enums[(J7 m.enums d.ty).toNat].vals.length:Int) - 1)]);refine mk ⟨d.name,3,d.ty,0,(m.enums[(J7 m.enums d.ty).toNat].vals.length:Int) - 1,false,0⟩ _ _ S2 q3 (by (first | omega | (simp only [jg,jh,jl,jj,ji]; first | done | omega))) (by (first | exact Cb | (simp (disch:=first | assumption | decide | (first | omega | (simp only [jg,jh,jl,jj,ji]; first | done | omega))) only [jz,jA,jr,jO,jC,jE,jF,jG]; exact Cb))) ?_ ?_ ?_ ?_ hK
    ·exact (((Cv.wr 1 [.int .i64 3]).wr 2 [.str d.ty]).wr 3 [.int .i64 0]).wr 4 [.int .i64 ((m.enums[(J7 m.enums d.ty).toNat].vals.length:Int) - 1)]
    all_goals simp (disch:=decide) only [jb,je]
   all_goals
    repeat' apply aI
    all_goals first
     | exact (KJ (by simp (disch:=omega) only [QD,QX,gl]; omega) (by simp (disch:=omega) only [Zj,wJ,ge]) rfl).mpr trivial
     | exact (KK (by simp (disch:=omega) only [QD,QX,C0.len,Qak,Qan]; omega) (by simp (disch:=omega) only [Zj,wJ,gp]) rfl).mpr trivial
     | exact (sm9 (by simp (disch:=omega) only [QD,QX,Cb.len,Qk]; omega) (by simp (disch:=omega) only [Zj,wJ,gd]) rfl).mpr trivial
  rw [if_neg h2] at hK;by_cases h3:d.ty≠[]
  ·rw [if_pos h3] at hK
   (have zz:=aI @hn1 (aI @Cb.r C0.r); (repeat' (first | (apply jc <;> intro _) | simp (disch:=first | exact qq | fail) only [FE,h1,h2,h3,hn1,zB hb,Cb.q,C0.q,hn1,Cb.r,C0.r,jd,jo,jn,jf,jt,ju,jx,jy,jv,rzZ,Qab,Qac,Qad,Qaa,Qae])); (all_goals (clear zz)))
   exact hK _ q2.bk
  rw [if_neg h3] at hK;have h3:(d.ty=[])=True:=eq_true (by simpa using h3);by_cases h4:d.hi<d.lo
  ·rw [if_pos h4] at hK
   (have zz:=aI @hn1 (aI @Cb.r C0.r); (repeat' (first | (apply jc <;> intro _) | simp (disch:=first | exact qq | fail) only [FE,h1,h2,h3,h4,hn1,zB hb,Cb.q,C0.q,hn1,Cb.r,C0.r,jd,jo,jn,jf,jt,ju,jx,jy,jv,rzZ,Qab,Qac,Qad,Qaa,Qae])); (all_goals (clear zz)))
   exact hK _ q2.bk
  rw [if_neg h4] at hK;by_cases h5:1024≤d.hi - d.lo
  ·rw [if_pos h5] at hK
   (have zz:=aI @hn1 (aI @Cb.r C0.r); (repeat' (first | (apply jc <;> intro _) | simp (disch:=first | exact qq | fail) only [FE,h1,h2,h3,h4,h5,hn1,zB hb,Cb.q,C0.q,hn1,Cb.r,C0.r,jd,jo,jn,jf,jt,ju,jx,jy,jv,rzZ,Qab,Qac,Qad,Qaa,Qae])); (all_goals (clear zz)))
   exact hK _ q2.bk
  rw [if_neg h5] at hK
  (have zz:=aI @hn1 (aI @Cb.r C0.r); (repeat' (first | (apply jc <;> intro _) | simp (disch:=first | exact qq | fail) only [FE,h1,h2,h3,h4,h5,hn1,Cb.q,C0.q,hn1,Cb.r,C0.r,jd,jo,jn,jf,jt,ju,jx,jy,jv,rzZ,Qab,Qac,Qad,Qaa,Qae])); (all_goals (clear zz)))
  refine mk _ _ _ S1 q2 (by (first | omega | (simp only [jg,jh,jl,jj,ji]; first | done | omega))) (by (first | exact Cb | (simp (disch:=first | assumption | decide | (first | omega | (simp only [jg,jh,jl,jj,ji]; first | done | omega))) only [jz,jA,jr,jO,jC,jE,jF,jG]; exact Cb))) Cv ?_ ?_ ?_ hK;all_goals simp (disch:=decide) only [jb,je]
end Go.Sy
end
noncomputable section
set_option maxRecDepth 100000
namespace Go.Sy
open Go.Ev Go.Proofs
variable {base:Bs}
theorem Gi {s:St}:∀ {cs:List AV},cs.all pc=true->lall AV.cell cs=true->Xt (fz 9 s.h) cs=cs
 | [],_,_=>K7
 | v :: l,hp,hc=>by
  rw [Qbf,Qar] at hp;have h1:v.cell=true∧lall AV.cell l=true:=by
   have:cond v.cell (lall AV.cell l) false=true:=hc;cases h:v.cell with
   | true=>rw [h] at this; exact ⟨rfl,this⟩
   | false=>rw [h] at this; cases this
  exact JO (uU 8 hp.1) h1.1 (Gi hp.2 h1.2)
theorem joR {α:Type}{enc:α->List AV}{z:Nat}(hz:∀ x,(enc x).length=z){xs:List α}{k:IntKind}{i:Nat}(hi:i≤xs.length){st:St}{K:AV->St->Prop}:jk (vB z (.lst xs.length (fl enc xs)) none (some (.int k (i:Int))) st) K=K (.lst i (fl enc (xs.take i))) st:=by
 have e1:Qao (Qat i z) (jS (fl enc xs))=true:=by
  rw [jT,zU hz];exact yh (QaK z hi)
 simp only [vB,optA,KX,yh hi,yh (QaM i),e1,cond_true,jk,q6,yH];have e2:(fl enc xs).drop (Qat 0 z)=fl enc xs:=by rw [show Qat 0 z=0 from Qbu z]; rfl
 have e3:Qat (Qbd i 0) z=i * z:=rfl;rw [e2,e3,jcJ hz];rfl
theorem jkP (hb:NB base)(xs:List AsT)(hl:xs.length≤1000000)(a:AsT)(st:St){q:Nat}(C:Cl st q (asE a))(n:Nat)(hn:n=xs.length)(K Kp:AV->St->Prop) :
  XB Qaf base 105 [.lst n (fl asE xs),.fn 106 [.ptr q 0]] st K Kp=K (.bool (decide (0≤fi (λx=>decide (x.name=a.name)) xs))) st:=by
 subst hn;refine (jkO hb xs (by unfold BIG; omega) a).xb (YJ rfl (zY ?_ w4)) (λst=>hb.no 105 (by decide) _ _) K Kp;show (QC st.h [.ptr q 0]).map (AV.fn 106)=_;have:ZI st.h (.ptr q 0)=some (.lptr (asE a) 0):=uQ C (Gi (J9 a) (Ko a));simp only [QC,this];rfl
theorem jdj (hb:NB base){p:Nat}{v1 v2 v3 mm:AV}{vars:List VarT}{enums:List EnumT}{fm:Bool}{st:St}(C:Ck p v1 v2 v3 mm vars enums fm st)(hl:vars.length≤1000000)(s:List Nat)(K Kp:AV->St->Prop) :
  XB Qaf base 104 [.ptr p 0,.str s] st K Kp=K (.int .i64 (qj vars s)) st:=by
 obtain ⟨r,hr⟩:=C.lend;exact (UK hb vars (by unfold BIG; omega) s _).xb (zY hr (YJ rfl w4)) (λst=>hb.no 104 (by decide) _ _) K Kp
def mvc:List MoveT->List AV->List AV
 | m :: ms,u :: us=>(eE m.when ++ [u]) ++ mvc ms us
 | _,_=>[]
theorem jct:∀ {ms:List MoveT} {us:List AV} {m:MoveT} {u:AV},us.length=ms.length->mvc (ms ++ [m]) (us ++ [u])=mvc ms us ++ (eE m.when ++ [u])
 | [],[],m,u,_=>by simp [mvc]
 | m' :: ms,u' :: us,m,u,h=>by
  show (eE m'.when ++ [u']) ++ mvc (ms ++ [m]) (us ++ [u])=((eE m'.when ++ [u']) ++ mvc ms us) ++ (eE m.when ++ [u]);rw [jct (by simpa using h)];simp only [QaW]
 | [],u' :: us,m,u,h=>by simp at h
 | m' :: ms,[],m,u,h=>by simp at h
def UU (lo hi:Nat)(s:St)(v3:AV):List MoveT->List AV->Prop
 | [],[]=>True
 | m :: ms,u :: us=>(Lv lo hi s u m.acts.length (fl seE m.acts) 7∧Df v3 u)∧UU lo hi s v3 ms us
 | _,_=>False
theorem UU.imp {lo hi lo' hi':Nat}{s s':St}{v3 v3':AV}(f:∀ u n cs,Lv lo hi s u n cs 7∧Df v3 u->Lv lo' hi' s' u n cs 7∧Df v3' u):∀ {ms:List MoveT} {us:List AV},UU lo hi s v3 ms us->UU lo' hi' s' v3' ms us
 | [],[],_=>trivial
 | m :: ms,u :: us,h=>⟨f _ _ _ h.1,UU.imp f h.2⟩
theorem UU.len {lo hi:Nat}{s:St}{v3:AV}:∀ {ms:List MoveT} {us:List AV},UU lo hi s v3 ms us->us.length=ms.length
 | [],[],_=>rfl
 | m :: ms,u :: us,h=>by simp [UU.len h.2]
theorem UU.app {lo hi:Nat}{s:St}{v3:AV}{m:MoveT}{u:AV}(hu:Lv lo hi s u m.acts.length (fl seE m.acts) 7∧Df v3 u):∀ {ms:List MoveT} {us:List AV},UU lo hi s v3 ms us->UU lo hi s v3 (ms ++ [m]) (us ++ [u])
 | [],[],_=>⟨hu,trivial⟩
 | m' :: ms,u' :: us,h=>⟨h.1,UU.app hu h.2⟩
structure MR (p mb lo hi:Nat)(m:ModT)(ts:List (List Nat))(v1 v2 v3:AV)(us:List AV)(s:St):Prop where
 cp:Cl s p [v1,v2,v3,.map mb,.bool false]
 mp:Mp s mb ts
 l1:Lv lo hi s v1 m.vars.length (fl vaE m.vars) 7
 l2:Lv lo hi s v2 m.enums.length (fl enE m.enums) 4
 l3:Lv lo hi s v3 m.moves.length (mvc m.moves us) 7
 uu:UU lo hi s v3 m.moves us
 d13:Df v3 v1
 d23:Df v3 v2
 hp:p<lo
 hm:mb<lo
 pm:p≠mb
 lo:lo≤hi
 hi:hi≤s.nx
def MZ (p mb lo:Nat)(m:ModT)(ts:List (List Nat))(s:St):Prop:=∃ v1 v2 v3 us,MR p mb lo s.nx m ts v1 v2 v3 us s
theorem Df.symm2 {v w:AV}(h:Df v w):Df w v:=by
 unfold Df at *;cases v <;> cases w <;> first | trivial | exact λe=>h e.symm
section
variable {p mb lo hi:Nat} {m:ModT} {ts us:List (List Nat)} {v1 v2 v3:AV} {ws:List AV} {s t:St}
theorem MS.mr (S:MS p mb lo hi m ts v1 v2 v3 s)(h:m.moves=[]):MR p mb lo hi m ts v1 v2 v3 [] s:=by
 obtain ⟨C,M,l1,l2,l3,d12,d13,d23,hp,hm,pm,h1,h2⟩:=S;refine ⟨C,M,l1,l2,?_,?_,Df.symm2 d13,Df.symm2 d23,hp,hm,pm,h1,h2⟩
 ·rw [h] at l3 ⊢; exact l3
 ·rw [h]; trivial
theorem MR.ck (S:MR p mb lo hi m ts v1 v2 v3 ws s):Ck p v1 v2 v3 (.map mb) m.vars m.enums false s:=by
 obtain ⟨C,M,l1,l2,l3,uu,d13,d23,hp,hm,pm,h1,h2⟩:=S;refine ⟨C,l1.lr,l2.lr,?_,?_⟩
 ·intro b k z x e;rcases l1 with ⟨h,_⟩ | ⟨c,h,h2,_⟩
  ·rw [h] at e; cases e
  ·rw [h] at e; cases e; omega
 ·intro b k z x e;rcases l2 with ⟨h,_⟩ | ⟨c,h,h2,_⟩
  ·rw [h] at e; cases e
  ·rw [h] at e; cases e; omega
theorem MR.imp (S:MR p mb lo hi m ts v1 v2 v3 ws s){hi':Nat}(C:Cl t p [v1,v2,v3,.map mb,.bool false])(M:Mp t mb us)(f:∀ v n cs z,Lv lo hi s v n cs z->Lv lo hi' t v n cs z)(h1:hi≤hi')(h2:hi'≤t.nx):MR p mb lo hi' m us v1 v2 v3 ws t:=
 ⟨C,M,f _ _ _ _ S.l1,f _ _ _ _ S.l2,f _ _ _ _ S.l3,S.uu.imp λu n cs h=>⟨f _ _ _ _ h.1,h.2⟩,S.d13,S.d23,S.hp,S.hm,S.pm,Qau S.lo h1,h2⟩
theorem MR.nw (S:MR p mb lo hi m ts v1 v2 v3 ws s)(ds:List AV):MR p mb lo hi m ts v1 v2 v3 ws (Go.Sy.nw s ds):=by
 have C:=S.cp;have h1:=S.hp;have h2:=S.hi;have h3:=S.lo;exact S.imp (by (first | exact C | (simp (disch:=first | assumption | decide | (first | omega | (simp only [jg,jh,jl,jj,ji]; first | done | omega))) only [jz,jA,jr,jO,jC,jE,jF,jG]; exact C))) (S.mp.nw ds) (λv n cs z h=>by (first | exact h | (simp (disch:=first | assumption | decide | (first | omega | (simp only [jg,jh,jl,jj,ji]; first | done | omega))) only [jz,jA,jr,jO,jC,jE,jF,jG]; exact h))) (Qap _) (by rw [jg]; omega)
theorem MR.wr (S:MR p mb lo hi m ts v1 v2 v3 ws s){c:Nat}(hc:hi≤c)(o:Nat)(ds:List AV):MR p mb lo hi m ts v1 v2 v3 ws (Go.Sy.wr s c o ds):=by
 have C:=S.cp;have h1:=S.hp;have h2:=S.hi;have h3:=S.lo;have h4:=S.hm;exact S.imp (by (first | exact C | (simp (disch:=first | assumption | decide | (first | omega | (simp only [jg,jh,jl,jj,ji]; first | done | omega))) only [jz,jA,jr,jO,jC,jE,jF,jG]; exact C))) (S.mp.wr (by omega) o ds) (λv n cs z h=>by (first | exact h | (simp (disch:=first | assumption | decide | (first | omega | (simp only [jg,jh,jl,jj,ji]; first | done | omega))) only [jz,jA,jr,jO,jC,jE,jF,jG]; exact h))) (Qap _) (by rw [jh]; omega)
theorem MR.take (S:MR p mb lo hi m ts v1 v2 v3 ws s)(us:List (List Nat)):MR p mb lo hi m us v1 v2 v3 ws (Go.Sy.mp s mb (mpl us)):=
 S.imp (by rw [u7 S.pm]; exact S.cp) S.mp.put (λv n cs z h=>h.mp S.hm) (Qap _) S.hi
theorem MR.keep (S:MR p mb lo hi m ts v1 v2 v3 ws s)(k:Keep p s t)(C':Cl t p [v1,v2,v3,.map mb,.bool false]):MR p mb lo hi m ts v1 v2 v3 ws t:=
 S.imp C' (S.mp.keep k.nx (k.get mb S.mp.lt (λe=>S.pm e.symm))) (λv n cs z h=>k.lv h (.inl S.hp)) (Qap _) (Qau S.hi k.nx)
theorem MR.up (S:MR p mb lo hi m ts v1 v2 v3 ws s){hi':Nat}(h:hi≤hi')(h2:hi'≤s.nx):MR p mb lo hi' m ts v1 v2 v3 ws s:=
 S.imp S.cp S.mp (λv n cs z k=>k.up h) h h2
theorem MR.bare (S:MR p mb lo hi m ts v1 v2 v3 ws s):MR p mb lo hi m ts v1 v2 v3 ws s.bare:=
 S.imp S.cp.bar ⟨S.mp.lt,S.mp.get⟩ (λv n cs z h=>by rw [jF]; exact h) (Qap _) S.hi
theorem MR.ofbk {u:St}(S:MR p mb lo hi m ts v1 v2 v3 ws s):MR p mb lo hi m ts v1 v2 v3 ws (bk u s):=by
 have e:∀ b cs,Cl s b cs->Cl (bk u s) b cs:=λb cs h=>⟨h.lt,h.row,h.len,h.cell⟩;exact S.imp (e _ _ S.cp) ⟨S.mp.lt,S.mp.get⟩ (λv n cs z h=>h.imp id λ⟨c,h1,h2,h3,h4,h5,h6⟩=>⟨c,h1,h2,h3,e _ _ h4,h5,h6⟩) (Qap _) S.hi
theorem MR.aps (S:MR p mb lo hi m ts v1 v2 v3 ws s){lo' hi' n' z':Nat}{v':AV}{cs':List AV}(V:Lv lo' hi' s v' n' cs' z')(h:hi≤lo')(ds:List AV):MR p mb lo hi m ts v1 v2 v3 ws (Go.Sy.aps v' s ds):=by
 have h0:=S.hp;have h1:=S.hm;have h2:=S.lo;have h3:=S.hi;exact S.imp (S.cp.aps V (.inl (by omega))) (S.mp.keep (by rw [jj]; omega) (V.get s ds mb (.inl (by omega)) S.mp.lt)) (λv n cs z k=>k.aps V (.inl h)) (Qap _) (by rw [jj]; omega)
theorem Lv.low {lo lo' hi n z:Nat}{s:St}{v:AV}{cs:List AV}(h:Lv lo' hi s v n cs z)(h2:lo≤lo'):Lv lo hi s v n cs z:=h.imp id λ⟨c,h1,h3,h4,h5,h6,h7⟩=>⟨c,h1,h3,h4,h5,by omega,h7⟩
theorem MR.move (S:MR p mb lo hi m ts v1 v2 v3 ws s)(e:MoveT){u:AV}{z:Nat}(V:Lv z s.nx s u e.acts.length (fl seE e.acts) 7)(hz:hi≤z):MR p mb lo (s.nx+1) { m with moves:=m.moves ++ [e] } ts v1 v2 (apv 7 v3 s) (ws ++ [u]) (Go.Sy.wr (Go.Sy.aps v3 s (eE e.when ++ [u])) p 2 [apv 7 v3 s]):=by
 obtain ⟨C,M,l1,l2,l3,uu,d13,d23,hp,hm,pm,h1,h2⟩:=S;have h4:=C.lt;have hn:(Go.Sy.wr (Go.Sy.aps v3 s (eE e.when ++ [u])) p 2 [apv 7 v3 s]).nx=s.nx+1:=by rw [jh,jj]
 refine ⟨?_,?_,?_,?_,?_,?_,(Df.put l1 h2).1,(Df.put l2 h2).1,hp,hm,pm,by omega,by rw [hn]; exact Qap _⟩
 ·exact (cast (l3.cl s (eE e.when ++ [u]) _ p (.inl hp) h4).symm C:Cl (Go.Sy.aps v3 s (eE e.when ++ [u])) p _).wr 2 [apv 7 v3 s]
 ·exact M.keep (by rw [hn]; omega) (by rw [zN (λh=>pm h.symm)]; exact l3.get s (eE e.when ++ [u]) mb (.inl hm) M.lt)
 ·rw [jC (.inl hp)];exact (l1.apsD d13).up (by omega)
 ·rw [jC (.inl hp)];exact (l2.apsD d23).up (by omega)
 ·rw [jC (.inl hp),Qal,jct uu.len];exact l3.put (by rw [Qal,zJ]; rfl) (by omega) rfl
 ·refine UU.app ?_ (uu.imp λu n cs h=>?_)
  ·rw [jC (.inl hp)];refine ⟨((V.aps l3 (.inr hz)).up (by omega)).low (by omega),?_⟩;have V':Lv lo s.nx s u e.acts.length (fl seE e.acts) 7:=V.low (by omega);exact (Df.put V' (Qap _)).1
  ·rw [jC (.inl hp)];exact ⟨(h.1.apsD h.2).up (by omega),(Df.put h.1 h2).1⟩
end
end Go.Sy
end
noncomputable section
set_option maxRecDepth 100000
namespace Go.Sy
open Go.Ev Go.Proofs
variable {base:Bs}
def vz:VarT:=⟨[],0,[],0,0,false,0⟩
def Xl (vars:List VarT)(enums:List EnumT):List SetT->List AsT->List AsT->KR (List SetT)
 | acc,done,[]=>.ok acc
 | acc,done,a :: rest=>if qj vars a.name<0 then .er 161 a.line a.col
  else if 0≤fi (λx=>decide (x.name=a.name)) done then .er 162 a.line a.col
  else match qE vars enums false a.to (vars.getD (qj vars a.name).toNat vz).kind (vars.getD (qj vars a.name).toNat vz).enum with
   | .er x y z=>.er x y z
   | .ok y=>Xl vars enums (acc ++ [⟨qj vars a.name,y⟩]) (done ++ [a]) rest
def YW (m:ModT)(ts:List (List Nat))(r:RuleT):KR (ModT×List (List Nat)):=match qE m.vars m.enums false r.when 2 [] with
 | .er a b c=>.er a b c
 | .ok w=>match Xl m.vars m.enums [] [] r.acts with
  | .er a b c=>.er a b c
  | .ok ss=>.ok ({ m with moves:=m.moves ++ [⟨w,ss⟩] },ts)
def KZ (p mb lo:Nat)(st:St)(r:KR (ModT×List (List Nat)))(K Kp:AV->St->Prop):Prop:=match r with
 | .ok y=>∀ s',Kq p mb lo st s'->MZ p mb lo y.1 y.2 s'->K (.tup []) s'
 | .er c l k=>∀ s',Kq p mb lo st s'->Kp (kf c l k) s'
def moL (w:Ex)(vl:AV):List AV:=[.int .i64 w.op,.int .i64 w.num,.str w.name,.lst w.kids.length (fl eE w.kids),.int .i64 w.line,.int .i64 w.col,vl]
theorem jny (w:Ex)(vl:AV):eE w ++ [vl]=moL w vl:=by rw [qv]; rfl
def rQ (st:St)(K:AV->St->Prop):Out->Prop:=QK Qaf y64.res λv s=>K v (back st s)
structure RS (p mb lo q z:Nat)(m:ModT)(ts:List (List Nat))(v1 v2 v3:AV)(ws:List AV)(r:RuleT)(w:Ex)(acc:List SetT)(vl:AV)(st:St)(L:Sl)(s:St):Prop where
 S:MR p mb lo q m ts v1 v2 v3 ws s
 k:Kq p mb lo st.bare s
 qz:q<z
 nx:z+1≤s.nx
 c3:Cl s q (ruE r)
 c4:Cl s z (moL w vl)
 lv:Lv (z+1) s.nx s vl acc.length (fl seE acc) 7
 i0:Has L 0 (.ptr p 0)
 i3:Has L 3 (.ptr q 0)
 i4:Has L 4 (.ptr z 0)
theorem RS.push {p mb lo q z:Nat}{m:ModT}{ts:List (List Nat)}{v1 v2 v3:AV}{ws:List AV}{r:RuleT}{w:Ex}{acc:List SetT}{vl:AV}{st:St}{L:Sl}{s:St}(D:RS p mb lo q z m ts v1 v2 v3 ws r w acc vl st L s){c:Nat}{v:AV}(h:c≠0∧c≠3∧c≠4):RS p mb lo q z m ts v1 v2 v3 ws r w acc vl st ((c,v) :: L) s:=by
 obtain ⟨S,k,qz,nx,c3,c4,lv,i0,i3,i4⟩:=D;exact ⟨S,k,qz,nx,c3,c4,lv,by rw [jb h.1]; exact i0,by rw [jb h.2.1]; exact i3,by rw [jb h.2.2]; exact i4⟩
set_option maxHeartbeats 4000000 in
theorem jnk (hb:NB base){p mb lo q z:Nat}{m:ModT}{ts:List (List Nat)}{v1 v2 v3:AV}{ws:List AV}{r:RuleT}{w:Ex}{acc:List SetT}{vl:AV}{st:St}{L:Sl}{s:St}(D:RS p mb lo q z m ts v1 v2 v3 ws r w acc vl st L s)(hM:m.moves.length≤1000000)(K Kp:AV->St->Prop)
  (hK:KZ p mb lo st (.ok ({ m with moves:=m.moves ++ [⟨w,acc⟩] },ts)) K Kp):xC Qaf base jhn L s (rQ st K) (dP st Kp):=by
 obtain ⟨S,k,qz,nx,C3,C4,lv,i0,i3,i4⟩:=D;have C:=S.cp;have l3:=S.l3;have hp:=S.hp;have hlo:=S.lo;have hhi:=S.hi;have ve3:=l3.eqs;have vc:∀ l,lall AV.cell (vl :: l)=lall AV.cell l:=λl=>by show cond vl.cell _ false=_; rw [lv.cell]; rfl
 have Ap:=λst' bv xc xx K h hv=>@Q4 lo q m.moves.length 7 st' v3 (mvc m.moves ws) K 96 bv xc xx h (by decide) (by omega) (by omega) hv;have hqp:q≠p∧z≠p:=by omega
 have lv2:Lv (z+1) (Go.Sy.nw s (moL w vl)).nx (Go.Sy.nw s (moL w vl)) vl acc.length (fl seE acc) 7:=by
  refine Lv.up (hi:=s.nx) ?_ (by (first | omega | (simp only [jg,jh,jl,jj,ji]; first | done | omega)))
  (first | exact lv | (simp (disch:=first | assumption | decide | (first | omega | (simp only [jg,jh,jl,jj,ji]; first | done | omega))) only [jz,jA,jr,jO,jC,jE,jF,jG]; exact lv))
 have S3:=(S.nw (moL w vl)).move ⟨w,acc⟩ (u:=vl) lv2 (by omega);rw [jny] at S3;have q2:=(((k.nw (by omega) (moL w vl)).aps l3 (by (first | omega | (simp only [jg,jh,jl,jj,ji]; first | done | omega))) (moL w vl)).wr (.inl rfl) 2 [apv 7 v3 (Go.Sy.nw s (moL w vl))]).bk;have S2:=(S3.up (by (first | omega | (simp only [jg,jh,jl,jj,ji]; first | done | omega))) (Qap _)).ofbk (u:=st);have gp:rat s.h p 2=v3:=C.cell 2 (by simp only [Qak,Qan]; omega);clear S3 lv2;unfold moL at *;unfold jhn rQ dP y64;try dsimp only [oo,oO,ot,oT,os,og,oh,oc,on,oN,oP]
 (have zz:=aI @vc (aI @l3.ln (aI @l3.rts (aI @jC (aI @jE (aI @jG (aI @l3 (aI @jB (aI @jI (aI @jL (aI C3.r (aI C4.r C.r))))))))))); (repeat' (first | (apply jc <;> intro _) | simp (disch:=first | exact qq | fail) only [ja i0,ja i3,ja i4,Ap,l3.at,jB,C3.q,C4.q,C.q,vc,l3.ln,l3.rts,jC,jE,jG,l3,jB,jI,jL,C3.r,C4.r,C.r,jd,jo,jQ,jn,jf,jt,ju,jx,jy,jv,rzZ,Qab,Qac,Qad,Qaa,Qae])); (all_goals (clear zz)))
 exact hK _ q2 ⟨_,_,_,_,S2⟩
end Go.Sy
end
noncomputable section
set_option maxRecDepth 100000
namespace Go.Sy
open Go.Ev Go.Proofs
variable {base:Bs}
theorem jo4:Go.Ev.isAgg Qaf 59=some false:=by kernel_rfl
theorem jo3:Go.Ev.sizeOf Qaf 59=some 1:=by kernel_rfl
theorem jnb {b o:Nat}{v:AV}{h:T AO}(ho:o<qo h b)(hv:rat h b o=v)(hc:eqs v=true):(jX Qaf 59 (.ptr b o) v h=true)=True:=eq_true (Qa jo4 jo3 ho hv hc)
def zA9:List AV:=[.str [],.int .i64 0,.int .i64 0,.str [],.nils,.int .i64 0,.int .i64 0,.int .i64 0,.int .i64 0]
theorem jag {vars:List VarT}{enums:List EnumT}{acc:List SetT}{xs:List AsT}{k:Nat}(hk:k<xs.length):Xl vars enums acc (xs.take k) (xs.drop k)=if qj vars xs[k].name<0 then .er 161 xs[k].line xs[k].col
  else if 0≤fi (λx=>decide (x.name=xs[k].name)) (xs.take k) then .er 162 xs[k].line xs[k].col
  else match qE vars enums false xs[k].to (vars.getD (qj vars xs[k].name).toNat vz).kind (vars.getD (qj vars xs[k].name).toNat vz).enum with
   | .er x y z=>.er x y z
   | .ok y=>Xl vars enums (acc ++ [⟨qj vars xs[k].name,y⟩]) (xs.take (k+1)) (xs.drop (k+1)):=by
 have e:xs.drop k=xs[k] :: xs.drop (k+1):=(QbD hk).symm;rw [e,Xl,←zj hk] <;> rfl
set_option maxHeartbeats 8000000 in
theorem jnl (hb:NB base){p mb lo q z:Nat}{m:ModT}{ts:List (List Nat)}{v1 v2 v3:AV}{ws:List AV}{r:RuleT}{w:Ex}{st:St}{L:Sl}{s:St}(D:RS p mb lo q z m ts v1 v2 v3 ws r w [] .nils st L s)(V:VarsOK m.vars m.enums)(hx:∀ a∈r.acts,OkE a.to)(hbl:r.acts.length≤1000000)(hM:m.moves.length≤1000000)(K Kp:AV->St->Prop)
  (hK:KZ p mb lo st (match Xl m.vars m.enums [] [] r.acts with | .er a b c=>.er a b c | .ok ss=>.ok ({ m with moves:=m.moves ++ [⟨w,ss⟩] },ts)) K Kp):xC Qaf base jho L s (rQ st K) (dP st Kp):=by
 have i0:=D.i0;have i3:=D.i3;have i4:=D.i4;have C3:=D.c3;unfold jho;try dsimp only [oo,oO,ot,oT,os,og,oh,oc,on,oN,oP]
 (have zz:=C3.r; (repeat' (first | (apply jc <;> intro _) | simp (disch:=first | exact qq | fail) only [ja i0,ja i3,ja i4,C3.q,C3.r,jd,jo,jQ,jn,jf,jt,ju,jx,jy,jv,rzZ,Qab,Qac,Qad,Qaa,Qae])); (all_goals (clear zz)))
 refine qt r.acts.length (λk L s=>(∃ acc vl,acc.length=k∧Xl m.vars m.enums [] [] r.acts=Xl m.vars m.enums acc (r.acts.take k) (r.acts.drop k)∧RS p mb lo q z m ts v1 v2 v3 ws r w acc vl st L s)∧Has L 14 (.lst r.acts.length (fl asE r.acts))) (by first | assumption | omega) (by decide) (by simp (disch:=decide) only [je,jb]) (by simp (disch:=decide) only [je,jb]) ?_ (λk L s v h=>(by obtain ⟨⟨acc,vl,h0,h1,h2⟩,h3⟩:=h; refine ⟨⟨acc,vl,h0,h1,h2.push (by decide)⟩,?_⟩; simp (disch:=decide) only [jb]; assumption)) (λk L s v h=>(by obtain ⟨⟨acc,vl,h0,h1,h2⟩,h3⟩:=h; refine ⟨⟨acc,vl,h0,h1,h2.push (by decide)⟩,?_⟩; simp (disch:=decide) only [jb]; assumption)) (λk L s hk hI hi hn=>?_) (λL s hI=>?_)
 ·refine ⟨⟨[],.nils,rfl,rfl,((D.push (by decide)).push (by decide)).push (by decide)⟩,?_⟩;simp (disch:=decide) only [jb,je]
 ·obtain ⟨⟨acc,vl,hacc,h1,D⟩,i14⟩:=hI;obtain ⟨S,k0,qz,nx,C3,C4,lv,i0,i3,i4⟩:=D;obtain ⟨x1,x2⟩:=hx _ (Qax hk);have hlo:=S.lo;have hhi:=S.hi;have hp:=S.hp;have hqm:q≠p∧z≠p:=by omega
  have zl9:(asE r.acts[k]).length=zA9.length:=by rw [Za]; rfl
  have S1:=(S.nw zA9).wr (c:=s.nx) (by omega) 0 (asE r.acts[k]);have k1:=(k0.nw (by omega) zA9).wr (c:=s.nx) (.inr (by omega)) 0 (asE r.acts[k]);have C6:=(Cl.new s zA9).wr0 zl9;have D3:Cl (Go.Sy.wr (Go.Sy.nw s zA9) s.nx 0 (asE r.acts[k])) q (ruE r):=by (first | exact C3 | (simp (disch:=first | assumption | decide | (first | omega | (simp only [jg,jh,jl,jj,ji]; first | done | omega))) only [jz,jA,jr,jO,jC,jE,jF,jG]; exact C3))
  have D4:Cl (Go.Sy.wr (Go.Sy.nw s zA9) s.nx 0 (asE r.acts[k])) z (moL w vl):=by (first | exact C4 | (simp (disch:=first | assumption | decide | (first | omega | (simp only [jg,jh,jl,jj,ji]; first | done | omega))) only [jz,jA,jr,jO,jC,jE,jF,jG]; exact C4))
  have lv1:Lv (z+1) s.nx (Go.Sy.wr (Go.Sy.nw s zA9) s.nx 0 (asE r.acts[k])) vl acc.length (fl seE acc) 7:=by (first | exact lv | (simp (disch:=first | assumption | decide | (first | omega | (simp only [jg,jh,jl,jj,ji]; first | done | omega))) only [jz,jA,jr,jO,jC,jE,jF,jG]; exact lv))
  have hn1:(Go.Sy.wr (Go.Sy.nw s zA9) s.nx 0 (asE r.acts[k])).nx=s.nx+1:=rfl;have VC:=λnm K Kp=>jdj hb S1.ck V.len nm K Kp;have HA:=λK Kp=>jkP hb (r.acts.take k) (by rw [QaJ]; omega) r.acts[k] _ C6 k (by rw [QaJ]; omega) K Kp;have SL:=λst K=>@joR _ asE 9 Za r.acts .i64 k (Qcr hk) st K;rw [h1,jag hk] at hK;unfold zA9 at *
  (have zz:=aI C3.r C4.r; (repeat' (first | (apply jc <;> intro _) | simp (disch:=first | exact qq | fail) only [ja i0,ja i3,ja i4,ja i14,ja hi,ja hn,C3.q,C4.q,C3.r,C4.r,jd,jo,jQ,jn,jf,jt,ju,jx,jy,jv,rzZ,Qab,Qac,Qad,Qaa,Qae])); (all_goals (clear zz)))
  generalize Go.Sy.wr (Go.Sy.nw s [.str [],.int .i64 0,.int .i64 0,.str [],.nils,.int .i64 0,.int .i64 0,.int .i64 0,.int .i64 0]) s.nx 0 (asE r.acts[k])=t1 at *;have C1:=S1.cp;by_cases c1:qj m.vars r.acts[k].name<0
  ·rw [if_pos c1] at hK
   (have zz:=aI D3.r (aI D4.r C6.r); (repeat' (first | (apply jc <;> intro _) | simp (disch:=first | exact qq | fail) only [ja i0,ja i3,ja i4,VC,c1,zB hb,D3.q,D4.q,C6.q,D3.r,D4.r,C6.r,jd,jo,jQ,jn,jf,jt,ju,jx,jy,jv,rzZ,Qab,Qac,Qad,Qaa,Qae])); (all_goals (clear zz)))
   exact hK _ k1.bk
  rw [if_neg c1] at hK;by_cases c2:0≤fi (λx=>decide (x.name=r.acts[k].name)) (r.acts.take k)
  ·rw [if_pos c2] at hK
   (have zz:=aI D3.r (aI D4.r C6.r); (repeat' (first | (apply jc <;> intro _) | simp (disch:=first | exact qq | fail) only [ja i0,ja i3,ja i4,VC,c1,HA,SL,c2,zB hb,D3.q,D4.q,C6.q,D3.r,D4.r,C6.r,jd,jo,jQ,jn,jf,jt,ju,jx,jy,jv,rzZ,Qab,Qac,Qad,Qaa,Qae])); (all_goals (clear zz)))
   exact hK _ k1.bk
  rw [if_neg c2] at hK;have hlt:qj m.vars r.acts[k].name<(m.vars.length:Int):=w9;have hi2:(qj m.vars r.acts[k].name).toNat<m.vars.length:=by omega
  have eg:m.vars.getD (qj m.vars r.acts[k].name).toNat vz=m.vars[(qj m.vars r.acts[k].name).toNat]:=by simp [QaL,hi2]
  rw [eg] at hK;have Lw:=S1.l1;rcases id Lw with ⟨_,e0,_⟩ | ⟨b,rfl,b1,b2,Ce,b5,b6⟩
  ·omega
  have gl:qo t1.h b=m.vars.length * 7:=by rw [Ce.len,zU QO]
  have ge1:rat t1.h b ((qj m.vars r.acts[k].name).toNat * 7+1)=.int .i64 m.vars[(qj m.vars r.acts[k].name).toNat].kind:=by
   rw [Ce.cell _ (by rw [zU QO]; omega),wz QO hi2 (by decide)]; rfl
  have ge2:rat t1.h b ((qj m.vars r.acts[k].name).toNat * 7+2)=.str m.vars[(qj m.vars r.acts[k].name).toNat].enum:=by
   rw [Ce.cell _ (by rw [zU QO]; omega),wz QO hi2 (by decide)]; rfl
  have gp:rat t1.h p 0=.slice b 0 m.vars.length m.vars.length 7 false:=C1.cell 0 (by simp only [Qak,Qan]; omega);unfold moL at D4 C4
  (have zz:=aI @gl (aI @ge1 (aI @ge2 (aI C1.r (aI D3.r (aI D4.r C6.r))))); (repeat' (first | (apply jc <;> intro _) | simp (disch:=first | exact qq | fail) only [ja i0,ja i3,ja i4,VC,c1,HA,SL,c2,ge1,ge2,XN,Wk,Wj (base:=base),C1.q,D3.q,D4.q,C6.q,gl,ge1,ge2,C1.r,D3.r,D4.r,C6.r,jd,jo,jQ,jn,jf,jt,ju,jx,jy,jv,rzZ,Qab,Qac,Qad,Qaa,Qae])); (all_goals (clear zz)))
  rw [←qv];refine Vf hb V _ x2 (XO _ x1) _ _ S1.ck _ _ ?_;cases hr:qE m.vars m.enums false r.acts[k].to m.vars[(qj m.vars r.acts[k].name).toNat].kind m.vars[(qj m.vars r.acts[k].name).toNat].enum with
  | er a b c=>
   rw [hr] at hK;intro s' k2;repeat' (first | (apply jc <;> intro _) | simp (disch:=first | exact dzG | fail) only [XN,Wk,Wj (base:=base),jd,jo,jQ,jn,jf,jt,ju,jx,jy,jv,rzZ,Qab,Qac,Qad,Qaa,Qae])
   exact hK _ (k1.keep k2 (by omega)).bk
  | ok y=>
   rw [hr] at hK;dsimp only at hK;intro s' k2 C2;have hs':=k2.nx;have k3:=k1.keep k2 (by omega);have S3:=S1.keep k2 C2;have E3:=k2.cl D3 hqm.1;have E4:=k2.cl D4 hqm.2;have lv2:=k2.lv lv1 (.inl (by omega));have ve:=lv2.eqs;have gz:rat s'.h z 6=vl:=E4.cell 6 (by simp only [Qak,Qan]; omega);have Ap:=λst' bv xc xx K h hv=>@Q4 (z+1) s.nx acc.length 7 st' vl (fl seE acc) K 80 bv xc xx h (by decide) (by omega) (by omega) hv;have a59:jX Qaf 59 (.ptr z 6) vl t1.h=true:=(jnb (by rw [D4.len]; simp only [Qak,Qan]; omega) (D4.cell 6 (by simp only [Qak,Qan]; omega)) ve).mpr trivial;clear S1 k1 k2 C2 C6 D3 D4 C3 C4 S k0 VC HA SL ge1 ge2 gl gp Ce Lw C1 lv lv1;have hzp:p≠z:=λe=>hqm.2 e.symm;have lv3:Lv (z+1) (Go.Sy.nw s' (seE ⟨qj m.vars r.acts[k].name,y⟩)).nx (Go.Sy.nw s' (seE ⟨qj m.vars r.acts[k].name,y⟩)) vl acc.length (fl seE acc) 7:=by
    refine Lv.up (hi:=s.nx) ?_ (by (first | omega | (simp only [jg,jh,jl,jj,ji]; first | done | omega)))
    (first | exact lv2 | (simp (disch:=first | assumption | decide | (first | omega | (simp only [jg,jh,jl,jj,ji]; first | done | omega))) only [jz,jA,jr,jO,jC,jE,jF,jG]; exact lv2))
   have S4:=((S3.nw (seE ⟨qj m.vars r.acts[k].name,y⟩)).aps lv3 (by omega) (seE ⟨qj m.vars r.acts[k].name,y⟩)).wr (c:=z) (by omega) 6 [apv 7 vl (Go.Sy.nw s' (seE ⟨qj m.vars r.acts[k].name,y⟩))];have k4:=((k3.nw (by omega) (seE ⟨qj m.vars r.acts[k].name,y⟩)).aps (lv3.low (lo:=lo) (by omega)) (by (first | omega | (simp only [jg,jh,jl,jj,ji]; first | done | omega))) (seE ⟨qj m.vars r.acts[k].name,y⟩)).wr (c:=z) (.inr (by omega)) 6 [apv 7 vl (Go.Sy.nw s' (seE ⟨qj m.vars r.acts[k].name,y⟩))];have hlz:z+1≤s'.nx:=by omega
   (have zz:=aI @lv2.ln (aI @lv2.rts (aI @jC (aI @jE (aI @jG (aI @lv2 (aI @jB (aI @jI (aI @jL (aI @ve (aI E3.r E4.r)))))))))); (repeat' (first | (apply jc <;> intro _) | simp (disch:=first | exact qq | fail) only [ja i0,ja i3,ja i4,Ap,lv2.at,jnb,ve,jB,E3.q,E4.q,lv2.ln,lv2.rts,jC,jE,jG,lv2,jB,jI,jL,ve,E3.r,E4.r,jd,jo,jQ,jn,jf,jt,ju,jx,jy,jv,rzZ,Qab,Qac,Qad,Qaa,Qae])); (all_goals (clear zz)))
   refine ⟨a59,⟨⟨acc ++ [⟨qj m.vars r.acts[k].name,y⟩],_,?_,h1.trans ?_,S4,k4,qz,?_,?_,Cl.wr (?_:Cl _ z (moL w vl)) 6 [apv 7 vl (Go.Sy.nw s' (seE ⟨qj m.vars r.acts[k].name,y⟩))],?_,?_,?_,?_⟩,?_⟩,?_,?_⟩
   ·rw [Qal,hacc]; rfl
   ·rw [jag hk,if_neg c1,if_neg c2,eg,hr]
   ·rw [jh,jj,jg]; omega
   ·have:=(E3.nw (seE ⟨qj m.vars r.acts[k].name,y⟩)).aps lv3 (.inl (by omega)) (news:=seE ⟨qj m.vars r.acts[k].name,y⟩)
    (first | exact this | (simp (disch:=first | assumption | decide | (first | omega | (simp only [jg,jh,jl,jj,ji]; first | done | omega))) only [jz,jA,jr,jO,jC,jE,jF,jG]; exact this))
   ·exact (E4.nw (seE ⟨qj m.vars r.acts[k].name,y⟩)).aps lv3 (.inl (by omega))
   ·rw [jC (.inl (by omega)),Qal,QI,Jl];exact lv3.put (wQ _) (by (first | omega | (simp only [jg,jh,jl,jj,ji]; first | done | omega))) (by (first | omega | (simp only [jg,jh,jl,jj,ji]; first | done | omega)))
   all_goals (simp (disch:=decide) only [jb]; assumption)
 ·obtain ⟨⟨acc,vl,hacc,h1,D⟩,i14⟩:=hI;rw [QaD,Qcm,Xl] at h1;rw [h1] at hK;repeat' (first | (apply jc <;> intro _) | simp (disch:=first | exact dzG | fail) only [jd,jo,jQ,jn,jf,jt,ju,jx,jy,jv,rzZ,Qab,Qac,Qad,Qaa,Qae])
  exact jnk hb D hM K Kp hK
end Go.Sy
end
noncomputable section
set_option maxRecDepth 100000
namespace Go.Sy
open Go.Ev Go.Proofs
variable {base:Bs}
def z7:List AV:=[.int .i64 0,.int .i64 0,.str [],.nils,.int .i64 0,.int .i64 0,.nils]
set_option maxHeartbeats 4000000 in
theorem jnj (hb:NB base){p mb lo:Nat}{m:ModT}{ts:List (List Nat)}{st:St}(r:RuleT)(V:VarsOK m.vars m.enums)(hw:OkE r.when)(hx:∀ a∈r.acts,OkE a.to)(hbl:r.acts.length≤1000000)(hM:m.moves.length≤1000000)(H:MZ p mb lo m ts st)(K Kp:AV->St->Prop)(hK:KZ p mb lo st (YW m ts r) K Kp):XB Qaf base 64 [.ptr p 0,.agg (ruE r)] st K Kp:=by
 obtain ⟨v1,v2,v3,ws,S⟩:=H;have hp:=S.hp;have hlo:=S.lo;have hhi:=S.hi;refine Jc x64 (by rfl) (hb.at0 64 (by decide) (by decide) _ _) ?_;simp only [y64,jm,Qai,Qaj,Qag,Qah];unfold z64;try dsimp only [oo,oO,ot,oT,os,og,oh,oc,on,oN,oP]
 have hnx:st.bare.nx=st.nx:=rfl;have S0:=S.bare.nw (ruE r);have q1:=(Kq.refl:Kq p mb lo st.bare st.bare).nw (by omega) (ruE r);have Cb:Cl (Go.Sy.nw st.bare (ruE r)) st.nx (ruE r):=Cl.new st.bare (ruE r);unfold YW at hK
 (have zz:=@Cb.r; (repeat' (first | (apply jc <;> intro _) | simp (disch:=first | exact qq | fail) only [Cb.q,Cb.r,jd,jo,jQ,jn,jf,jt,ju,jx,jy,jv,rzZ,Qab,Qac,Qad,Qaa,Qae])); (all_goals (clear zz)))
 rw [←qv];have hn0:(Go.Sy.nw st.bare (ruE r)).nx=st.nx+1:=rfl;refine Vf hb V _ hw.2 (XO _ hw.1) _ _ S0.ck _ _ ?_;cases hr:qE m.vars m.enums false r.when 2 [] with
 | er a b c=>
  rw [hr] at hK;intro s' k2;exact hK _ (q1.keep k2 (by omega)).bk
 | ok y=>
  rw [hr] at hK;dsimp only at hK;intro s' k2 C2;have hs':=k2.nx;have k3:=q1.keep k2 (by omega);have S3:=S0.keep k2 C2;have E3:=k2.cl Cb (by omega);rw [qv];have S4:=(S3.nw z7).wr (c:=s'.nx) (by omega) 0 (moL y .nils);have k4:=(k3.nw (by omega) z7).wr (c:=s'.nx) (.inr (by omega)) 0 (moL y .nils);have C4:=(Cl.new s' z7).wr0 (c':=moL y .nils) rfl;unfold z7 moL at *;try dsimp only [oo,oO,ot,oT,os,og,oh,oc,on,oN,oP]
  repeat' (first | (apply jc <;> intro _) | simp (disch:=first | exact dzG | fail) only [jd,jo,jQ,jn,jf,jt,ju,jx,jy,jv,rzZ,Qab,Qac,Qad,Qaa,Qae])
  refine jnl hb ⟨S4,k4,?_,by (first | omega | (simp only [jg,jh,jl,jj,ji]; first | done | omega)),by (first | exact E3 | (simp (disch:=first | assumption | decide | (first | omega | (simp only [jg,jh,jl,jj,ji]; first | done | omega))) only [jz,jA,jr,jO,jC,jE,jF,jG]; exact E3)),C4,Lv.nil,?_,?_,?_⟩ V hx hbl hM K Kp hK
  ·omega
  all_goals simp (disch:=decide) only [jb,je]
end Go.Sy
end
noncomputable section
set_option maxRecDepth 100000
namespace Go.Sy
open Go.Ev Go.Proofs
variable {base:Bs}
def fcl (c l k:Int):List AV:=[.int .i64 c,.int .i64 l,.int .i64 k]
theorem jpy (c l k:Int)(st:St)(K:AV->St->Prop):jk (Kn Qaf 30 (kf c l k) st) K=K (.tup [.agg (fcl c l k),.bool true]) st:=by
 have:Kn Qaf 30 (kf c l k) st=.ok (.tup [.agg (fcl c l k),.bool true]) st:=by kernel_rfl
 rw [this]; rfl
theorem jn3 (c l k:Int)(st:St)(K:AV->St->Prop):jk (XJ Qaf .eql 20 true (kf c l k) .nilif st) K=K (.bool false) st:=by
 have:XJ Qaf .eql 20 true (kf c l k) .nilif st=.ok (.bool false) st:=by kernel_rfl
 rw [this]; rfl
theorem Kh {fb:Nat}(st:St)(K:Md->St->Prop):DX Qaf base 59 [.ptr fb 0] .calm st.bare K=K .calm st.bare:=by
 refine HH (λK hK=>?_) K;refine vf jmE (by rfl) rfl ?_;simp only [Kv,jm,Qai,Qaj,Qag,Q8,XA];unfold HN;try dsimp only [oo,oO,ot,oT,os,og,oh,oc,on,oN,oP]
 repeat' (first | (apply jc <;> intro _) | simp (disch:=first | exact dzG | fail) only [jgH,uj,jd,jo,jQ,jn,jf,jt,ju,jx,jy,jv,rzZ,Qab,Qac,Qad,Qaa,Qae])
 exact hK
theorem Hh {fb:Nat}(c l k:Int)(st:St)(h:qo st.h fb=3)(hn:fb<st.nx)(K:Md->St->Prop) :
  DX Qaf base 59 [.ptr fb 0] (.pan (kf c l k)) st.bare K=K .done (wr (wr (nw st.bare [.int .i64 0,.int .i64 0,.int .i64 0]) st.nx 0 (fcl c l k)) fb 0 (fcl c l k)):=by
 have C:Cl st.bare fb (rats st.h fb 0 3):=(Cl.of_rats hn h (Qz _ _ _ _) (by decide) rfl).bar;have hcs:(rats st.h fb 0 3).length=3:=Qz _ _ _ _;refine HH (λK hK=>?_) K;refine vf jmE (by rfl) rfl ?_;simp only [Kv,jm,Qai,Qaj,Qag,Q8,XA];unfold HN;try dsimp only [oo,oO,ot,oT,os,og,oh,oc,on,oN,oP]
 have hl:=C.lt;have l0:=C.len;have hB:st.bare.nx=st.nx:=rfl;have hne:¬ fb=st.bare.nx:=by omega
 unfold fcl at *;have A:=jpy c l k;unfold fcl at A
 (have zz:=aI @l0 @hcs; (repeat' (first | (apply jc <;> intro _) | simp (disch:=first | exact qq | fail) only [jn3,jgr,A,uj,l0,hcs,jd,jo,jQ,jn,jf,jt,ju,jx,jy,jv,rzZ,Qab,Qac,Qad,Qaa,Qae])); (all_goals (clear zz)))
 exact hK
theorem jqs {n:Nat}(h:0<n)(cs:List AV)(st:St)(K:AV->St->Prop):jk (XJ Qaf .eql 91 true (.lst n cs) .nils st) K=K (.bool false) st:=by
 obtain ⟨k,rfl⟩:∃ k,n=k+1:=⟨n - 1,by omega⟩;have:XJ Qaf .eql 91 true (.lst (k+1) cs) .nils st=.ok (.bool false) st:=by kernel_rfl
 rw [this]; rfl
theorem jqv {n:Nat}{cs:List AV}(h0:0<n)(hl:cs.length=n)(hn:n≤1000000)(K:AV->St->Prop):jk (gw 1 16 (.slice 0 0 0 0 1 true) (.lst n cs) (nw st0 [])) K=K (.slice 1 0 n n 1 false) (nw (nw st0 []) cs):=by
 have hg:jq (nw st0 []).h 0=some (.row 0 0 [] .e):=by kernel_rfl
 have e1:Qat n 1=n:=Nat.mul_one n;have e2:Qao n (jS cs)=true:=yh (by rw [jT]; omega);have e3:yn cs n=cs:=by rw [q6,←hl,QaD]
 have e4:Qas (jS cs) n=true:=VO (by rw [jT,hl]);have e5:QaE 0 n=n:=QaO n;have e6:Qao n 0=false:=jjY h0;have e7:Qao (Qat n 16) 140737488355328=true:=yh (by show n * 16≤_; omega);have e8:Qao n 9223372036854775807=true:=yh (by omega);have e9:Qat 0 1=0:=rfl;have e10:Qao (QaE 0 0) 0=true:=rfl;have e11:jW 0 [] .e 0 0=[]:=rfl;have e12:yY [] cs=cs:=by rw [yM]; rfl
 simp only [gw,Xm,firstCells,jH,e1,e2,cond_true,e3,yF,e4,hg,yO,e5,e6,cond_false,e7,e8,e9,e10,e11,e12,St.alloc_eq,jk];conv=>rhs; unfold nw
 rw [hl];rfl
set_option maxHeartbeats 1000000 in
theorem jkV (hb:NB base)(vs:List (List Nat))(hv:0<vs.length)(hl:vs.length≤1000000):Tot base 99 [.lst vs.length (vs.map .str)] (.lst vs.length (vs.map .str)):=by
 refine hb.tot ?_ rfl rfl;have N:=jqs hv (vs.map .str);have A:=λK=>jqv (cs:=vs.map .str) hv (by simp) hl K;refine jJ x99 (by rfl) (hb.pur 99 1 (by decide)) ?_;simp only [y99,jm,Qai,Qaj,Qag,Qah];unfold z99;try dsimp only [oo,oO,ot,oT,os,og,oh,oc,on,oN,oP]
 repeat' (first | (apply jc <;> intro _) | simp (disch:=first | exact dzG | fail) only [N,jdS,A,jd,jo,jQ,jn,jf,jt,ju,jx,jy,jv,rzZ,Qab,Qac,Qad,Qaa,Qae])
 have C:Cl (nw (nw st0 []) (vs.map .str)) 1 (vs.map .str):=Cl.new (nw st0 []) _;refine FzD.slice C.rw_ (by simp) (QaM _) ?_;rw [Nat.mul_one,←QaP (f:=AV.str),QaD];refine FzsD.pc ?_;simp [pc]
end Go.Sy
end
noncomputable section
set_option maxRecDepth 100000
namespace Go.Sy
open Go.Ev Go.Proofs
variable {base:Bs}
def zO {α β:Type}(f:β->α->KR β):β->List α->KR β
 | b,[]=>.ok b
 | b,x :: xs=>match f b x with
  | .er a c d=>.er a c d
  | .ok b=>zO f b xs
theorem uW {α β:Type}{f:β->α->KR β}{b:β}{xs:List α}{k:Nat}(hk:k<xs.length):zO f b (xs.drop k)=match f b xs[k] with
  | .er a c d=>.er a c d
  | .ok b=>zO f b (xs.drop (k+1)):=by
 have e:xs.drop k=xs[k] :: xs.drop (k+1):=(QbD hk).symm;rw [e,zO]
abbrev MT:=ModT×List (List Nat)
def ZE (b:MT)(p:ProcT):KR MT:=match QR b.2 p.name p.line p.col with
 | .er a c d=>.er a c d
 | .ok ts=>zO (λb r=>YW b.1 b.2 r) (b.1,ts) p.rules
def md0:ModT:=⟨[],[],[]⟩
def WU (b:MT)(l:List EnumT):KR MT:=zO (λb e=>vb b.1 b.2 e) b l
def wC (b:MT)(l:List DeclT):KR MT:=zO (λb e=>Y7 b.1 b.2 e) b l
def Xd (b:MT)(l:List ProcT):KR MT:=zO ZE b l
def Jy (s:SrcT):KR MT:=match WU (md0,[]) s.enums with
 | .er a c d=>.er a c d
 | .ok b=>match wC b s.vars with
  | .er a c d=>.er a c d
  | .ok b=>Xd b s.procs
def Vg (r:KR MT):AV:=match r with
 | .er c l k=>.tup [.agg (mdE md0),.agg (fcl c l k)]
 | .ok b=>.tup [.agg (mdE b.1),.agg (fcl 0 0 0)]
def mQ (base:Bs)(r:KR MT):Out->Prop:=gi Qaf base y26.res (Q2 G0 (.ok (Vg r))) (QV G0 (.ok (Vg r)))
def mP (base:Bs)(r:KR MT):AV->Sl->St->Prop:=Wz Qaf base y26.res (Q2 G0 (.ok (Vg r))) (QV G0 (.ok (Vg r)))
structure QS (src:SrcT)(L:Sl)(s:St):Prop where
 c0:Cl s 0 (srE src)
 c1:Cl s 1 [.nils,.nils,.nils]
 c2:Cl s 2 [.int .i64 0,.int .i64 0,.int .i64 0]
 fr:s.fr=[(59,[.ptr 2 0])]
 i1:Has L 1 (.ptr 0 0)
 i2:Has L 2 (.ptr 1 0)
 i3:Has L 3 (.ptr 2 0)
 i4:Has L 4 (.ptr 4 0)
section
variable {src:SrcT} {L:Sl} {s t:St}
theorem QS.push (h:QS src L s){c:Nat}{v:AV}(hc:c≠1∧c≠2∧c≠3∧c≠4):QS src ((c,v) :: L) s:=by
 obtain ⟨c0,c1,c2,fr,i1,i2,i3,i4⟩:=h;exact ⟨c0,c1,c2,fr,by rw [jb hc.1]; exact i1,by rw [jb hc.2.1]; exact i2,by rw [jb hc.2.2.1]; exact i3,by rw [jb hc.2.2.2]; exact i4⟩
theorem QS.kq (h:QS src L s)(k:Kq 4 3 5 s t):QS src L t:=
 ⟨k.cl h.c0 (by decide) (by decide) (by decide),k.cl h.c1 (by decide) (by decide) (by decide),k.cl h.c2 (by decide) (by decide) (by decide),k.fr.trans h.fr,h.i1,h.i2,h.i3,h.i4⟩
theorem jf3 {m d:Nat}{s:St}:FzD m (d+3) s (.agg [.nils,.nils,.nils]) (.agg (mdE md0)):=FzD.agg (.cons FzD.nils (.cons FzD.nils (.cons FzD.nils .nil)))
theorem Vw {c l k:Int}(h:QS src L s):mP base (.er c l k) (kf c l k) L s:=by
 obtain ⟨c0,c1,c2,fr,i1,i2,i3,i4⟩:=h;have l2:=c2.len;have n2:=c2.lt;unfold mP y26
 (have zz:=aI @c0.r (aI @c1.r @c2.r); (repeat' (first | (apply jc <;> intro _) | simp (disch:=first | exact qq | fail) only [ja i2,ja i3,JK (f:=59) (vs:=[.ptr 2 0]),Jf (f:=59) (vs:=[.ptr 2 0]),Kh,Hh,c0.q,c1.q,c2.q,c0.r,c1.r,c2.r,jd,jo,jQ,jn,jf,qp,qm,jt,ju,jx,jy,jv,rzZ,Qab,Qac,Qad,Qaa,Qae])); (all_goals (clear zz)))
 exact FzD.tup (.cons jf3 (.cons (.agg (.pc (by rfl))) .nil))
end
theorem jfV {m lo hi d:Nat}{s:St}{v3:AV}(hm:m≤lo):∀ {ms:List MoveT} {us:List AV},UU lo hi s v3 ms us->FzsD m (d+3) s (mvc ms us) (fl moE ms)
 | [],[],_=>.nil
 | e :: ms,u :: us,h=>by
  show FzsD m (d+3) s ((eE e.when ++ [u]) ++ mvc ms us) (moE e ++ fl moE ms);refine FzsD.append ?_ (jfV hm h.2);exact FzsD.append (FzsD.pc (qQ _)) (.cons (h.1.1.fz hm (zg YT _)) .nil)
set_option maxHeartbeats 4000000 in
theorem m_d {src:SrcT}{L:Sl}{s:St}(D:QS src L s){m:ModT}{ts:List (List Nat)}(H:MZ 4 3 5 m ts s):xC Qaf base jhr L s (mQ base (.ok (m,ts))) (mP base (.ok (m,ts))):=by
 obtain ⟨v1,v2,v3,ws,S⟩:=H;obtain ⟨c0,c1,c2,fr,i1,i2,i3,i4⟩:=D;have C4:=S.cp;have l2:=c2.len;have n2:=c2.lt;have vc:∀ l,lall AV.cell (v1 :: v2 :: v3 :: l)=lall AV.cell l:=λl=>by
  show cond v1.cell (cond v2.cell (cond v3.cell _ false) false) false=_;rw [S.l1.cell,S.l2.cell,S.l3.cell]; rfl
 unfold mQ mP y26;unfold jhr;try dsimp only [oo,oO,ot,oT,os,og,oh,oc,on,oN,oP]
 (have zz:=aI @vc (aI @c0.r (aI @c1.r (aI @c2.r C4.r))); (repeat' (first | (apply jc <;> intro _) | simp (disch:=first | exact qq | fail) only [ja i1,ja i2,ja i3,ja i4,KA i3,Yf,JK (f:=59) (vs:=[.ptr 2 0]),Jf (f:=59) (vs:=[.ptr 2 0]),Kh,Hh,c0.q,c1.q,c2.q,C4.q,vc,c0.r,c1.r,c2.r,C4.r,jd,jo,jQ,jn,jf,qp,qm,jt,ju,jx,jy,jv,rzZ,Qab,Qac,Qad,Qaa,Qae])); (all_goals (clear zz)))
 have f:∀ v n cs z,Lv 5 s.nx s v n cs z->Lv 5 s.nx (Go.Sy.wr (Go.Sy.wr s 1 0 [v1,v2,v3]) 2 0 [.int .i64 0,.int .i64 0,.int .i64 0]).bare v n cs z:=λv n cs z h=>by
  rw [jF,jC (.inl (by decide)),jC (.inl (by decide))]; exact h
 refine FzD.tup (.cons (FzD.agg (.cons ((f _ _ _ _ S.l1).fz (QaM _) (zg Xk _)) (.cons ((f _ _ _ _ S.l2).fz (QaM _) (zg Jr _)) (.cons ?_ .nil)))) (.cons (.agg (.pc (by rfl))) .nil))
 ·have u3:=S.uu.imp (λu n cs h=>(⟨f _ _ _ _ h.1,h.2⟩:Lv 5 s.nx (Go.Sy.wr (Go.Sy.wr s 1 0 [v1,v2,v3]) 2 0 [.int .i64 0,.int .i64 0,.int .i64 0]).bare u n cs 7∧Df v3 u));rcases f _ _ _ _ S.l3 with ⟨rfl,h1,h2⟩ | ⟨b,rfl,h1,h2,C,h3,h4⟩
  ·have:m.moves=[]:=QaV h1;show FzD _ _ _ _ (.lst m.moves.length (fl moE m.moves));rw [this];exact FzD.nils
  ·refine FzD.slice C.rw_ (QbI h2.symm) (QaM _) ?_;rw [←h2,QaD];exact jfV (QaM _) u3
end Go.Sy
end
noncomputable section
set_option maxRecDepth 100000
namespace Go.Sy
open Go.Ev Go.Proofs
variable {base:Bs}
structure ProcOK (p:ProcT):Prop where
 len:p.rules.length≤1000
 rules:∀ r∈p.rules,OkE r.when∧(∀ a∈r.acts,OkE a.to)∧r.acts.length≤1000000
structure DeclOK (d:DeclT):Prop where
 ex:∀ x∈d.begins,OkE x
 len:d.begins.length≤1000000
 lo : -100000000≤d.lo∧d.lo≤100000000
 hi : -100000000≤d.hi∧d.hi≤100000000
structure SrcOK (s:SrcT):Prop where
 ne:s.enums.length≤1000
 nv:s.vars.length≤1000
 np:s.procs.length≤100
 vals:∀ e∈s.enums,0<e.vals.length∧e.vals.length≤1000000
 vars:∀ d∈s.vars,DeclOK d
 procs:∀ p∈s.procs,ProcOK p
theorem Ut {m:ModT}{ts:List (List Nat)}{e:EnumT}{b:MT}(h:vb m ts e=.ok b):b.1={ m with enums:=m.enums ++ [e] }:=by
 unfold vb at h;split at h
 ·cases h
 ·cases h; rfl
theorem jai {m:ModT}{ts:List (List Nat)}{r:RuleT}{b:MT}(h:YW m ts r=.ok b):∃ e,b.1={ m with moves:=m.moves ++ [e] }:=by
 unfold YW at h;split at h
 ·cases h
 ·split at h
  ·cases h
  ·cases h; exact ⟨_,rfl⟩
theorem gu {vars:List VarT}{enums:List EnumT}:∀ {xs:List Ex} {v u:VarT},JF vars enums v xs=.ok u->u.lo=v.lo∧u.hi=v.hi∧u.kind=v.kind∧u.enum=v.enum∧u.name=v.name
 | [],v,u,h=>by rw [JF] at h; cases h; exact ⟨rfl,rfl,rfl,rfl,rfl⟩
 | x :: xs,v,u,h=>by
  rw [JF] at h;split at h
  ·cases h
  ·split at h
   ·cases h
   ·split at h
    ·cases h
    ·have:=gu h;exact this
theorem jig {enums:List EnumT}{d:DeclT}{v:VarT}(hv:∀ e∈enums,e.vals.length≤1000000)(hd:DeclOK d)(h:uS enums d=.ok v) : -100000000≤v.lo∧v.lo≤100000000∧-100000000≤v.hi∧v.hi≤100000000:=by
 unfold uS at h;split at h
 ·cases h; dsimp only; omega
 ·split at h
  ·rename_i h2;cases h;dsimp only;have hlt:J7 enums d.ty<(enums.length:Int):=w9;have hi2:(J7 enums d.ty).toNat<enums.length:=by omega
   have eg:enums.getD (J7 enums d.ty).toNat en0=enums[(J7 enums d.ty).toNat]:=by simp [QaL,hi2]
   rw [eg];have:=hv _ (Qax hi2);omega
  ·split at h
   ·cases h
   ·split at h
    ·cases h
    ·split at h
     ·cases h
     ·cases h; exact ⟨hd.lo.1,hd.lo.2,hd.hi.1,hd.hi.2⟩
theorem jbc {m:ModT}{ts:List (List Nat)}{d:DeclT}{b:MT}(hv:∀ e∈m.enums,e.vals.length≤1000000)(hd:DeclOK d)(h:Y7 m ts d=.ok b):∃ v:VarT,b.1={ m with vars:=m.vars ++ [v] }∧(-100000000≤v.lo∧v.lo≤100000000∧-100000000≤v.hi∧v.hi≤100000000):=by
 unfold Y7 at h;split at h
 ·cases h
 ·split at h
  ·cases h
  ·rename_i v hk;unfold vr at h;split at h
   ·cases h
   ·rename_i u hu;unfold KU at h;split at h
    ·cases h
    ·cases h;have hb:=gu hu;refine ⟨u,rfl,?_⟩;rw [hb.1,hb.2.1];exact jig hv hd hk
section
variable {src:SrcT} {L:Sl} {s t:St} {m:ModT} {ts:List (List Nat)}
theorem MX.box (h:MX 4 3 5 m ts s)(z cs:List AV):MX 4 3 5 m ts (Go.Sy.wr (Go.Sy.nw s z) s.nx 0 cs):=by
 obtain ⟨v1,v2,v3,S⟩:=h;exact ⟨v1,v2,v3,((S.nw z).wr (c:=s.nx) (Qap _) 0 cs).up (by rw [jh,jg]; omega) (Qap _)⟩
theorem MZ.box (h:MZ 4 3 5 m ts s)(z cs:List AV):MZ 4 3 5 m ts (Go.Sy.wr (Go.Sy.nw s z) s.nx 0 cs):=by
 obtain ⟨v1,v2,v3,ws,S⟩:=h;exact ⟨v1,v2,v3,ws,((S.nw z).wr (c:=s.nx) (Qap _) 0 cs).up (by rw [jh,jg]; omega) (Qap _)⟩
theorem MZ.nx5 (h:MZ 4 3 5 m ts s):5≤s.nx:=by obtain ⟨v1,v2,v3,ws,S⟩:=h; exact S.lo
theorem MX.nx5 (h:MX 4 3 5 m ts s):5≤s.nx:=by obtain ⟨v1,v2,v3,S⟩:=h; exact S.lo
theorem kL (h:5≤s.nx)(z cs:List AV):Kq 4 3 5 s (Go.Sy.wr (Go.Sy.nw s z) s.nx 0 cs):=(Kq.refl.nw h z).wr (.inr h) 0 cs
end
theorem MZ.take {m:ModT}{ts:List (List Nat)}{s:St}(h:MZ 4 3 5 m ts s)(us:List (List Nat)):MZ 4 3 5 m us (Go.Sy.mp s 3 (mpl us)):=by
 obtain ⟨v1,v2,v3,ws,S⟩:=h;exact ⟨v1,v2,v3,ws,S.take us⟩
def zr7:List AV:=[.int .i64 0,.int .i64 0,.str [],.nils,.int .i64 0,.int .i64 0,.nils]
def zp4:List AV:=[.str [],.nils,.int .i64 0,.int .i64 0]
set_option maxHeartbeats 8000000 in
theorem m_c (hb:NB base){src:SrcT}{L:Sl}{s:St}(D:QS src L s){m:ModT}{ts:List (List Nat)}(V:VarsOK m.vars m.enums)(hm:m.moves=[])(O:SrcOK src)(H:MZ 4 3 5 m ts s):xC Qaf base jhs L s (mQ base (Xd (m,ts) src.procs)) (mP base (Xd (m,ts) src.procs)):=by
 have c0:=D.c0;have i1:=D.i1;have onp:=O.np;generalize hR:Xd (m,ts) src.procs=R;unfold jhs;try dsimp only [oo,oO,ot,oT,os,og,oh,oc,on,oN,oP]
 (have zz:=@c0.r; (repeat' (first | (apply jc <;> intro _) | simp (disch:=first | exact qq | fail) only [ja i1,c0.q,c0.r,jd,jo,jQ,jn,jf,qp,qm,jt,ju,jx,jy,jv,rzZ,Qab,Qac,Qad,Qaa,Qae])); (all_goals (clear zz)))
 refine qt src.procs.length (λk L s=>(∃ b:MT,Xd b (src.procs.drop k)=R∧b.1.vars=m.vars∧b.1.enums=m.enums∧b.1.moves.length≤1000 * k∧MZ 4 3 5 b.1 b.2 s∧QS src L s)∧Has L 39 (.lst src.procs.length (fl prE src.procs))) (by first | assumption | omega) (by decide) (by simp (disch:=decide) only [je,jb]) (by simp (disch:=decide) only [je,jb]) ?_ (λk L s v h=>(by obtain ⟨⟨b,h1,h2,h3,h4,h5,h6⟩,h7⟩:=h; refine ⟨⟨b,h1,h2,h3,h4,h5,h6.push (by decide)⟩,?_⟩; simp (disch:=decide) only [jb]; assumption)) (λk L s v h=>(by obtain ⟨⟨b,h1,h2,h3,h4,h5,h6⟩,h7⟩:=h; refine ⟨⟨b,h1,h2,h3,h4,h5,h6.push (by decide)⟩,?_⟩; simp (disch:=decide) only [jb]; assumption)) (λk L s hk hI hi hn=>?_) (λL s hI=>?_)
 ·refine ⟨⟨(m,ts),by rw [QbA]; exact hR,rfl,rfl,by rw [hm]; exact QaM _,H,((D.push (by decide)).push (by decide)).push (by decide)⟩,?_⟩;simp (disch:=decide) only [jb,je]
 ·clear D c0 i1;obtain ⟨⟨b,h1,h2,h3,h4,H,D⟩,i39⟩:=hI;obtain ⟨c0,c1,c2,fr,i1,i2,i3,i4⟩:=id D;have hP:=O.procs _ (Qax hk);have n5:=H.nx5;have H1:=H.box zp4 (prE src.procs[k]);have k1:=kL n5 zp4 (prE src.procs[k]);have D1:=D.kq k1;have C10:=(Cl.new s zp4).wr0 (c':=prE src.procs[k]) rfl;unfold Xd at h1;rw [uW hk] at h1;unfold zp4 at *;repeat' (first | (apply jc <;> intro _) | simp (disch:=first | exact dzG | fail) only [ja i1,ja i2,ja i3,ja i4,ja i39,ja hi,ja hn,jd,jo,jQ,jn,jf,qp,qm,jt,ju,jx,jy,jv,rzZ,Qab,Qac,Qad,Qaa,Qae])
  obtain ⟨v1,v2,v3,ws,S⟩:=id H1;refine UR hb S.cp S.mp _ _ _ _ _ ?_;have S1mp:=S.mp;clear S;by_cases hin:src.procs[k].name∈b.2
  ·rw [if_pos hin];have hp:ZE b src.procs[k]=.er 162 src.procs[k].line src.procs[k].col:=by unfold ZE QR; rw [if_pos hin]
   rw [hp] at h1;rw [←h1];exact Vw (D1.push (by decide))
  ·rw [if_neg hin];have hp:ZE b src.procs[k]=zO (λb r=>YW b.1 b.2 r) (b.1,b.2 ++ [src.procs[k].name]) src.procs[k].rules:=by unfold ZE QR; rw [if_neg hin]
   have H2:=H1.take (b.2 ++ [src.procs[k].name]);have D2:=D1.kq ((Kq.refl:Kq 4 3 5 _ _).mp (mpl (b.2 ++ [src.procs[k].name])));have C10:Cl (Go.Sy.mp (Go.Sy.wr (Go.Sy.nw s [.str [],.nils,.int .i64 0,.int .i64 0]) s.nx 0 (prE src.procs[k])) 3 (mpl (b.2 ++ [src.procs[k].name]))) s.nx (prE src.procs[k]):=by rw [u7 (by omega)]; exact C10
   have hrl:=hP.len;generalize Go.Sy.mp (Go.Sy.wr (Go.Sy.nw s [.str [],.nils,.int .i64 0,.int .i64 0]) s.nx 0 (prE src.procs[k])) 3 (mpl (b.2 ++ [src.procs[k].name]))=t1 at *;clear D1 H1 k1 S1mp
   (have zz:=C10.r; (repeat' (first | (apply jc <;> intro _) | simp (disch:=first | exact qq | fail) only [ja i1,ja i2,ja i3,ja i4,ja i39,ja hi,ja hn,C10.q,C10.r,jd,jo,jQ,jn,jf,qp,qm,jt,ju,jx,jy,jv,rzZ,Qab,Qac,Qad,Qaa,Qae])); (all_goals (clear zz)))
   refine qt src.procs[k].rules.length (λky L s=>(∃ c:MT,zO (λb r=>YW b.1 b.2 r) c (src.procs[k].rules.drop ky)=ZE b src.procs[k]∧c.1.vars=m.vars∧c.1.enums=m.enums∧c.1.moves.length≤1000 * k+ky∧MZ 4 3 5 c.1 c.2 s∧QS src L s)∧Has L 54 (.lst src.procs[k].rules.length (fl ruE src.procs[k].rules))∧Has L 39 (.lst src.procs.length (fl prE src.procs))∧Has L 41 (.int .i64 k)∧Has L 40 (.int .i64 src.procs.length)) (by first | assumption | omega) (by decide) (by simp (disch:=decide) only [je,jb]) (by simp (disch:=decide) only [je,jb]) ?_ (λk L s v h=>(by obtain ⟨⟨c,g1,g2,g3,g4,g5,g6⟩,g7,g8,g9,g10⟩:=h; refine ⟨⟨c,g1,g2,g3,g4,g5,g6.push (by decide)⟩,?_,?_,?_,?_⟩ <;> simp (disch:=decide) only [jb] <;> assumption)) (λk L s v h=>(by obtain ⟨⟨c,g1,g2,g3,g4,g5,g6⟩,g7,g8,g9,g10⟩:=h; refine ⟨⟨c,g1,g2,g3,g4,g5,g6.push (by decide)⟩,?_,?_,?_,?_⟩ <;> simp (disch:=decide) only [jb] <;> assumption)) (λky Ly sy hky hIy hiy hny=>?_) (λLy sy hIy=>?_)
   ·refine ⟨⟨(b.1,b.2 ++ [src.procs[k].name]),by rw [QbA]; exact hp.symm,h2,h3,by omega,H2,(((D2.push (by decide)).push (by decide)).push (by decide)).push (by decide)⟩,?_⟩;simp (disch:=decide) only [jb,je,true_and];exact ⟨i39,hi,hn⟩
   ·obtain ⟨⟨c,g1,g2,g3,g4,H3,D3⟩,j54,j39,j41,j40⟩:=hIy;obtain ⟨c0',c1',c2',fr',i1',i2',i3',i4'⟩:=id D3;have hr:=hP.rules _ (Qax hky);have n5':=H3.nx5;have H4:=H3.box zr7 (ruE src.procs[k].rules[ky]);have k4:=kL n5' zr7 (ruE src.procs[k].rules[ky]);have D4:=D3.kq k4;have hlr:(ruE src.procs[k].rules[ky]).length=zr7.length:=by rw [ZC]; rfl
    have C12:=(Cl.new sy zr7).wr0 hlr;rw [uW hky] at g1;unfold zr7 at *;repeat' (first | (apply jc <;> intro _) | simp (disch:=first | exact dzG | fail) only [ja i1',ja i2',ja i3',ja i4',ja j54,ja hiy,ja hny,jd,jo,jQ,jn,jf,qp,qm,jt,ju,jx,jy,jv,rzZ,Qab,Qac,Qad,Qaa,Qae])
    refine jnj hb _ (by rw [g2,g3]; exact V) hr.1 hr.2.1 hr.2.2 (by omega) H4 _ _ ?_;cases hk1:YW c.1 c.2 src.procs[k].rules[ky] with
    | er x y z=>
     rw [hk1] at g1;rw [←g1] at h1;intro s' k5;rw [←h1];exact Vw ((D4.kq k5).push (by decide))
    | ok d=>
     rw [hk1] at g1;intro s' k5 H5;obtain ⟨e,he⟩:=jai hk1;repeat' (first | (apply jc <;> intro _) | simp (disch:=first | exact dzG | fail) only [jd,jo,jQ,jn,jf,qp,qm,jt,ju,jx,jy,jv,rzZ,Qab,Qac,Qad,Qaa,Qae])
     refine ⟨⟨⟨d,g1,by rw [he]; exact g2,by rw [he]; exact g3,by rw [he]; simp only [Qal,Qak,Qan]; omega,H5,(D4.kq k5).push (by decide)⟩,?_,?_,?_,?_⟩,?_,?_⟩ <;> simp (disch:=decide) only [jb] <;> assumption
   ·obtain ⟨⟨c,g1,g2,g3,g4,H3,D3⟩,j54,j39,j41,j40⟩:=hIy;rw [Qcm,zO] at g1;rw [←g1] at h1;repeat' (first | (apply jc <;> intro _) | simp (disch:=first | exact dzG | fail) only [jd,jo,jQ,jn,jf,qp,qm,jt,ju,jx,jy,jv,rzZ,Qab,Qac,Qad,Qaa,Qae])
    refine ⟨⟨⟨c,h1,g2,g3,by omega,H3,D3⟩,?_⟩,?_,?_⟩ <;> assumption
 ·obtain ⟨⟨b,h1,h2,h3,h4,H,D⟩,i39⟩:=hI;rw [Qcm] at h1;unfold Xd at h1;rw [zO] at h1;rw [←h1];repeat' (first | (apply jc <;> intro _) | simp (disch:=first | exact dzG | fail) only [jd,jo,jQ,jn,jf,qp,qm,jt,ju,jx,jy,jv,rzZ,Qab,Qac,Qad,Qaa,Qae])
  exact m_d D H
end Go.Sy
end
noncomputable section
set_option maxRecDepth 100000
namespace Go.Sy
open Go.Ev Go.Proofs
variable {base:Bs}
theorem MX.mz {m:ModT}{ts:List (List Nat)}{s:St}(h:MX 4 3 5 m ts s)(hm:m.moves=[]):MZ 4 3 5 m ts s:=by
 obtain ⟨v1,v2,v3,S⟩:=h;exact ⟨v1,v2,v3,[],S.mr hm⟩
def zd7:List AV:=[.str [],.str [],.int .i64 0,.int .i64 0,.nils,.int .i64 0,.int .i64 0]
def ze4:List AV:=[.str [],.nils,.int .i64 0,.int .i64 0]
set_option maxHeartbeats 8000000 in
theorem m_b (hb:NB base){src:SrcT}{L:Sl}{s:St}(D:QS src L s){m:ModT}{ts:List (List Nat)}(V:VarsOK m.vars m.enums)(hm:m.moves=[])(hv0:m.vars=[])(O:SrcOK src)(H:MX 4 3 5 m ts s)(R:KR MT)(hR:(match wC (m,ts) src.vars with | .er a c d=>.er a c d | .ok b=>Xd b src.procs)=R):xC Qaf base jht L s (mQ base R) (mP base R):=by
 have c0:=D.c0;have i1:=D.i1;have onv:=O.nv;unfold jht;try dsimp only [oo,oO,ot,oT,os,og,oh,oc,on,oN,oP]
 (have zz:=@c0.r; (repeat' (first | (apply jc <;> intro _) | simp (disch:=first | exact qq | fail) only [ja i1,c0.q,c0.r,jd,jo,jQ,jn,jf,qp,qm,jt,ju,jx,jy,jv,rzZ,Qab,Qac,Qad,Qaa,Qae])); (all_goals (clear zz)))
 refine qt src.vars.length (λk L s=>(∃ b:MT,(match wC b (src.vars.drop k) with | .er a c d=>.er a c d | .ok b=>Xd b src.procs)=R∧b.1.moves=[]∧b.1.vars.length≤k∧VarsOK b.1.vars b.1.enums∧MX 4 3 5 b.1 b.2 s∧QS src L s)∧Has L 28 (.lst src.vars.length (fl qc src.vars))) (by first | assumption | omega) (by decide) (by simp (disch:=decide) only [je,jb]) (by simp (disch:=decide) only [je,jb]) ?_ (λk L s v h=>(by obtain ⟨⟨b,h1,h2,h3,h4,h5,h6⟩,h7⟩:=h; refine ⟨⟨b,h1,h2,h3,h4,h5,h6.push (by decide)⟩,?_⟩; simp (disch:=decide) only [jb]; assumption)) (λk L s v h=>(by obtain ⟨⟨b,h1,h2,h3,h4,h5,h6⟩,h7⟩:=h; refine ⟨⟨b,h1,h2,h3,h4,h5,h6.push (by decide)⟩,?_⟩; simp (disch:=decide) only [jb]; assumption)) (λk L s hk hI hi hn=>?_) (λL s hI=>?_)
 ·refine ⟨⟨(m,ts),by rw [QbA]; exact hR,hm,by rw [hv0]; exact QaM _,V,H,((D.push (by decide)).push (by decide)).push (by decide)⟩,?_⟩;simp (disch:=decide) only [jb,je]
 ·clear D c0 i1 H V hm hv0;obtain ⟨⟨b,h1,hm,h3,V,H,D⟩,i28⟩:=hI;obtain ⟨c0,c1,c2,fr,i1,i2,i3,i4⟩:=id D;have hd:=O.vars _ (Qax hk);have n5:=H.nx5;have H1:=H.box zd7 (qc src.vars[k]);have k1:=kL n5 zd7 (qc src.vars[k]);have D1:=D.kq k1;have C10:=(Cl.new s zd7).wr0 (c':=qc src.vars[k]) rfl;unfold wC at h1;rw [uW hk] at h1;unfold zd7 at *;repeat' (first | (apply jc <;> intro _) | simp (disch:=first | exact dzG | fail) only [ja i1,ja i2,ja i3,ja i4,ja i28,ja hi,ja hn,jd,jo,jQ,jn,jf,qp,qm,jt,ju,jx,jy,jv,rzZ,Qab,Qac,Qad,Qaa,Qae])
  refine joe hb _ V (by omega) hd.ex hd.len hd.lo hd.hi H1 _ _ ?_;cases hk1:Y7 b.1 b.2 src.vars[k] with
  | er x y z=>
   rw [hk1] at h1;intro s' k5;rw [←h1];exact Vw ((D1.kq k5).push (by decide))
  | ok d=>
   rw [hk1] at h1;intro s' k5 H5;obtain ⟨v,he,hv⟩:=jbc V.vals hd hk1;repeat' (first | (apply jc <;> intro _) | simp (disch:=first | exact dzG | fail) only [jd,jo,jQ,jn,jf,qp,qm,jt,ju,jx,jy,jv,rzZ,Qab,Qac,Qad,Qaa,Qae])
   refine ⟨⟨⟨d,h1,by rw [he]; exact hm,by rw [he]; simp only [Qal,Qak,Qan]; omega,?_,H5,(D1.kq k5).push (by decide)⟩,?_⟩,?_,?_⟩
   ·rw [he];refine ⟨by simp only [Qal,Qak,Qan]; omega,V.len2,V.vals,λu hu=>?_⟩;rcases Qbk.1 hu with hu | hu
    ·exact V.ends u hu
    ·simp only [QbN] at hu;rw [hu]; exact hv
   all_goals (simp (disch:=decide) only [jb]; assumption)
 ·obtain ⟨⟨b,h1,hm,h3,V,H,D⟩,i28⟩:=hI;rw [Qcm] at h1;unfold wC at h1;rw [zO] at h1;dsimp only at h1;rw [←h1];repeat' (first | (apply jc <;> intro _) | simp (disch:=first | exact dzG | fail) only [jd,jo,jQ,jn,jf,qp,qm,jt,ju,jx,jy,jv,rzZ,Qab,Qac,Qad,Qaa,Qae])
  exact m_c hb D V hm O (H.mz hm)
set_option maxHeartbeats 8000000 in
theorem m_a (hb:NB base){src:SrcT}{L:Sl}{s:St}(D:QS src L s)(O:SrcOK src)(H:MX 4 3 5 md0 [] s):xC Qaf base jhu L s (mQ base (Jy src)) (mP base (Jy src)):=by
 have c0:=D.c0;have i1:=D.i1;have one:=O.ne;generalize hR:Jy src=R;unfold Jy at hR;unfold jhu;try dsimp only [oo,oO,ot,oT,os,og,oh,oc,on,oN,oP]
 (have zz:=@c0.r; (repeat' (first | (apply jc <;> intro _) | simp (disch:=first | exact qq | fail) only [ja i1,c0.q,c0.r,jd,jo,jQ,jn,jf,qp,qm,jt,ju,jx,jy,jv,rzZ,Qab,Qac,Qad,Qaa,Qae])); (all_goals (clear zz)))
 refine qt src.enums.length (λk L s=>(∃ b:MT,(match WU b (src.enums.drop k) with | .er a c d=>.er a c d | .ok b=>(match wC b src.vars with | .er a c d=>.er a c d | .ok b=>Xd b src.procs))=R∧b.1.moves=[]∧b.1.vars=[]∧b.1.enums.length≤k∧(∀ e∈b.1.enums,e.vals.length≤1000000)∧MX 4 3 5 b.1 b.2 s∧QS src L s)∧Has L 17 (.lst src.enums.length (fl enE src.enums))) (by first | assumption | omega) (by decide) (by simp (disch:=decide) only [je,jb]) (by simp (disch:=decide) only [je,jb]) ?_ (λk L s v h=>(by obtain ⟨⟨b,h1,h2,h3,h4,h4b,h5,h6⟩,h7⟩:=h; refine ⟨⟨b,h1,h2,h3,h4,h4b,h5,h6.push (by decide)⟩,?_⟩; simp (disch:=decide) only [jb]; assumption)) (λk L s v h=>(by obtain ⟨⟨b,h1,h2,h3,h4,h4b,h5,h6⟩,h7⟩:=h; refine ⟨⟨b,h1,h2,h3,h4,h4b,h5,h6.push (by decide)⟩,?_⟩; simp (disch:=decide) only [jb]; assumption)) (λk L s hk hI hi hn=>?_) (λL s hI=>?_)
 ·refine ⟨⟨(md0,[]),by rw [QbA]; exact hR,rfl,rfl,QaM _,(λe he=>by cases he),H,((D.push (by decide)).push (by decide)).push (by decide)⟩,?_⟩;simp (disch:=decide) only [jb,je]
 ·clear D c0 i1 H;obtain ⟨⟨b,h1,hm,h3,h4,hv,H,D⟩,i17⟩:=hI;obtain ⟨c0,c1,c2,fr,i1,i2,i3,i4⟩:=id D;have hd:=O.vals _ (Qax hk);have n5:=H.nx5;have H1:=H.box ze4 (enE src.enums[k]);have k1:=kL n5 ze4 (enE src.enums[k]);have D1:=D.kq k1;have C10:=(Cl.new s ze4).wr0 (c':=enE src.enums[k]) rfl;unfold WU at h1;rw [uW hk] at h1;unfold ze4 at *;repeat' (first | (apply jc <;> intro _) | simp (disch:=first | exact dzG | fail) only [ja i1,ja i2,ja i3,ja i4,ja i17,ja hi,ja hn,jd,jo,jQ,jn,jf,qp,qm,jt,ju,jx,jy,jv,rzZ,Qab,Qac,Qad,Qaa,Qae])
  refine jn8 hb (λvs h h2=>jkV hb vs h h2) _ hd.1 hd.2 (by omega) H1 _ _ ?_;cases hk1:vb b.1 b.2 src.enums[k] with
  | er x y z=>
   rw [hk1] at h1;intro s' k5;rw [←h1];exact Vw ((D1.kq k5).push (by decide))
  | ok d=>
   rw [hk1] at h1;intro s' k5 H5;have he:=Ut hk1;repeat' (first | (apply jc <;> intro _) | simp (disch:=first | exact dzG | fail) only [jd,jo,jQ,jn,jf,qp,qm,jt,ju,jx,jy,jv,rzZ,Qab,Qac,Qad,Qaa,Qae])
   refine ⟨⟨⟨d,h1,by rw [he]; exact hm,by rw [he]; exact h3,by rw [he]; simp only [Qal,Qak,Qan]; omega,?_,H5,(D1.kq k5).push (by decide)⟩,?_⟩,?_,?_⟩
   ·rw [he];intro u hu;rcases Qbk.1 hu with hu | hu
    ·exact hv u hu
    ·simp only [QbN] at hu;rw [hu]; exact hd.2
   all_goals (simp (disch:=decide) only [jb]; assumption)
 ·obtain ⟨⟨b,h1,hm,h3,h4,hv,H,D⟩,i17⟩:=hI;rw [Qcm] at h1;unfold WU at h1;rw [zO] at h1;dsimp only at h1;repeat' (first | (apply jc <;> intro _) | simp (disch:=first | exact dzG | fail) only [jd,jo,jQ,jn,jf,qp,qm,jt,ju,jx,jy,jv,rzZ,Qab,Qac,Qad,Qaa,Qae])
  exact m_b hb D ⟨by rw [h3]; exact QaM _,by omega,hv,λv hv=>by rw [h3] at hv; cases hv⟩ hm h3 O H R h1
set_option maxHeartbeats 8000000 in
theorem jkC (hb:NB base)(src:SrcT)(O:SrcOK src):Tot base 26 [.agg (srE src)] (Vg (Jy src)):=by
 refine hb.tot ?_ (by first | rfl | simp [pa,pc,qQ,J9,wT,Jr,zP,U9,US,Xk,YT,Y0,Y2,Yl]) rfl;refine uC x26 (hb.pur 26 1 (by decide)) ?_;simp only [y26,jm,Qai,Qaj,Qag,Qah];unfold z26;try dsimp only [oo,oO,ot,oT,os,og,oh,oc,on,oN,oP]
 repeat' (first | (apply jc <;> intro _) | simp (disch:=first | exact dzG | fail) only [Zu,jpo,joV,jd,jo,jQ,jn,jf,qp,qm,jt,ju,jx,jy,jv,rzZ,Qab,Qac,Qad,Qaa,Qae])
 obtain ⟨X,hX⟩:∃ X,X=Go.Sy.nw (Go.Sy.nw (Go.Sy.nw st0 (srE src)) [.nils,.nils,.nils]) [.int .i64 0,.int .i64 0,.int .i64 0]:=⟨_,rfl⟩;have X2:Cl X 2 [.int .i64 0,.int .i64 0,.int .i64 0]:=by rw [hX]; exact Cl.new _ _
 have X1:Cl X 1 [.nils,.nils,.nils]:=by rw [hX]; exact (Cl.new _ _).nw _
 have X0:Cl X 0 (srE src):=by rw [hX]; exact ((Cl.new _ _).nw _).nw _
 have Xn:X.nx=3:=by rw [hX]; rfl
 have Xf:X.fr=[]:=by rw [hX]; rfl
 rw [←hX];have hn4:(nmp (df (59,[.ptr 2 0]) X)).nx=4:=by show X.nx+1=4; omega
 have hc:(AV.nils :: AV.nils :: AV.nils :: upd [AV.nilm,AV.bool false] 0 (AV.map 3).cells)=[.nils,.nils,.nils,.map 3,.bool false]:=rfl;rw [hn4,hc];have Y:∀ c cs,c<3->Cl X c cs->Cl (Go.Sy.nw (nmp (df (59,[.ptr 2 0]) X)) [.nils,.nils,.nils,.map 3,.bool false]) c cs:=λc cs h3 h=>by
  refine h.keep ?_ ?_
  ·rw [jg,hn4]; omega
  ·rw [Je (by omega),jgt,if_neg (by show c≠X.nx; omega)]; rfl
 have C4:Cl (Go.Sy.nw (nmp (df (59,[.ptr 2 0]) X)) [.nils,.nils,.nils,.map 3,.bool false]) 4 [.nils,.nils,.nils,.map 3,.bool false]:=hn4▸Cl.new (nmp (df (59,[.ptr 2 0]) X)) _;have M3:Mp (Go.Sy.nw (nmp (df (59,[.ptr 2 0]) X)) [.nils,.nils,.nils,.map 3,.bool false]) 3 []:=by
  have h:Mp (nmp (df (59,[.ptr 2 0]) X)) X.nx []:=Mp.new (df (59,[.ptr 2 0]) X);rw [Xn] at h;exact h.nw _
 have n5:(Go.Sy.nw (nmp (df (59,[.ptr 2 0]) X)) [.nils,.nils,.nils,.map 3,.bool false]).nx=5:=by rw [jg,hn4]
 refine m_a hb ⟨Y _ _ (by decide) X0,Y _ _ (by decide) X1,Y _ _ (by decide) X2,?_,?_,?_,?_,?_⟩ O ⟨.nils,.nils,.nils,C4,M3,Lv.nil,Lv.nil,Lv.nil,trivial,trivial,trivial,by decide,by decide,by decide,by omega,Qap _⟩
 ·show (59,[AV.ptr 2 0]) :: X.fr=_;rw [Xf]
 all_goals simp (disch:=decide) only [jb,je]
end Go.Sy
end
noncomputable section
set_option maxRecDepth 100000
namespace Go.Sy
open Go.Ev Go.Proofs
variable {base:Bs}
def uA (r:KR Ex):AV:=match r with
 | .er c l k=>.tup [.agg (eE ex0),.agg (fcl c l k)]
 | .ok y=>.tup [.agg (eE y),.agg (fcl 0 0 0)]
set_option maxHeartbeats 4000000 in
theorem Gn (hb:NB base)(m:ModT)(V:VarsOK m.vars m.enums)(x:Ex)(hx:OkE x):PX Qaf base 25 [.agg (mdE m),.agg (eE x)] (.ok (uA (qE m.vars m.enums true x 2 []))):=by
 refine uC x25 (hb.pur 25 1 (by decide)) ?_;simp only [y25,jm,Qai,Qaj,Qag,Qah];unfold z25;try dsimp only [oo,oO,ot,oT,os,og,oh,oc,on,oN,oP]
 have uq:upd [.nils,.nils,.nils,.nilm,.bool false] 0 (mdE m)=[.lst m.vars.length (fl vaE m.vars),.lst m.enums.length (fl enE m.enums),.lst m.moves.length (fl moE m.moves),.nilm,.bool false]:=rfl;repeat' (first | (apply jc <;> intro _) | simp (disch:=first | exact dzG | fail) only [Zu,XN,Wk,Wj (base:=base),uq,jd,jo,jQ,jn,jf,qp,qm,jt,ju,jx,jy,jv,rzZ,Qab,Qac,Qad,Qaa,Qae])
 obtain ⟨X,hX⟩:∃ X,X=Go.Sy.nw (Go.Sy.nw (Go.Sy.nw (Go.Sy.nw st0 (mdE m)) (eE x)) [.int .i64 0,.int .i64 0,.str [],.nils,.int .i64 0,.int .i64 0]) [.int .i64 0,.int .i64 0,.int .i64 0]:=⟨_,rfl⟩;rw [←hX];have X3:Cl X 3 [.int .i64 0,.int .i64 0,.int .i64 0]:=by rw [hX]; exact Cl.new _ _
 have X2:Cl X 2 [.int .i64 0,.int .i64 0,.str [],.nils,.int .i64 0,.int .i64 0]:=by rw [hX]; exact (Cl.new _ _).nw _
 have X1:Cl X 1 (eE x):=by rw [hX]; exact ((Cl.new _ _).nw _).nw _
 have Xn:X.nx=4:=by rw [hX]; rfl
 have Xf:X.fr=[]:=by rw [hX]; rfl
 obtain ⟨S,hS⟩:∃ S,S=Go.Sy.nw (df (59,[.ptr 3 0]) X) [.lst m.vars.length (fl vaE m.vars),.lst m.enums.length (fl enE m.enums),.lst m.moves.length (fl moE m.moves),.nilm,.bool true]:=⟨_,rfl⟩;rw [←hS];have hn4:(df (59,[.ptr 3 0]) X).nx=4:=Xn;have Y:∀ c cs,c<4->Cl X c cs->Cl S c cs:=λc cs h3 h=>by
  rw [hS];refine h.keep ?_ ?_
  ·rw [jg,hn4]; omega
  ·rw [Je (by omega)]; rfl
 have C1:=Y _ _ (by decide) X1;have C2:=Y _ _ (by decide) X2;have C3:=Y _ _ (by decide) X3;have C4:Cl S 4 [.lst m.vars.length (fl vaE m.vars),.lst m.enums.length (fl enE m.enums),.lst m.moves.length (fl moE m.moves),.nilm,.bool true]:=by rw [hS]; exact hn4▸Cl.new (df (59,[.ptr 3 0]) X) _
 have Sf:S.fr=[(59,[.ptr 3 0])]:=by
  rw [hS];show (59,[AV.ptr 3 0]) :: X.fr=_;rw [Xf]
 clear hS Y X1 X2 X3 Xn Xf hX uq hn4;refine Vf hb V _ hx.2 (XO _ hx.1) _ _ (fm:=true) (mm:=.nilm) (v3:=.lst m.moves.length (fl moE m.moves)) ⟨C4,.inl rfl,.inl rfl,(λb k z x h=>by cases h),(λb k z x h=>by cases h)⟩ _ _ ?_;cases hr:qE m.vars m.enums true x 2 [] with
 | er a b c=>
  intro s' k2;have E1:=k2.cl C1 (by decide);have E2:=k2.cl C2 (by decide);have E3:=k2.cl C3 (by decide);have l3:=E3.len;have n3:=E3.lt;have hf:s'.fr=[(59,[.ptr 3 0])]:=k2.fr.trans Sf
  (have zz:=aI @Qo (aI C1.r (aI C2.r (aI C3.r (aI E1.r (aI E2.r E3.r))))); (repeat' (first | (apply jc <;> intro _) | simp (disch:=first | exact qq | fail) only [XN,Wk,Wj (base:=base),Qm,Yf,JK (f:=59) (vs:=[.ptr 3 0]),Jf (f:=59) (vs:=[.ptr 3 0]),Kh,Hh,C1.q,C2.q,C3.q,E1.q,E2.q,E3.q,Qo,C1.r,C2.r,C3.r,E1.r,E2.r,E3.r,jd,jo,jQ,jn,jf,qp,qm,jt,ju,jx,jy,jv,rzZ,Qab,Qac,Qad,Qaa,Qae])); (all_goals (clear zz)))
  exact FzD.tup (.cons XI (.cons (.agg (.pc (by rfl))) .nil))
 | ok y=>
  intro s' k2 D4;have E1:=k2.cl C1 (by decide);have E2:=k2.cl C2 (by decide);have E3:=k2.cl C3 (by decide);have l3:=E3.len;have n3:=E3.lt;have hf:s'.fr=[(59,[.ptr 3 0])]:=k2.fr.trans Sf
  (have zz:=aI @Qo (aI C1.r (aI C2.r (aI C3.r (aI E1.r (aI E2.r E3.r))))); (repeat' (first | (apply jc <;> intro _) | simp (disch:=first | exact qq | fail) only [XN,Wk,Wj (base:=base),Qm,Yf,JK (f:=59) (vs:=[.ptr 3 0]),Jf (f:=59) (vs:=[.ptr 3 0]),Kh,Hh,C1.q,C2.q,C3.q,E1.q,E2.q,E3.q,Qo,C1.r,C2.r,C3.r,E1.r,E2.r,E3.r,jd,jo,jQ,jn,jf,qp,qm,jt,ju,jx,jy,jv,rzZ,Qab,Qac,Qad,Qaa,Qae])); (all_goals (clear zz)))
  exact FzD.tup (.cons (.agg (.pc (qQ y))) (.cons (.agg (.pc (by rfl))) .nil))
theorem Gk (hb:NB base)(m:ModT)(V:VarsOK m.vars m.enums)(x:Ex)(hx:OkE x):Tot base 25 [.agg (mdE m),.agg (eE x)] (uA (qE m.vars m.enums true x 2 [])):=hb.tot (Gn hb m V x hx) (by first | rfl | simp [pa,pc,qQ,J9,wT,Jr,zP,U9,US,Xk,YT,Y0,Y2,Yl]) rfl
end Go.Sy
end
noncomputable section
set_option maxRecDepth 100000
namespace Go.Sy
open Go.Ev Go.Proofs
variable {base:Bs}
mutual
theorem Ug:∀ (d:Nat) (x:Ex),zk d x=true->Jp x=true∧Xo x=true
 | 0,_,h=>by cases h
 | d+1,.mk op num name ks l c,h=>by
  rw [Uh] at h;simp only [Qar,decide_eq_true_eq] at h;obtain ⟨⟨⟨⟨h1,h2⟩,h3⟩,h4⟩,h5⟩:=h;have h3:(ks.length:Int)=if 5≤op∧op≤13 then 1 else if 14≤op∧op<31 then 2 else 0:=h3
  obtain ⟨k1,k2⟩:=gE d ks h5;refine ⟨?_,?_⟩
  ·rw [Jp,Qar,decide_eq_true_eq];refine ⟨?_,k1⟩;split at h3
   ·omega
   ·split at h3 <;> omega
  ·rw [Xo,Qar,QaZ,Qar,decide_eq_true_eq,decide_eq_true_eq,decide_eq_true_eq];refine ⟨?_,k2⟩;by_cases ho:op=1
   ·right;unfold uR at h4;rw [if_pos (show Ex.op (.mk op num name ks l c)=1 from ho)] at h4;simp only [Qar,decide_eq_true_eq] at h4;have h6:(0:Int)≤num:=h4.1.1;have h7:num≤1000000:=h4.1.2;omega
   ·exact .inl ho
theorem gE:∀ (d:Nat) (xs:List Ex),xs.all (zk d)=true->zT xs=true∧Jj xs=true
 | _,[],_=>⟨rfl,rfl⟩
 | d,x :: xs,h=>by
  rw [Qbf,Qar] at h;obtain ⟨a1,a2⟩:=Ug d x h.1;obtain ⟨b1,b2⟩:=gE d xs h.2;rw [zT,Jj,Qar,Qar];exact ⟨⟨a1,b1⟩,⟨a2,b2⟩⟩
end
theorem wM {ts:List Tk}(W:Wds ts){i j:Nat}{x:Ex}(hi:i<ts.length)(h:yI ts i=.ok x j):OkE x:=Ug 60 x (yy W hi h).2.2.2
theorem jeO:∀ {ts:List Tk} {n i j:Nat} {vs ws:List (List Nat)},vs.length≤32->X9 ts n i vs=.ok ws j->vs.length<ws.length∧ws.length≤32
 | ts,0,i,j,vs,ws,hv,h=>by cases h
 | ts,n+1,i,j,vs,ws,hv,h=>by
  rw [X9] at h;split at h
  ·split at h
   ·cases h
   ·split at h
    ·have:=jeO (by simp; omega) h;simp at this;omega
    ·split at h
     ·cases h; simp; omega
     ·cases h
  ·cases h
theorem jn6 {ts:List Tk}{i j:Nat}{e:EnumT}(h:ZN ts i=.ok e j):0<e.vals.length∧e.vals.length≤1000000:=by
 unfold ZN at h;split at h
 ·split at h
  ·split at h
   ·rename_i vs k hv;cases h;have:=jeO (by simp) hv;dsimp only;omega
   ·cases h
  ·cases h
 ·cases h
theorem jjt {ts:List Tk}(N:Nbs ts){i j:Nat}{n:Int}(h:Yj ts i=.ok n j) : -100000000≤n∧n≤100000000:=by
 unfold Yj at h;split at h
 ·split at h
  ·have:=N (i+1); cases h; omega
  ·cases h
 ·split at h
  ·have:=N i; cases h; omega
  ·cases h
theorem joW {ts:List Tk}(N:Nbs ts){i j:Nat}{y:List Nat×Int×Int}(h:uv ts i=.ok y j):(-100000000≤y.2.1∧y.2.1≤100000000)∧(-100000000≤y.2.2∧y.2.2≤100000000):=by
 unfold uv at h;split at h
 ·cases h; dsimp only; omega
 ·split at h
  ·cases h; dsimp only; omega
  ·split at h
   ·cases h
   ·rename_i lo k h1;split at h
    ·split at h
     ·cases h
     ·rename_i hi k2 h2;cases h;exact ⟨jjt N h1,jjt N h2⟩
    ·cases h
theorem jpx {ts:List Tk}(W:Wds ts){i j:Nat}{bs:List Ex}(hi:i<ts.length)(h:vK ts i=.ok bs j):(∀ x∈bs,OkE x)∧bs.length≤1:=by
 unfold vK at h;split at h
 ·rename_i c;have hi1:=W.isM hi c;split at h
  ·cases h
  ·rename_i x k hx;split at h
   ·cases h;exact ⟨λy hy=>by simp at hy; rw [hy]; exact wM W hi1 hx,by simp⟩
   ·cases h
 ·split at h
  ·cases h; exact ⟨(λy hy=>by cases hy),by simp⟩
  ·cases h
theorem joc {ts:List Tk}(W:Wds ts)(N:Nbs ts){i j:Nat}{d:DeclT}(hi:i<ts.length)(h:ZP ts i=.ok d j):DeclOK d:=by
 unfold ZP at h;split at h
 ·rename_i k1;have hi1:=W.next i hi (by omega)
  split at h
  ·rename_i c1;have hi2:=W.isM hi1 c1;split at h
   ·cases h
   ·rename_i y k hy;have hk:=jfj W hi2 hy;split at h
    ·cases h
    ·rename_i bs k2 hb;cases h;obtain ⟨a,b⟩:=joW N hy;obtain ⟨c,d⟩:=jpx W hk.2 hb;exact ⟨c,by dsimp only; omega,a,b⟩
  ·cases h
 ·cases h
theorem jha {ts:List Tk}(W:Wds ts):∀ {n i j:Nat} {vs ws:List AsT},i<ts.length->(∀ a∈vs,OkE a.to)->vs.length≤32->Xw ts n i vs=.ok ws j->(∀ a∈ws,OkE a.to)∧ws.length≤32
 | 0,i,j,vs,ws,hi,hv,hl,h=>by cases h
 | n+1,i,j,vs,ws,hi,hv,hl,h=>by
  rw [Xw] at h;by_cases k1:(tk ts i).kind=1
  ·simp only [if_pos k1] at h;have hi1:=W.next i hi (by omega)
   by_cases h32:32≤vs.length
   ·simp only [if_pos h32] at h; cases h
   simp only [if_neg h32] at h;by_cases c1:isM (tk ts (i+1)) [[58,61]]=true
   ·simp only [if_pos c1] at h;have hi2:=W.isM hi1 c1;cases h1:yI ts (i+2) with
    | er t=>rw [h1] at h; cases h
    | ok x k=>
     rw [h1] at h;dsimp only at h;have hj:=yy W hi2 h1;have hx:=wM W hi2 h1;have hv2:∀ l c nm,∀ a∈vs ++ [(⟨nm,x,l,c⟩:AsT)],OkE a.to:=λl c nm a ha=>by
      rcases Qbk.1 ha with ha | ha
      ·exact hv a ha
      ·simp at ha; rw [ha]; exact hx
     by_cases c2:isM (tk ts k) [[44]]=true
     ·simp only [if_pos c2] at h;exact jha W (W.isM hj.2.1 c2) (hv2 _ _ _) (by simp; omega) h
     ·simp only [if_neg c2] at h;split at h
      ·cases h; exact ⟨hv2 _ _ _,by simp; omega⟩
      ·cases h
   ·simp only [if_neg c1] at h; cases h
  ·simp only [if_neg k1] at h; cases h
theorem jnh {ts:List Tk}(W:Wds ts){i j:Nat}{r:RuleT}(hi:i<ts.length)(h:YV ts i=.ok r j):OkE r.when∧(∀ a∈r.acts,OkE a.to)∧r.acts.length≤1000000:=by
 unfold YV at h;cases h1:yI ts i with
 | er t=>rw [h1] at h; cases h
 | ok x k=>
  rw [h1] at h;dsimp only at h;have hj:=yy W hi h1;by_cases c1:isM (tk ts k) [[100,111]]=true
  ·simp only [if_pos c1] at h;cases h2:Xw ts ts.length (k+1) [] with
   | er t=>rw [h2] at h; cases h
   | ok vs k2=>
    rw [h2] at h;cases h;have:=jha (vs:=[]) W (W.isM hj.2.1 c1) (λa ha=>by cases ha) (QaM _) h2;exact ⟨wM W hi h1,this.1,by dsimp only; omega⟩
  ·simp only [if_neg c1] at h; cases h
theorem jcf {ts:List Tk}(W:Wds ts):∀ {n i j:Nat} {vs ws:List RuleT},i<ts.length->(∀ r∈vs,OkE r.when∧(∀ a∈r.acts,OkE a.to)∧r.acts.length≤1000000)->vs.length≤32->Qx ts n i vs=.ok ws j->(∀ r∈ws,OkE r.when∧(∀ a∈r.acts,OkE a.to)∧r.acts.length≤1000000)∧ws.length≤32
 | 0,i,j,vs,ws,hi,hv,hl,h=>by cases h
 | n+1,i,j,vs,ws,hi,hv,hl,h=>by
  rw [Qx] at h;by_cases c1:isM (tk ts i) [[119,104,101,110]]=true
  ·simp only [if_pos c1] at h;have hi1:=W.isM hi c1;by_cases h32:32≤vs.length
   ·simp only [if_pos h32] at h; cases h
   simp only [if_neg h32] at h;cases h1:YV ts (i+1) with
   | er t=>rw [h1] at h; cases h
   | ok r k=>
    rw [h1] at h;dsimp only at h;refine jcf W (KO W hi1 h1).2 (λa ha=>?_) (by simp; omega) h;rcases Qbk.1 ha with ha | ha
    ·exact hv a ha
    ·simp at ha; rw [ha]; exact jnh W hi1 h1
  ·simp only [if_neg c1] at h;split at h
   ·cases h; exact ⟨hv,hl⟩
   ·cases h
theorem jnr {ts:List Tk}(W:Wds ts){i j:Nat}{p:ProcT}(hi:i<ts.length)(h:ZD ts i=.ok p j):ProcOK p:=by
 unfold ZD at h;split at h
 ·rename_i k1;have hi1:=W.next i hi (by omega)
  split at h
  ·rename_i c1;have hi2:=W.isM hi1 c1;split at h
   ·rename_i vs k hv;cases h;have:=jcf (vs:=[]) W hi2 (λa ha=>by cases ha) (QaM _) hv;exact ⟨by dsimp only; omega,this.1⟩
   ·cases h
  ·cases h
 ·cases h
theorem GZ {ts:List Tk}(W:Wds ts)(N:Nbs ts):∀ {n i j:Nat} {m w:SrcT},i<ts.length->SrcOK m->m.enums.length≤32->m.vars.length≤32->m.procs.length≤32->YA ts n i m=.ok w j->SrcOK w∧w.enums.length≤32∧w.vars.length≤32∧w.procs.length≤32
 | 0,i,j,m,w,hi,hm,h1,h2,h3,h=>by cases h
 | n+1,i,j,m,w,hi,hm,h1,h2,h3,h=>by
  rw [YA] at h;by_cases c:isM (tk ts i) [[101,110,117,109],[118,97,114],[112,114,111,99,101,115,115]]=true
  ·simp only [if_pos c] at h;have hi1:=W.isM hi c;by_cases c1:(tk ts i).text=[101,110,117,109]
   ·simp only [if_pos c1] at h;by_cases hr:32≤m.enums.length
    ·simp only [if_pos hr] at h; cases h
    simp only [if_neg hr] at h;cases he:ZN ts (i+1) with
    | er t=>rw [he] at h; cases h
    | ok e k=>
     rw [he] at h;refine GZ (m:={ m with enums:=m.enums ++ [e] }) W N (jcO W hi1 he).2 ⟨by simp; omega,hm.nv,hm.np,λa ha=>?_,hm.vars,hm.procs⟩ (by simp; omega) h2 h3 h;rcases Qbk.1 ha with ha | ha
     ·exact hm.vals a ha
     ·simp at ha; rw [ha]; exact jn6 he
   simp only [if_neg c1] at h;by_cases c2:(tk ts i).text=[118,97,114]
   ·simp only [if_pos c2] at h;by_cases hr:32≤m.vars.length
    ·simp only [if_pos hr] at h; cases h
    simp only [if_neg hr] at h;cases he:ZP ts (i+1) with
    | er t=>rw [he] at h; cases h
    | ok e k=>
     rw [he] at h;refine GZ (m:={ m with vars:=m.vars ++ [e] }) W N (jcS W hi1 he).2 ⟨hm.ne,by simp; omega,hm.np,hm.vals,λa ha=>?_,hm.procs⟩ h1 (by simp; omega) h3 h;rcases Qbk.1 ha with ha | ha
     ·exact hm.vars a ha
     ·simp at ha; rw [ha]; exact joc W N hi1 he
   ·simp only [if_neg c2] at h;by_cases hr:32≤m.procs.length
    ·simp only [if_pos hr] at h; cases h
    simp only [if_neg hr] at h;cases he:ZD ts (i+1) with
    | er t=>rw [he] at h; cases h
    | ok e k=>
     rw [he] at h;refine GZ (m:={ m with procs:=m.procs ++ [e] }) W N (jcn W hi1 he).2 ⟨hm.ne,hm.nv,by simp; omega,hm.vals,hm.vars,λa ha=>?_⟩ h1 h2 (by simp; omega) h;rcases Qbk.1 ha with ha | ha
     ·exact hm.procs a ha
     ·simp at ha; rw [ha]; exact jnr W hi1 he
  ·simp only [if_neg c] at h;split at h
   ·cases h; exact ⟨hm,h1,h2,h3⟩
   ·cases h
theorem jcc {l:List Nat}(h:(zG l).2.1=0):SrcOK (zG l).1:=by
 unfold zG at h ⊢;by_cases c:(qi l).2.1≠0
 ·rw [if_pos c] at h; exact absurd h c
 ·rw [if_neg c] at h ⊢;have c0:(qi l).2.1=0:=by simpa using c
  obtain ⟨W,ne,_⟩:=Kf c0;cases hr:YA (qi l).1 (qi l).1.length 0 Wq with
  | er t=>rw [hr] at h; exact absurd h (λh=>by cases h)
  | ok m j=>exact (GZ W (jgS c0) (QbZ.2 ne) ⟨by decide,by decide,by decide,(λa ha=>by cases ha),(λa ha=>by cases ha),(λa ha=>by cases ha)⟩ (by decide) (by decide) (by decide) hr).1
theorem jir {l:List Nat}(h:(yu l).2.1=0):OkE (yu l).1:=by
 unfold yu at h ⊢;by_cases c:(qi l).2.1≠0
 ·rw [if_pos c] at h; exact absurd h c
 ·rw [if_neg c] at h ⊢;have c0:(qi l).2.1=0:=by simpa using c
  obtain ⟨W,ne,_⟩:=Kf c0;cases hr:yI (qi l).1 0 with
  | er t=>rw [hr] at h; exact absurd h (λh=>by cases h)
  | ok x j=>
   rw [hr] at h;dsimp only at h ⊢;by_cases k5:(tk (qi l).1 j).kind=5
   ·rw [if_pos k5]; exact wM W (QbZ.2 ne) hr
   ·rw [if_neg k5] at h; exact absurd h (λh=>by cases h)
def Bad (c:Int):Prop:=c≠0
theorem jdH {vars:List VarT}{enums:List EnumT}{x:Ex}{c l k:Int}(h:zm vars enums x=.er c l k):Bad c:=by
 unfold zm at h;split at h
 ·cases h
 ·split at h
  ·cases h; exact λh=>by cases h
  ·cases h
mutual
theorem Gg {vars:List VarT}{enums:List EnumT}:∀ (fm:Bool) (x:Ex) {a b d:Int},qN vars enums fm x=.er a b d->Bad a
 | fm,.mk op num name ks l c,a,b,d,h=>by
  rw [qN] at h;split at h
  ·cases h
  ·split at h
   ·cases h
   ·split at h
    ·exact jdH h
    ·split at h
     ·rename_i hr;cases h;exact kM _ _ hr
     ·unfold zH at h;split at h
      ·cases h; exact λh=>by cases h
      ·split at h
       ·cases h
       ·split at h
        ·cases h; exact λh=>by cases h
        ·cases h
theorem kM {vars:List VarT}{enums:List EnumT}:∀ (fm:Bool) (xs:List Ex) {a b d:Int},qh vars enums fm xs=.er a b d->Bad a
 | fm,[],a,b,d,h=>by rw [qh] at h; cases h
 | fm,x :: xs,a,b,d,h=>by
  rw [qh] at h;cases hx:qN vars enums fm x with
  | er p q r=>rw [hx] at h; cases h; exact Gg fm x hx
  | ok y=>
   rw [hx] at h;cases hr:qh vars enums fm xs with
   | er p q r=>rw [hr] at h; cases h; exact kM fm xs hr
   | ok r=>rw [hr] at h; cases h
end
theorem QQ {vars:List VarT}{enums:List EnumT}{fm:Bool}{x:Ex}{w:Int}{en:List Nat}{a b c:Int}(h:qE vars enums fm x w en=.er a b c):Bad a:=by
 unfold qE at h;split at h
 ·rename_i hr; cases h; exact Gg fm x hr
 ·split at h
  ·cases h; exact λh=>by cases h
  ·cases h
theorem Wo {ts:List (List Nat)}{n:List Nat}{l c a b d:Int}(h:QR ts n l c=.er a b d):Bad a:=by
 unfold QR at h;split at h
 ·cases h; exact λh=>by cases h
 ·cases h
theorem UQ {l c:Int}:∀ {ns ts:List (List Nat)} {a b d:Int},yS l c ts ns=.er a b d->Bad a
 | [],ts,a,b,d,h=>by cases h
 | n :: ns,ts,a,b,d,h=>by
  rw [yS] at h;split at h
  ·rename_i hr; cases h; exact Wo hr
  ·exact UQ h
theorem jgL {m:ModT}{ts:List (List Nat)}{e:EnumT}{a b d:Int}(h:vb m ts e=.er a b d):Bad a:=by
 unfold vb at h;split at h
 ·rename_i hr; cases h; exact UQ hr
 ·cases h
theorem jbq {vars:List VarT}{enums:List EnumT}:∀ {xs:List Ex} {v:VarT} {a b d:Int},JF vars enums v xs=.er a b d->Bad a
 | [],v,a,b,d,h=>by rw [JF] at h; cases h
 | x :: xs,v,a,b,d,h=>by
  rw [JF] at h;split at h
  ·rename_i hr; cases h; exact QQ hr
  ·split at h
   ·cases h; exact λh=>by cases h
   ·split at h
    ·cases h; exact λh=>by cases h
    ·exact jbq h
theorem jgR {m:ModT}{ts:List (List Nat)}{e:DeclT}{a b d:Int}(h:Y7 m ts e=.er a b d):Bad a:=by
 unfold Y7 at h;split at h
 ·rename_i hr; cases h; exact Wo hr
 ·split at h
  ·rename_i hr;cases h;unfold uS at hr;split at hr
   ·cases hr
   ·split at hr
    ·cases hr
    ·split at hr
     ·cases hr; exact λh=>by cases h
     ·split at hr
      ·cases hr; exact λh=>by cases h
      ·split at hr
       ·cases hr; exact λh=>by cases h
       ·cases hr
  ·unfold vr at h;split at h
   ·rename_i hr; cases h; exact jbq hr
   ·unfold KU at h;split at h
    ·cases h; exact λh=>by cases h
    ·cases h
theorem gC {vars:List VarT}{enums:List EnumT}:∀ {xs done:List AsT} {acc:List SetT} {a b d:Int},Xl vars enums acc done xs=.er a b d->Bad a
 | [],done,acc,a,b,d,h=>by rw [Xl] at h; cases h
 | x :: xs,done,acc,a,b,d,h=>by
  rw [Xl] at h;split at h
  ·cases h; exact λh=>by cases h
  ·split at h
   ·cases h; exact λh=>by cases h
   ·split at h
    ·rename_i hr; cases h; exact QQ hr
    ·exact gC h
theorem jfy {m:ModT}{ts:List (List Nat)}{e:RuleT}{a b d:Int}(h:YW m ts e=.er a b d):Bad a:=by
 unfold YW at h;split at h
 ·rename_i hr; cases h; exact QQ hr
 ·split at h
  ·rename_i hr; cases h; exact gC hr
  ·cases h
theorem Zh {α β:Type}{f:β->α->KR β}(hf:∀ b x a c d,f b x=.er a c d->Bad a):∀ {xs:List α} {b:β} {a c d:Int},zO f b xs=.er a c d->Bad a
 | [],b,a,c,d,h=>by rw [zO] at h; cases h
 | x :: xs,b,a,c,d,h=>by
  rw [zO] at h;split at h
  ·rename_i hr; cases h; exact hf _ _ _ _ _ hr
  ·exact Zh hf h
theorem kB {s:SrcT}{a b d:Int}(h:Jy s=.er a b d):Bad a:=by
 unfold Jy at h;split at h
 ·rename_i hr; cases h; exact Zh (λb x a c d h=>jgL h) hr
 ·split at h
  ·rename_i hr; cases h; exact Zh (λb x a c d h=>jgR h) hr
  ·refine Zh (λb x a c d h=>?_) h;unfold ZE at h;split at h
   ·rename_i hr; cases h; exact Wo hr
   ·exact Zh (λb x a c d h=>jfy h) h
end Go.Sy
end
noncomputable section
set_option maxRecDepth 100000
namespace Go.Sy
open Go.Ev Go.Proofs
variable {base:Bs}
theorem jo6:Go.Ev.isAgg Qaf 51=some true:=by kernel_rfl
theorem jo5:Go.Ev.sizeOf Qaf 51=some 3:=by kernel_rfl
theorem jqp {b o:Nat}{cs:List AV}{h:T AO}(ho:o+3≤qo h b)(hv:rats h b o 3=cs)(hc:cs.all eqs=true):(jX Qaf 51 (.ptr b o) (.agg cs) h=true)=True:=eq_true (Zc jo6 jo5 (by decide) ho hv hc)
structure RdT where
 m:ModT
 x:Ex
 c:Int
 l:Int
 k:Int
def wU (l f:List Nat):RdT:=
 if (zG l).2.1≠0 then ⟨md0,ex0,(zG l).2.1,(zG l).2.2.1,(zG l).2.2.2⟩ else match Jy (zG l).1 with
 | .er a b c=>⟨md0,ex0,a,b,c⟩
 | .ok m=>if (yu f).2.1≠0 then ⟨md0,ex0,(yu f).2.1,(yu f).2.2.1,(yu f).2.2.2⟩ else match qE m.1.vars m.1.enums true (yu f).1 2 [] with
  | .er a b c=>⟨md0,ex0,a,b,c⟩
  | .ok y=>⟨m.1,y,0,0,0⟩
def UP (r:RdT):AV:=.tup [.agg (mdE r.m),.agg (eE r.x),.agg (fcl r.c r.l r.k)]
theorem jhL {s:St}{r:RdT}{a b c:List AV}(h1:a=mdE r.m)(h2:b=eE r.x)(h3:c=fcl r.c r.l r.k):G0 (UP r) (.tup [.agg a,.agg b,.agg c]) s:=by
 subst h1 h2 h3;exact FzD.tup (.cons (.agg (.pc (Y2 _))) (.cons (.agg (.pc (qQ _))) (.cons (.agg (.pc rfl)) .nil)))
theorem uz {s:St}{r:RdT}{c:List AV}(h1:r.m=md0)(h2:r.x=ex0)(h3:c=fcl r.c r.l r.k):G0 (UP r) (.tup [.agg [.nils,.nils,.nils],.agg [.int .i64 0,.int .i64 0,.str [],.nils,.int .i64 0,.int .i64 0],.agg c]) s:=by
 subst h3;unfold UP;rw [h1,h2];exact FzD.tup (.cons jf3 (.cons XI (.cons (.agg (.pc rfl)) .nil)))
theorem JX {α β:Type}{f:β->α->KR β}{P:Nat->β->Prop}:∀ {xs:List α} {n:Nat} {b b':β},(∀ k b x b',x∈xs->P k b->f b x=.ok b'->P (k+1) b')->P n b->zO f b xs=.ok b'->P (n+xs.length) b'
 | [],n,b,b',_,h,e=>by rw [zO] at e; cases e; exact h
 | x :: xs,n,b,b',hs,h,e=>by
  rw [zO] at e;split at e
  ·cases e
  ·rename_i c hc;have:=JX (n:=n+1) (λk b y b' hy=>hs k b y b' (by simp [hy])) (hs n b x c (by simp) h hc) e;rw [Qak,show n+(xs.length+1)=n+1+xs.length by omega];exact this
theorem jar {b b':MT}{p:ProcT}(h:ZE b p=.ok b'):b'.1.vars=b.1.vars∧b'.1.enums=b.1.enums:=by
 unfold ZE at h;split at h
 ·cases h
 ·rename_i ts _;refine JX (n:=0) (P:=λ_ c=>c.1.vars=b.1.vars∧c.1.enums=b.1.enums) (λk c x c' _ hc hr=>?_) ⟨rfl,rfl⟩ h;obtain ⟨e,he⟩:=jai hr;rw [he]; exact hc
theorem jiw {src:SrcT}(O:SrcOK src){b:MT}(h:WU (md0,[]) src.enums=.ok b):b.1.vars=[]∧b.1.moves=[]∧b.1.enums.length≤1000∧(∀ e∈b.1.enums,e.vals.length≤1000000):=by
 have H:=JX (n:=0) (P:=λk (c:MT)=>c.1.vars=[]∧c.1.moves=[]∧c.1.enums.length≤k∧(∀ e∈c.1.enums,e.vals.length≤1000000)) (λk c x c' hx hc hr=>?_) ⟨rfl,rfl,Qap _,λe he=>by cases he⟩ h
 ·have:=O.ne;exact ⟨H.1,H.2.1,by have:=H.2.2.1; omega,H.2.2.2⟩
 ·rw [Ut hr];refine ⟨hc.1,hc.2.1,by have:=hc.2.2.1; simp; omega,λu hu=>?_⟩;rcases Qbk.1 hu with hu | hu
  ·exact hc.2.2.2 u hu
  ·simp only [QbN] at hu;rw [hu]; exact (O.vals x hx).2
theorem jiA {src:SrcT}(O:SrcOK src){b c:MT}(V:VarsOK b.1.vars b.1.enums)(h0:b.1.vars=[])(h:wC b src.vars=.ok c):VarsOK c.1.vars c.1.enums:=by
 have:=JX (n:=0) (P:=λk (c:MT)=>(∀ v∈c.1.vars,-100000000≤v.lo∧v.lo≤100000000∧-100000000≤v.hi∧v.hi≤100000000)∧c.1.enums=b.1.enums∧c.1.vars.length=k) (λk c x c' hx hc hr=>?_) ⟨V.ends,rfl,by rw [h0]; rfl⟩ h
 ·have hn:=O.nv;exact ⟨by omega,by rw [this.2.1]; exact V.len2,by rw [this.2.1]; exact V.vals,this.1⟩
 ·obtain ⟨v,he,hv⟩:=jbc (by rw [hc.2.1]; exact V.vals) (O.vars x hx) hr;rw [he];refine ⟨λu hu=>?_,hc.2.1,by simp [hc.2.2]⟩;rcases Qbk.1 hu with hu | hu
  ·exact hc.1 u hu
  ·simp only [QbN] at hu;rw [hu]; exact hv
theorem jjx {src:SrcT}(O:SrcOK src){m:MT}(h:Jy src=.ok m):VarsOK m.1.vars m.1.enums:=by
 unfold Jy at h;split at h
 ·cases h
 ·rename_i b h1;obtain ⟨e1,e2,e3,e4⟩:=jiw O h1;split at h
  ·cases h
  ·rename_i c h2;have V:=jiA O ⟨by rw [e1]; exact QaM _,by omega,e4,λv hv=>by rw [e1] at hv; cases hv⟩ e1 h2;have:=JX (n:=0) (P:=λ_ (d:MT)=>d.1.vars=c.1.vars∧d.1.enums=c.1.enums) (λk d x d' _ hd hr=>?_) ⟨rfl,rfl⟩ h
   ·rw [this.1,this.2]; exact V
   ·have:=jar hr;rw [this.1,this.2]; exact hd
set_option maxHeartbeats 8000000 in
theorem joG (hb:NB base)(hP:PI base)(l f:List Nat)(hl:l.length≤9223372036854775807)(hf:f.length≤9223372036854775807):Tot base 24 [.str l,.str f] (UP (wU l f)):=by
 refine hb.tot ?_ rfl rfl;have hS:=jiM hb hP l hl Kf jgS;have hX:=joN hb hP f hf Kf;refine jJ x24 (by rfl) (hb.pur 24 1 (by decide)) ?_;simp only [y24,jm,Qai,Qaj,Qag,Qah];unfold z24;try dsimp only [oo,oO,ot,oT,os,og,oh,oc,on,oN,oP]
 unfold wU;by_cases h1:(zG l).2.1≠0
 ·have h1':¬ ((zG l).2.1:Int)=0:=by omega
  rw [if_pos h1];have e:zn (zG l).2=[.int .i64 ((zG l).2.1:Int),.int .i64 ((zG l).2.2.1:Int),.int .i64 ((zG l).2.2.2:Int)]:=rfl;rw [e] at hS;repeat' (first | (apply jc <;> intro _) | simp (disch:=first | exact dzG | fail) only [hS,h1',Yf,Qm,wO,jd,jo,jQ,jn,jf,qp,qm,jt,ju,jx,jy,jv,rzZ,Qab,Qac,Qad,Qaa,Qae])
  exact uz rfl rfl rfl
 rw [if_neg h1];have h1z:(zG l).2.1=0:=by simpa using h1
 have O:=jcc h1z;have e0:(zG l).2=(0,0,0):=by
  unfold zG at h1z ⊢;by_cases c:(qi l).2.1≠0
  ·rw [if_pos c] at h1z; exact absurd h1z c
  ·rw [if_neg c] at h1z ⊢;cases hr:YA (qi l).1 (qi l).1.length 0 Wq with
   | er t=>rw [hr] at h1z; exact absurd h1z (λh=>by cases h)
   | ok m j=>rfl
 rw [e0] at hS;have e0':zn (0,0,0)=[.int .i64 0,.int .i64 0,.int .i64 0]:=rfl;rw [e0'] at hS;have hM:=jkC hb (zG l).1 O;unfold Vg at hM;cases hm:Jy (zG l).1 with
 | er a b c=>
  have ha:¬ a=0:=kB hm;rw [hm] at hM;unfold fcl at hM;repeat' (first | (apply jc <;> intro _) | simp (disch:=first | exact dzG | fail) only [hS,hM,ha,Yf,Qm,wO,jd,jo,jQ,jn,jf,qp,qm,jt,ju,jx,jy,jv,rzZ,Qab,Qac,Qad,Qaa,Qae])
  exact uz rfl rfl rfl
 | ok m=>
  rw [hm] at hM;unfold fcl at hM;dsimp only at hM ⊢;have V:=jjx O hm;by_cases h2:(yu f).2.1≠0
  ·have h2':¬ ((yu f).2.1:Int)=0:=by omega
   rw [if_pos h2];have e:zn (yu f).2=[.int .i64 ((yu f).2.1:Int),.int .i64 ((yu f).2.2.1:Int),.int .i64 ((yu f).2.2.2:Int)]:=rfl;rw [e] at hX;repeat' (first | (apply jc <;> intro _) | simp (disch:=first | exact dzG | fail) only [hS,hM,hX,h2',Yf,Qm,wO,jd,jo,jQ,jn,jf,qp,qm,jt,ju,jx,jy,jv,rzZ,Qab,Qac,Qad,Qaa,Qae])
   exact uz rfl rfl rfl
  rw [if_neg h2];have h2z:(yu f).2.1=0:=by simpa using h2
  have OX:=jir h2z;have e2:(yu f).2=(0,0,0):=by
   unfold yu at h2z ⊢;by_cases c:(qi f).2.1≠0
   ·rw [if_pos c] at h2z; exact absurd h2z c
   ·rw [if_neg c] at h2z ⊢;cases hr:yI (qi f).1 0 with
    | er t=>rw [hr] at h2z; exact absurd h2z (λh=>by cases h)
    | ok x j=>
     rw [hr] at h2z;dsimp only at h2z ⊢;by_cases k5:(tk (qi f).1 j).kind=5
     ·rw [if_pos k5]
     ·rw [if_neg k5] at h2z; exact absurd h2z (λh=>by cases h)
  rw [e2,e0'] at hX;have hF:=Gk hb m.1 V (yu f).1 OX;unfold uA at hF;cases hr:qE m.1.vars m.1.enums true (yu f).1 2 [] with
  | er a b c=>
   have ha:¬ a=0:=QQ hr;rw [hr] at hF;unfold fcl at hF;repeat' (first | (apply jc <;> intro _) | simp (disch:=first | exact dzG | fail) only [hS,hM,hX,hF,ha,Yf,Qm,wO,jd,jo,jQ,jn,jf,qp,qm,jt,ju,jx,jy,jv,rzZ,Qab,Qac,Qad,Qaa,Qae])
   exact uz rfl rfl rfl
  | ok y=>
   rw [hr] at hF;unfold fcl at hF
   (have zz:=aI @Qo @jjz; (repeat' (first | (apply jc <;> intro _) | simp (disch:=first | exact qq | fail) only [hS,hM,hX,hF,Yf,Qm,jqp,wO,Qo,jjz,jd,jo,jQ,jn,jf,qp,qm,jt,ju,jx,jy,jv,rzZ,Qab,Qac,Qad,Qaa,Qae])); (all_goals (clear zz)))
   exact jhL rfl rfl rfl
end Go.Sy
end
noncomputable section
set_option maxRecDepth 100000
namespace Go.Sy
open Go.Ev Go.Proofs
def zL6:XC:=(.seq (.ops [(oO 2 (.box (.t 0))),(oO 3 (.box (.t 1))),(oO 4 (.mv (.c (.bool false))))]) (.seq (.seq (.ops [(oc 17 21 []),(oO 18 (.un .not (.t 17)))]) (.cond (.t 18) (.seq (.ops [(oO 4 (.mv (.c (.bool false))))]) .ret) .skip)) (.seq (.seq (.ops [(oo 19 (.ldA 6 (.t 3))),(oc 20 12 [(.t 19)]),(oo 21 (.un .not (.t 20))),(ot 22 21),(oh 23 22 (.ldA 6 (.t 3))),⟨(some 24),false,(some (22,false)),(.call (.c (.fn 14 [])) [(.t 23)])⟩,(oh 25 22 (.bin .gtr (.t 24) (.c (.int .i64 15)))),(oO 26 (.pick (.t 22) (.c (.bool true)) (.t 25)))]) (.cond (.t 26) (.seq (.ops [(oO 4 (.mv (.c (.bool true))))]) .ret) .skip)) (.seq (.ops [(oo 28 (.ldA 3 (.t 2))),(oc 29 18 [(.t 28)]),(ot 27 29),(oo 30 (.ext (.t 27) 0)),(oo 31 (.ext (.t 27) 1)),(oT 5 30),(oT 6 31)]) (.seq (.seq (.ops [(ot 32 6),(oo 33 (.bin .neq (.t 32) (.c (.int .i64 0)))),(ot 34 33),(oh 35 34 (.mv (.t 5))),(oh 36 34 (.lenS (.t 35))),(oh 37 34 (.bin .gtr (.t 36) (.c (.int .i64 5000)))),(oO 38 (.pick (.t 34) (.c (.bool true)) (.t 37)))]) (.cond (.t 38) (.seq (.ops [(oO 4 (.mv (.c (.bool true))))]) .ret) .skip)) (.seq (.ops [(ot 40 5),(oc 41 24 [(.t 40),(.c (.str [116,114,117,101]))]),(ot 39 41),(oo 42 (.ext (.t 39) 0)),(oo 43 (.ext (.t 39) 1)),(oo 44 (.ext (.t 39) 2)),(oO 7 (.alloc [.nils,.nils,.nils])),(oo 8 (.alloc [(.int .i64 0),(.int .i64 0),(.str []),.nils,(.int .i64 0),(.int .i64 0)])),(oO 9 (.alloc [(.int .i64 0),(.int .i64 0),(.int .i64 0)])),(os (.st 3 (.t 7) (.t 42))),(os (.st 6 (.t 8) (.t 43))),(os (.st 3 (.t 9) (.t 44)))]) (.seq (.seq (.ops [(oo 45 (.ldA 3 (.t 9))),(oo 46 (.build [(.int .i64 0),(.int .i64 0),(.int .i64 0)] [])),(oO 47 (.gen .neq 30 false (.t 45) (.t 46)))]) (.cond (.t 47) (.seq (.ops [(oO 4 (.mv (.c (.bool true))))]) .ret) .skip)) (.seq (.ops [(oo 49 (.ldA 3 (.t 7))),(oo 50 (.ldA 6 (.t 3))),(oc 51 25 [(.t 49),(.t 50)]),(ot 48 51),(oo 52 (.ext (.t 48) 0)),(oo 53 (.ext (.t 48) 1)),(oO 10 (.alloc [(.int .i64 0),(.int .i64 0),(.str []),.nils,(.int .i64 0),(.int .i64 0)])),(oO 11 (.alloc [(.int .i64 0),(.int .i64 0),(.int .i64 0)])),(os (.st 6 (.t 10) (.t 52))),(os (.st 3 (.t 11) (.t 53)))]) (.seq (.ops [(oo 55 (.ldA 3 (.t 7))),(oo 56 (.ldA 6 (.t 3))),(oo 57 (.buildS 1 6 [(.int .i64 0),(.int .i64 0),(.str []),.nils,(.int .i64 0),(.int .i64 0)] [((0,6),(.t 56))])),(oo 58 (.build [(.int .i64 0),(.int .i64 0),(.str []),.nils,(.int .i64 0),(.int .i64 0)] [((0,1),(.c (.int .i64 6))),((3,1),(.t 57)),((4,1),(.c (.int .i64 7))),((5,1),(.c (.int .i64 7)))])),(oc 59 25 [(.t 55),(.t 58)]),(ot 54 59),(oo 60 (.ext (.t 54) 0)),(oo 61 (.ext (.t 54) 1)),(oO 12 (.alloc [(.int .i64 0),(.int .i64 0),(.str []),.nils,(.int .i64 0),(.int .i64 0)])),(oO 13 (.alloc [(.int .i64 0),(.int .i64 0),(.int .i64 0)])),(os (.st 6 (.t 12) (.t 60))),(os (.st 3 (.t 13) (.t 61)))]) (.seq (.ops [(oo 63 (.ldA 3 (.t 7))),(oo 64 (.ldA 6 (.t 3))),(oo 65 (.ldA 6 (.t 3))),(oo 66 (.buildS 2 6 [(.int .i64 0),(.int .i64 0),(.str []),.nils,(.int .i64 0),(.int .i64 0)] [((0,6),(.t 64)),((6,6),(.t 65))])),(oo 67 (.build [(.int .i64 0),(.int .i64 0),(.str []),.nils,(.int .i64 0),(.int .i64 0)] [((0,1),(.c (.int .i64 23))),((3,1),(.t 66)),((4,1),(.c (.int .i64 7))),((5,1),(.c (.int .i64 7)))])),(oc 68 25 [(.t 63),(.t 67)]),(ot 62 68),(oo 69 (.ext (.t 62) 0)),(oo 70 (.ext (.t 62) 1)),(oO 14 (.alloc [(.int .i64 0),(.int .i64 0),(.str []),.nils,(.int .i64 0),(.int .i64 0)])),(oO 15 (.alloc [(.int .i64 0),(.int .i64 0),(.int .i64 0)])),(os (.st 6 (.t 14) (.t 69))),(os (.st 3 (.t 15) (.t 70)))]) (.seq (.seq (.ops [(oo 71 (.ldA 3 (.t 11))),(oo 72 (.build [(.int .i64 0),(.int .i64 0),(.int .i64 0)] [])),(oO 73 (.gen .eql 30 false (.t 71) (.t 72)))]) (.cond (.t 73) (.seq (.cops [((oo 74 (.ldA 3 (.t 13))),none),((oo 75 (.ldA 3 (.t 11))),none),((oo 76 (.gen .eql 30 false (.t 74) (.t 75))),none),((ot 77 76),none),((og 78 77 (.ldA 3 (.t 15))),none),((og 79 77 (.ldA 3 (.t 11))),none),((og 80 77 (.gen .eql 30 false (.t 78) (.t 79))),none),((oo 81 (.pick (.t 77) (.t 80) (.c (.bool false)))),none),((ot 82 81),none),((og 83 82 (.fad 3 (.t 12))),none),((og 84 82 (.ld1 (.t 83))),none),((og 85 82 (.idxS 6 (.t 84) (.c (.int .i64 0)))),none),((og 86 82 (.ldA 6 (.t 85))),none),((og 87 82 (.ldA 6 (.t 10))),none),(⟨(some 88),false,(some (82,true)),(.call (.c (.fn 17 [])) [(.t 86),(.t 87)])⟩,(some [])),((oo 89 (.pick (.t 82) (.t 88) (.c (.bool false)))),none),((ot 90 89),none),((og 91 90 (.fad 3 (.t 14))),none),((og 92 90 (.ld1 (.t 91))),none),((og 93 90 (.idxS 6 (.t 92) (.c (.int .i64 1)))),none),((og 94 90 (.ldA 6 (.t 93))),none),((og 95 90 (.ldA 6 (.t 10))),none),(⟨(some 96),false,(some (90,true)),(.call (.c (.fn 17 [])) [(.t 94),(.t 95)])⟩,(some [])),((oo 97 (.pick (.t 90) (.t 96) (.c (.bool false)))),none),((oT 4 97),none)]) .ret) .skip)) (.seq (.ops [(oo 98 (.build [(.int .i64 0),(.int .i64 0),(.int .i64 0)] [((0,1),(.c (.int .i64 163))),((1,1),(.c (.int .i64 7))),((2,1),(.c (.int .i64 7)))])),(oO 16 (.alloc [(.int .i64 0),(.int .i64 0),(.int .i64 0)])),(os (.st 3 (.t 16) (.t 98)))]) (.seq (.ops [(oo 99 (.ldA 3 (.t 13))),(oo 100 (.build [(.int .i64 0),(.int .i64 0),(.int .i64 0)] [])),(oo 101 (.gen .neq 30 false (.t 99) (.t 100))),(ot 102 101),(og 103 102 (.ldA 3 (.t 15))),(og 104 102 (.build [(.int .i64 0),(.int .i64 0),(.int .i64 0)] [])),(og 105 102 (.gen .neq 30 false (.t 103) (.t 104))),(oo 106 (.pick (.t 102) (.t 105) (.c (.bool false)))),(ot 107 106),(og 108 107 (.ldA 3 (.t 13))),(og 109 107 (.ldA 3 (.t 11))),(og 110 107 (.gen .eql 30 false (.t 108) (.t 109))),(og 111 107 (.mv (.t 110))),(og 112 111 (.ldA 3 (.t 15))),(og 113 111 (.ldA 3 (.t 11))),(og 114 111 (.gen .eql 30 false (.t 112) (.t 113))),(og 115 107 (.pick (.t 111) (.t 114) (.c (.bool false)))),(og 116 107 (.mv (.t 115))),(oh 117 116 (.fad 0 (.t 11))),(oh 118 116 (.ld1 (.t 117))),(oh 119 116 (.bin .eql (.t 118) (.c (.int .i64 163)))),(oh 120 116 (.mv (.t 119))),(og 121 120 (.ldA 3 (.t 13))),(og 122 120 (.ldA 3 (.t 16))),(og 123 120 (.gen .eql 30 false (.t 121) (.t 122))),(oh 124 116 (.pick (.t 120) (.t 123) (.c (.bool false)))),(oh 125 116 (.mv (.t 124))),(og 126 125 (.ldA 3 (.t 15))),(og 127 125 (.ldA 3 (.t 16))),(og 128 125 (.gen .eql 30 false (.t 126) (.t 127))),(oh 129 116 (.pick (.t 125) (.t 128) (.c (.bool false)))),(og 130 107 (.pick (.t 116) (.c (.bool true)) (.t 129))),(oo 131 (.pick (.t 107) (.t 130) (.c (.bool false)))),(oT 4 131)]) .ret)))))))))))))
def yL6:XF:=⟨[0,1],zL6,[(.t 4)]⟩
theorem xL6:jD Qaf 6=some yL6:=by kernel_rfl
end Go.Sy
end
noncomputable section
set_option maxRecDepth 100000
namespace Go.Sy
open Go.Ev Go.Proofs
variable {base:Bs}
theorem jn5 (a b c d e f:Int):(eqF Qaf 20 30).run (.agg [.int .i64 a,.int .i64 b,.int .i64 c]) (.agg [.int .i64 d,.int .i64 e,.int .i64 f])=some (decide (a=d∧b=e∧c=f)):=by
 have h:(eqF Qaf 20 30).run (.agg [.int .i64 a,.int .i64 b,.int .i64 c]) (.agg [.int .i64 d,.int .i64 e,.int .i64 f])=cond (eqI a d) (cond (eqI b e) (cond (eqI c f) (some true) (some false)) (some false)) (some false):=by kernel_rfl
 rw [h,Xi,Xi,Xi];by_cases h1:a=d <;> by_cases h2:b=e <;> by_cases h3:c=f <;> simp [h1,h2,h3]
theorem fEq (a b c d e f:Int)(st:St)(K:AV->St->Prop):jk (XJ Qaf .eql 30 false (.agg [.int .i64 a,.int .i64 b,.int .i64 c]) (.agg [.int .i64 d,.int .i64 e,.int .i64 f]) st) K=K (.bool (decide (a=d∧b=e∧c=f))) st:=by
 have h:XJ Qaf .eql 30 false (.agg [.int .i64 a,.int .i64 b,.int .i64 c]) (.agg [.int .i64 d,.int .i64 e,.int .i64 f]) st=jR ((eqF Qaf 20 30).run (.agg [.int .i64 a,.int .i64 b,.int .i64 c]) (.agg [.int .i64 d,.int .i64 e,.int .i64 f])) λb=>.ok (.bool b) st:=by kernel_rfl
 rw [h,jn5];simp [jR,jk]
theorem fNe (a b c d e f:Int)(st:St)(K:AV->St->Prop):jk (XJ Qaf .neq 30 false (.agg [.int .i64 a,.int .i64 b,.int .i64 c]) (.agg [.int .i64 d,.int .i64 e,.int .i64 f]) st) K=K (.bool (decide (¬ (a=d∧b=e∧c=f)))) st:=by
 have h:XJ Qaf .neq 30 false (.agg [.int .i64 a,.int .i64 b,.int .i64 c]) (.agg [.int .i64 d,.int .i64 e,.int .i64 f]) st=jR ((eqF Qaf 20 30).run (.agg [.int .i64 a,.int .i64 b,.int .i64 c]) (.agg [.int .i64 d,.int .i64 e,.int .i64 f])) λb=>.ok (.bool (cond b false true)) st:=by kernel_rfl
 rw [h,jn5];by_cases hh:a=d∧b=e∧c=f <;> simp [hh,jR,jk]
theorem jpq {st:St}{b n m:Nat}{y:Bool}{ks:List Ex}(C:Cl st b (fl eE ks))(hn:n=ks.length)(o:Int)(d:Nat):fz (d+5) st.h (.agg [.int .i64 o,.int .i64 0,.str [],.slice b 0 n m 6 y,.int .i64 7,.int .i64 7])=some (.agg (eE (.mk o 0 [] ks 7 7)),[b]):=by
 subst hn;have e:=jcG (d:=d+2) (m:=m) (x:=y) (z:=6) (n:=ks.length) C (zU zJ ks).symm (zg qQ ks);show (fzs (fz (d+4) st.h) [.int .i64 o,.int .i64 0,.str [],.slice b 0 ks.length m 6 y,.int .i64 7,.int .i64 7]).map (λp=>(AV.agg p.1,p.2))=_;have e1:∀ (k:IntKind) (i:Int),fz (d+4) st.h (.int k i)=some (.int k i,[]):=λk i=>rfl;have e2:∀ (s:List Nat),fz (d+4) st.h (.str s)=some (.str s,[]):=λs=>rfl;simp only [fzs,e1,e2,e];rw [qv];rfl
theorem Gm (hb:NB base)(m:ModT)(V:VarsOK m.vars m.enums)(ks:List Ex)(o:Int)(hx:OkE (.mk o 0 [] ks 7 7)){st:St}{b n k:Nat}{y:Bool}(C:Cl st b (fl eE ks))(hn:n=ks.length)(K Kp:AV->St->Prop) :
  XB Qaf base 25 [.agg (mdE m),.agg [.int .i64 o,.int .i64 0,.str [],.slice b 0 n k 6 y,.int .i64 7,.int .i64 7]] st K Kp=K (uA (qE m.vars m.enums true (.mk o 0 [] ks 7 7) 2 [])) (kl b st):=by
 have F:Fza st [.agg (mdE m),.agg [.int .i64 o,.int .i64 0,.str [],.slice b 0 n k 6 y,.int .i64 7,.int .i64 7]] [.agg (mdE m),.agg (eE (.mk o 0 [] ks 7 7))] [b]:=by
  refine Fza.pa (by first | rfl | simp [pa,pc,qQ,J9,wT,Jr,zP,U9,US,Xk,YT,Y0,Y2,Yl]) ?_;show fzs (fz 9 st.h) _=_;simp only [fzs,jpq C hn o 4];rfl
 exact (Gn hb m V _ hx).xf F (λst=>hb.no 25 (by decide) _ _) K Kp
end Go.Sy
end
noncomputable section
set_option maxRecDepth 100000
namespace Go.Sy
open Go.Ev Go.Proofs
variable {base:Bs}
def Qf (vars:List VarT):Prop:=∀ v∈vars,v.kind=2->v.enum=[]
theorem jdN {enums:List EnumT}{d:DeclT}{v:VarT}(h:uS enums d=.ok v):v.kind=2->v.enum=[]:=by
 unfold uS at h;split at h
 ·cases h; exact λ_=>rfl
 ·split at h
  ·cases h; intro h; cases h
  ·split at h
   ·cases h
   ·split at h
    ·cases h
    ·split at h
     ·cases h
     ·cases h; intro h; cases h
theorem jej {m:ModT}{ts:List (List Nat)}{d:DeclT}{b:MT}(hm:Qf m.vars)(h:Y7 m ts d=.ok b):Qf b.1.vars:=by
 unfold Y7 at h;split at h
 ·cases h
 ·split at h
  ·cases h
  ·rename_i v hk;unfold vr at h;split at h
   ·cases h
   ·rename_i u hu;unfold KU at h;split at h
    ·cases h
    ·cases h;have hb:=gu hu;intro w hw;rcases Qbk.1 hw with hw | hw
     ·exact hm w hw
     ·simp only [QbN] at hw;rw [hw,hb.2.2.1,hb.2.2.2.1];exact jdN hk
theorem jkG {src:SrcT}{m:MT}(h:Jy src=.ok m):Qf m.1.vars:=by
 unfold Jy at h;split at h
 ·cases h
 ·rename_i b h1;have hb:Qf b.1.vars:=JX (n:=0) (P:=λ_ (c:MT)=>Qf c.1.vars) (λk c x c' _ hc hr=>by rw [Ut hr]; exact hc) (λv hv=>by cases hv) h1;split at h
  ·cases h
  ·rename_i c h2;have hc:Qf c.1.vars:=JX (n:=0) (P:=λ_ (c:MT)=>Qf c.1.vars) (λk c x c' _ hc hr=>jej hc hr) hb h2;exact JX (n:=0) (P:=λ_ (c:MT)=>Qf c.1.vars) (λk c x c' _ hc hr=>by rw [(jar hr).1]; exact hc) hc h
theorem jdO {vars:List VarT}{enums:List EnumT}(hv:Qf vars)(fm:Bool)(x y:Ex)(m:MtT)(h:qN vars enums fm x=.ok (y,m)):m.kind=2->m.enum=[]:=by
 rw [wt] at h;split at h
 ·cases h; intro h; cases h
 ·split at h
  ·cases h; exact λ_=>rfl
  ·split at h
   ·unfold zm at h;split at h
    ·cases h;have hlt:qj vars x.name<(vars.length:Int):=w9;have hi2:(qj vars x.name).toNat<vars.length:=by omega
     refine hv _ ?_;rw [QaC,Qav hi2]; exact Qax hi2
    ·split at h
     ·cases h
     ·cases h; intro h; cases h
   ·split at h
    ·cases h
    ·unfold zH at h;split at h
     ·cases h
     ·split at h
      ·cases h; exact λ_=>rfl
      ·split at h
       ·cases h
       ·cases h; exact λ_=>rfl
mutual
theorem jaR {vars:List VarT}{enums:List EnumT}:∀ (fm:Bool) (x y:Ex) (m:MtT),qN vars enums fm x=.ok (y,m)->szE y≤szE x
 | fm,.mk op num name ks l c,y,m,h=>by
  rw [qN] at h;split at h
  ·cases h; exact Qap _
  ·split at h
   ·cases h; exact Qap _
   ·split at h
    ·have hs:∀ o n l c,szE (.mk o n [] [] l c)≤szE (.mk op num name ks l c):=λo n l c=>by rw [Qu,Qu]; simp [yp]
     unfold zm at h;split at h
     ·cases h; exact hs _ _ _ _
     ·split at h
      ·cases h
      ·cases h; exact hs _ _ _ _
    ·split at h
     ·cases h
     ·rename_i r hr;have h2:=Gd _ _ r.1 r.2 hr;have e:∀ l' c',szE (.mk op num name r.1 l' c')≤szE (.mk op num name ks l c):=λl' c'=>by rw [Qu,Qu]; omega
      unfold zH at h;split at h
      ·cases h
      ·split at h
       ·cases h; exact e _ _
       ·split at h
        ·cases h
        ·cases h; exact e _ _
theorem Gd {vars:List VarT}{enums:List EnumT}:∀ (fm:Bool) (xs ys:List Ex) (ms:List MtT),qh vars enums fm xs=.ok (ys,ms)->yp ys≤yp xs
 | fm,[],ys,ms,h=>by rw [qh] at h; cases h; exact Qap _
 | fm,x :: xs,ys,ms,h=>by
  rw [qh] at h;cases hx:qN vars enums fm x with
  | er a b d=>rw [hx] at h; cases h
  | ok y=>
   rw [hx] at h;cases hr:qh vars enums fm xs with
   | er a b d=>rw [hr] at h; cases h
   | ok r=>
    rw [hr] at h;cases h;have h1:=jaR fm x y.1 y.2 hx;have h2:=Gd fm xs r.1 r.2 hr;simp only [yp];omega
end
mutual
theorem U2:∀ x:Ex,ZA x x=true
 | .mk op num name ks l c=>by
  have:=VX ks;simp [ZA,Ex.op,Ex.num,Ex.name,Ex.kids,this]
theorem VX:∀ xs:List Ex,vU xs xs=true
 | []=>rfl
 | x :: xs=>by rw [vU,U2 x,VX xs]; rfl
end
theorem jeM {vars:List VarT}{enums:List EnumT}(hv:Qf vars)(x:Ex) :
  (∃ a b c,qE vars enums true x 2 []=.er a b c∧qE vars enums true (.mk 6 0 [] [x] 7 7) 2 []=.er a b c∧qE vars enums true (.mk 23 0 [] [x,x] 7 7) 2 []=.er a b c) ∨
  (∃ y,szE y≤szE x∧qE vars enums true x 2 []=.ok y∧qE vars enums true (.mk 6 0 [] [x] 7 7) 2 []=.ok (.mk 6 0 [] [y] 7 7)∧qE vars enums true (.mk 23 0 [] [x,x] 7 7) 2 []=.ok (.mk 23 0 [] [y,y] 7 7)) ∨
  (qE vars enums true x 2 []=.er 163 x.line x.col∧qE vars enums true (.mk 6 0 [] [x] 7 7) 2 []=.er 163 7 7∧qE vars enums true (.mk 23 0 [] [x,x] 7 7) 2 []=.er 163 7 7):=by
 have e6:qN vars enums true (.mk 6 0 [] [x] 7 7)=match qN vars enums true x with
   | .er a b d=>.er a b d
   | .ok y=>zH true 6 0 [] 7 7 [y.1] [y.2]:=by
  rw [qN,if_neg (by decide),if_neg (by decide),if_neg (by decide)];show (match qh vars enums true [x] with | .er a b d=>KR.er a b d | .ok r=>zH true 6 0 [] 7 7 r.1 r.2)=_;simp only [qh];cases qN vars enums true x <;> rfl
 have e23:qN vars enums true (.mk 23 0 [] [x,x] 7 7)=match qN vars enums true x with
   | .er a b d=>.er a b d
   | .ok y=>zH true 23 0 [] 7 7 [y.1,y.1] [y.2,y.2]:=by
  rw [qN,if_neg (by decide),if_neg (by decide),if_neg (by decide)];show (match qh vars enums true [x,x] with | .er a b d=>KR.er a b d | .ok r=>zH true 23 0 [] 7 7 r.1 r.2)=_;simp only [qh];cases qN vars enums true x <;> rfl
 unfold qE;rw [e6,e23];cases hx:qN vars enums true x with
 | er a b c=>exact .inl ⟨a,b,c,rfl,rfl,rfl⟩
 | ok y=>
  obtain ⟨y,m⟩:=y;dsimp only;by_cases hk:m.kind=2
  ·have he:=jdO hv true x y m hx hk;have b6:zH true 6 0 [] 7 7 [y] [m]=.ok (.mk 6 0 [] [y] 7 7,⟨2,[],0,1⟩):=by
    unfold zH;rw [if_neg (by simp [W7,qW,Yc,hk,he])];rfl
   have b23:zH true 23 0 [] 7 7 [y,y] [m,m]=.ok (.mk 23 0 [] [y,y] 7 7,⟨2,[],0,1⟩):=by
    unfold zH;rw [if_neg (by simp [W7,qW,Yc,hk,he])];rfl
   refine .inr (.inl ⟨y,jaR true x y m hx,?_,?_,?_⟩)
   ·rw [if_neg (by simp [hk,he])]
   ·rw [b6]; rfl
   ·rw [b23]; rfl
  ·have b6:zH true 6 0 [] 7 7 [y] [m]=.er 163 7 7:=by
    unfold zH;rw [if_pos (by simp [W7,qW,Yc,hk])]
   have b23:zH true 23 0 [] 7 7 [y,y] [m,m]=.er 163 7 7:=by
    unfold zH;rw [if_pos (by simp [W7,qW,Yc,hk])]
   exact .inr (.inr ⟨by rw [if_pos (.inl hk)],by rw [b6],by rw [b23]⟩)
end Go.Sy
end
noncomputable section
set_option maxRecDepth 100000
namespace Go.Sy
open Go.Ev Go.Proofs
variable {base:Bs}
theorem XQ {α:Type}{f:α->Nat}:∀ {l:List α} {x:α},x∈l->f x≤(l.map f).sum
 | y :: l,x,h=>by
  rw [Qai,List.sum_cons];rcases Qbt.1 h with rfl | h
  ·omega
  ·have:=XQ (f:=f) h; omega
theorem XR {α:Type}{f:α->Nat}(hf:∀ x,1≤f x):∀ l:List α,l.length≤(l.map f).sum
 | []=>QaM _
 | y :: l=>by
  rw [Qai,List.sum_cons,Qak];have:=XR hf l;have:=hf y;omega
theorem jhM {xs:List Ex}{x:Ex}(h:x∈xs):szE x≤yp xs:=by rw [←JC]; exact XQ h
theorem jkh (xs:List Ex):xs.length≤yp xs:=by rw [←JC]; exact XR KI xs
theorem jmK {m:SrcT}(h:szS m≤1048576):WrS m:=by
 unfold szS at h;have hB:(1048576:Nat)≤BIG:=by decide
 have l1:=XR (f:=szN) (λe=>by unfold szN; omega) m.enums;have l2:=XR (f:=szD) (λe=>by unfold szD; omega) m.vars;have l3:=XR (f:=szP) (λe=>by unfold szP; omega) m.procs;refine ⟨by omega,λe he=>?_,by omega,λd hd=>?_,by omega,λp hp=>?_⟩
 ·have h0:=XQ (f:=szN) he;have e0:szN e=e.name.length+(e.vals.map szV).sum+1:=rfl;have lv:=XR (f:=szV) (λe=>by unfold szV; omega) e.vals;refine ⟨by omega,by omega,λv hv=>?_⟩;have h1:=XQ (f:=szV) hv;have e1:szV v=v.length+1:=rfl;omega
 ·have h0:=XQ (f:=szD) hd;have e0:szD d=d.name.length+d.ty.length+yp d.begins+1:=rfl;have:=jkh d.begins;refine ⟨by omega,by omega,by omega,λx hx=>?_⟩;have:=jhM hx;omega
 ·have h0:=XQ (f:=szP) hp;have e0:szP p=p.name.length+(p.rules.map szR).sum+1:=rfl;have lr:=XR (f:=szR) (λe=>by unfold szR; omega) p.rules;refine ⟨by omega,by omega,λr hr=>?_⟩;have h1:=XQ (f:=szR) hr;have e1:szR r=szE r.when+(r.acts.map szA).sum+1:=rfl;have la:=XR (f:=szA) (λe=>by unfold szA; omega) r.acts;refine ⟨by omega,by omega,λa ha=>?_⟩;have h2:=XQ (f:=szA) ha;have e2:szA a=a.name.length+szE a.to+1:=rfl;omega
section
variable {st:St} {K:AV->St->Prop}
theorem GW (a b c:AV):jk (ga 0 (.tup [a,b,c]) st) K=K a st:=nr rfl
theorem GV (a b c:AV):jk (ga 1 (.tup [a,b,c]) st) K=K b st:=nr rfl
theorem GU (a b c:AV):jk (ga 2 (.tup [a,b,c]) st) K=K c st:=nr rfl
end
theorem jhZ {l f:List Nat}(h:(wU l f).c=0):VarsOK (wU l f).m.vars (wU l f).m.enums∧Qf (wU l f).m.vars:=by
 unfold wU at h ⊢;by_cases h1:(zG l).2.1≠0
 ·rw [if_pos h1] at h;exact absurd (show ((zG l).2.1:Int)=0 from h) (by omega)
 ·rw [if_neg h1] at h ⊢;have O:=jcc (l:=l) (by simpa using h1);cases hm:Jy (zG l).1 with
  | er a b c=>
   rw [hm] at h;exact absurd h (kB hm)
  | ok m=>
   rw [hm] at h;dsimp only at h ⊢;by_cases h2:(yu f).2.1≠0
   ·rw [if_pos h2] at h;exact absurd (show ((yu f).2.1:Int)=0 from h) (by omega)
   ·rw [if_neg h2] at h ⊢;cases hr:qE m.1.vars m.1.enums true (yu f).1 2 [] with
    | er a b c=>
     rw [hr] at h;exact absurd h (QQ hr)
    | ok y=>exact ⟨jjx O hm,jkG hm⟩
theorem jpk {o:Int}(ho:o≠1){x:Ex}(h:OkE x):OkE (.mk o 0 [] [x] 7 7):=by
 refine ⟨?_,?_⟩
 ·simp [Jp,zT,h.1]
 ·simp [Xo,Jj,h.2,ho]
theorem jpj {o:Int}(ho:o≠1){x:Ex}(h:OkE x):OkE (.mk o 0 [] [x,x] 7 7):=by
 refine ⟨?_,?_⟩
 ·simp [Jp,zT,h.1]
 ·simp [Xo,Jj,h.2,ho]
set_option maxHeartbeats 8000000 in
theorem law6_ok (hb:NB base)(h21:∀ st,base.run 21 [] st=.ok (.bool true) st)(hP:PI base)(m:SrcT)(x:Ex)(hm:szS m≤1048576)(hx:szE x≤1048576):XB Qaf base 6 [.agg (srE m),.agg (eE x)] st0 (λv _=>v=.bool true) λ_ _=>False:=by
 have hB:(1048576:Nat)≤BIG:=by decide
 have E21:=λ(st:St) (K Kp:AV->St->Prop)=>Kx (P:=Qaf) (base:=base) (h21 st) K Kp;have E12:=ZU hb x (by omega);have E14:=jhg hb x (by omega);have E18:=jhb hb m (jmK hm);refine Jc xL6 (by rfl) (hb.at0 6 (by decide) (by decide) _ _) ?_;simp only [yL6,jm,Qai,Qaj,Qag,Qah];unfold zL6;try dsimp only [oo,oO,ot,oT,os,og,oh,oc,on,oN,oP]
 by_cases c1:yQ x=true
 ·by_cases c2:15<Y6 x
  ·repeat' (first | (apply jc <;> intro _) | simp (disch:=first | exact dzG | fail) only [E21,E12,E14,c1,c2,jd,jo,jQ,jn,jf,qp,qm,jt,ju,jx,jy,jv,rzZ,Qab,Qac,Qad,Qaa,Qae])
  ·unfold jdm at E18;cases hs:Q6 m with
   | none=>
    rw [hs] at E18;have e18:(if (none:Option (List Nat)).isSome=true then (0:Int) else 141)=141:=rfl;rw [e18] at E18;repeat' (first | (apply jc <;> intro _) | simp (disch:=first | exact dzG | fail) only [E21,E12,E14,c1,c2,E18,jd,jo,jQ,jn,jf,qp,qm,jt,ju,jx,jy,jv,rzZ,Qab,Qac,Qad,Qaa,Qae])
   | some t=>
    rw [hs] at E18;have e18:(if (some t).isSome=true then (0:Int) else 141)=0:=rfl;have e18':(some t).getD []=t:=rfl;rw [e18,e18'] at E18;by_cases c3:5000<t.length
    ·repeat' (first | (apply jc <;> intro _) | simp (disch:=first | exact dzG | fail) only [E21,E12,E14,c1,c2,E18,c3,jd,jo,jQ,jn,jf,qp,qm,jt,ju,jx,jy,jv,rzZ,Qab,Qac,Qad,Qaa,Qae])
    ·have E24:=joG hb hP t [116,114,117,101] (by omega) (by decide);unfold UP fcl at E24;generalize hr:wU t [116,114,117,101]=r at E24;by_cases c4:r.c=0∧r.l=0∧r.k=0
     ·obtain ⟨d1,d2,d3⟩:=c4;have hv:VarsOK r.m.vars r.m.enums∧Qf r.m.vars:=by rw [←hr]; exact jhZ (by rw [hr]; exact d1)
      have hx1:OkE x:=Ug 60 x (by unfold yQ at c1; rw [Qar] at c1; exact c1.1);have F1:=Gk hb r.m hv.1 x hx1;have F2:=λst b k y (C:Cl st b (eE x)) K Kp=>@Gm base hb r.m hv.1 [x] 6 (jpk (by decide) hx1) st b 1 k y (by rw [Jl]; exact C) rfl K Kp;have F3:=λs b k y (e:b=s.nx) K Kp=>@Gm base hb r.m hv.1 [x,x] 23 (jpj (by decide) hx1) (Go.Sy.nw s (eE x ++ eE x)) b 2 k y (by rw [Qj,Jl,e]; exact Cl.new s _) rfl K Kp;have B1:∀ a b c,qE r.m.vars r.m.enums true x 2 []=.er a b c->Bad a:=λa b c h=>QQ h;have L:=jeM hv.2 (enums:=r.m.enums) x;generalize qE r.m.vars r.m.enums true x 2 []=g1 at *;generalize qE r.m.vars r.m.enums true (.mk 6 0 [] [x] 7 7) 2 []=g2 at *;generalize qE r.m.vars r.m.enums true (.mk 23 0 [] [x,x] 7 7) 2 []=g3 at *;have u1:upd [.int .i64 0,.int .i64 0,.str [],.nils,.int .i64 0,.int .i64 0,.int .i64 0,.int .i64 0,.str [],.nils,.int .i64 0,.int .i64 0] 0 (eE x)=[.int .i64 x.op,.int .i64 x.num,.str x.name,.lst x.kids.length (fl eE x.kids),.int .i64 x.line,.int .i64 x.col,.int .i64 0,.int .i64 0,.str [],.nils,.int .i64 0,.int .i64 0]:=by rw [qv]; rfl
      have u2:upd [.int .i64 x.op,.int .i64 x.num,.str x.name,.lst x.kids.length (fl eE x.kids),.int .i64 x.line,.int .i64 x.col,.int .i64 0,.int .i64 0,.str [],.nils,.int .i64 0,.int .i64 0] 6 (eE x)=eE x ++ eE x:=by rw [qv]; rfl
      have u3:=λst K=>@HL st K 2 6 (eE x ++ eE x) (by rw [qv]; rfl);rcases L with ⟨a,b,c,rfl,rfl,rfl⟩ | ⟨y,hy,rfl,rfl,rfl⟩ | ⟨rfl,rfl,rfl⟩
      ·have ha:¬ a=0:=B1 a b c rfl;unfold uA fcl at F1 F2 F3;repeat' (first | (apply jc <;> intro _) | simp (disch:=first | exact dzG | fail) only [E21,E12,E14,c1,c2,E18,c3,E24,fNe,fEq,d1,d2,d3,GW,GV,GU,F1,F2,F3,ha,u1,u2,u3,jd,jo,jQ,jn,jf,qp,qm,jt,ju,jx,jy,jv,rzZ,Qab,Qac,Qad,Qaa,Qae])
       all_goals (rename_i h; exact h.1.elim)
      ·have S1:=joF hb y (by omega) y (by omega);rw [U2] at S1;unfold uA fcl at F1 F2 F3;have k6:(Ex.mk 6 0 [] [y] 7 7).kids=[y]:=rfl;have k23:(Ex.mk 23 0 [] [y,y] 7 7).kids=[y,y]:=rfl;have g6:∀ (st:St) (K:AV->St->Prop),jk (yX 6 (.lptr (fl eE [y]) 0) st) K=K (.agg (eE y)) st:=λst K=>Uu (xs:=[y]) (i:=0) (by simp);have g23:∀ (st:St) (K:AV->St->Prop),jk (yX 6 (.lptr (fl eE [y,y]) 6) st) K=K (.agg (eE y)) st:=λst K=>Uu (xs:=[y,y]) (i:=1) (by simp);repeat' (first | (apply jc <;> intro _) | simp (disch:=first | exact dzG | fail) only [E21,E12,E14,c1,c2,E18,c3,E24,fNe,fEq,d1,d2,d3,GW,GV,GU,F1,F2,F3,S1,u1,u2,u3,k6,k23,g6,g23,jd,jo,jQ,jn,jf,qp,qm,jt,ju,jx,jy,jv,rzZ,Qab,Qac,Qad,Qaa,Qae])
      ·unfold uA fcl at F1 F2 F3;repeat' (first | (apply jc <;> intro _) | simp (disch:=first | exact dzG | fail) only [E21,E12,E14,c1,c2,E18,c3,E24,fNe,fEq,d1,d2,d3,GW,GV,GU,F1,F2,F3,u1,u2,u3,jd,jo,jQ,jn,jf,qp,qm,jt,ju,jx,jy,jv,rzZ,Qab,Qac,Qad,Qaa,Qae])
       all_goals first | rfl | simp
     ·repeat' (first | (apply jc <;> intro _) | simp (disch:=first | exact dzG | fail) only [E21,E12,E14,c1,c2,E18,c3,E24,fNe,c4,GW,GV,GU,jd,jo,jQ,jn,jf,qp,qm,jt,ju,jx,jy,jv,rzZ,Qab,Qac,Qad,Qaa,Qae])
 ·have c1':yQ x=false:=by simpa using c1
  repeat' (first | (apply jc <;> intro _) | simp (disch:=first | exact dzG | fail) only [E21,E12,E14,c1',jd,jo,jQ,jn,jf,qp,qm,jt,ju,jx,jy,jv,rzZ,Qab,Qac,Qad,Qaa,Qae])
end Go.Sy
end
noncomputable section
namespace Go.Proofs
open Go.Shelf
def Tryz.laysC174_ren:Go.Shelf.Ren:=⟨λ| 174=>123 | 247=>150 | 245=>151 | 287=>172 | 279=>173 | 280=>174 | 281=>175 | 282=>176 | 321=>185 | 322=>186 | 316=>187 | 171=>189 | 205=>188 | 243=>190 | 246=>113 | 283=>145 | 284=>146 | 285=>147 | 286=>148 | 129=>168 | 317=>167 | 318=>169 | 319=>170 | 320=>171 | 337=>183 | 338=>184 | n=>n,λ| 9=>9 | 3=>3 | 2=>2 | 75=>177 | 85=>178 | 4=>4 | 167=>219 | 5=>5 | 53=>131 | 175=>220 | 46=>217 | 168=>222 | 37=>203 | 0=>0 | 210=>233 | 21=>21 | 127=>237 | 145=>240 | 143=>238 | 171=>200 | 173=>204 | 212=>214 | 51=>215 | 20=>20 | 213=>216 | 232=>235 | 233=>236 | 80=>241 | n=>n,λ| 15=>1 | 16=>2 | 17=>0 | 18=>3 | 19=>4 | n=>n⟩
theorem Tryz.laysC174:Go.Proofs.LaysC.n174 Qaf Tryz.laysC174_ren:={
 mixed:=by kernel_rfl
 f129:=Tryz.func168.trans (congrArg some (by kernel_rfl))
 f171:=Tryz.func189.trans (congrArg some (by kernel_rfl))
 f174:=Tryz.func123.trans (congrArg some (by kernel_rfl))
 f205:=Tryz.func188.trans (congrArg some (by kernel_rfl))
 f243:=Tryz.func190.trans (congrArg some (by kernel_rfl))
 f245:=Tryz.func151.trans (congrArg some (by kernel_rfl))
 f246:=Tryz.func113.trans (congrArg some (by kernel_rfl))
 f247:=Tryz.func150.trans (congrArg some (by kernel_rfl))
 f279:=Tryz.func173.trans (congrArg some (by kernel_rfl))
 f280:=Tryz.func174.trans (congrArg some (by kernel_rfl))
 f281:=Tryz.func175.trans (congrArg some (by kernel_rfl))
 f282:=Tryz.func176.trans (congrArg some (by kernel_rfl))
 f283:=Tryz.func145.trans (congrArg some (by kernel_rfl))
 f284:=Tryz.func146.trans (congrArg some (by kernel_rfl))
 f285:=Tryz.func147.trans (congrArg some (by kernel_rfl))
 f286:=Tryz.func148.trans (congrArg some (by kernel_rfl))
 f287:=Tryz.func172.trans (congrArg some (by kernel_rfl))
 f316:=Tryz.func187.trans (congrArg some (by kernel_rfl))
 f317:=Tryz.func167.trans (congrArg some (by kernel_rfl))
 f318:=Tryz.func169.trans (congrArg some (by kernel_rfl))
 f319:=Tryz.func170.trans (congrArg some (by kernel_rfl))
 f320:=Tryz.func171.trans (congrArg some (by kernel_rfl))
 f321:=Tryz.func185.trans (congrArg some (by kernel_rfl))
 f322:=Tryz.func186.trans (congrArg some (by kernel_rfl))
 f337:=Tryz.func183.trans (congrArg some (by kernel_rfl))
 f338:=Tryz.func184.trans (congrArg some (by kernel_rfl))
 t0:=Tryz.underlying0
 a0:=Tryz.isAgg0
 z0:=Tryz.sizeOf0
 v0:=Tryz.zeroValue0
 t2:=Tryz.underlying2
 a2:=Tryz.isAgg2
 z2:=Tryz.sizeOf2
 v2:=Tryz.zeroValue2
 t3:=Tryz.underlying3
 a3:=Tryz.isAgg3
 z3:=Tryz.sizeOf3
 v3:=Tryz.zeroValue3
 t4:=Tryz.underlying4
 a4:=Tryz.isAgg4
 z4:=Tryz.sizeOf4
 v4:=Tryz.zeroValue4
 t5:=Tryz.underlying5
 a5:=Tryz.isAgg5
 z5:=Tryz.sizeOf5
 v5:=Tryz.zeroValue5
 t9:=Tryz.underlying9
 a9:=Tryz.isAgg9
 z9:=Tryz.sizeOf9
 v9:=Tryz.zeroValue9
 t20:=Tryz.underlying20
 a20:=Tryz.isAgg20
 z20:=Tryz.sizeOf20
 v20:=Tryz.zeroValue20
 t21:=Tryz.underlying21
 a21:=Tryz.isAgg21
 z21:=Tryz.sizeOf21
 v21:=Tryz.zeroValue21
 t37:=Tryz.underlying203
 a37:=Tryz.isAgg203
 z37:=Tryz.sizeOf203
 v37:=Tryz.zeroValue203
 t46:=Tryz.underlying217
 a46:=Tryz.isAgg217
 z46:=Tryz.sizeOf217
 v46:=Tryz.zeroValue217
 t51:=Tryz.underlying215
 a51:=Tryz.isAgg215
 z51:=Tryz.sizeOf215
 v51:=Tryz.zeroValue215
 t53:=Tryz.underlying131
 a53:=Tryz.isAgg131
 z53:=Tryz.sizeOf131
 v53:=Tryz.zeroValue131
 t75:=Tryz.underlying177
 a75:=Tryz.isAgg177
 z75:=Tryz.sizeOf177
 v75:=Tryz.zeroValue177
 t85:=Tryz.underlying178
 a85:=Tryz.isAgg178
 z85:=Tryz.sizeOf178
 v85:=Tryz.zeroValue178
 t127:=Tryz.underlying237
 a127:=Tryz.isAgg237
 z127:=Tryz.sizeOf237
 v127:=Tryz.zeroValue237
 t143:=Tryz.underlying238
 a143:=Tryz.isAgg238
 z143:=Tryz.sizeOf238
 v143:=Tryz.zeroValue238
 t145:=Tryz.underlying240
 a145:=Tryz.isAgg240
 z145:=Tryz.sizeOf240
 v145:=Tryz.zeroValue240
 t167:=Tryz.underlying219
 a167:=Tryz.isAgg219
 z167:=Tryz.sizeOf219
 v167:=Tryz.zeroValue219
 t168:=Tryz.underlying222
 a168:=Tryz.isAgg222
 z168:=Tryz.sizeOf222
 v168:=Tryz.zeroValue222
 t171:=Tryz.underlying200
 a171:=Tryz.isAgg200
 z171:=Tryz.sizeOf200
 v171:=Tryz.zeroValue200
 t173:=Tryz.underlying204
 a173:=Tryz.isAgg204
 z173:=Tryz.sizeOf204
 v173:=Tryz.zeroValue204
 t175:=Tryz.underlying220
 a175:=Tryz.isAgg220
 z175:=Tryz.sizeOf220
 v175:=Tryz.zeroValue220
 t210:=Tryz.underlying233
 a210:=Tryz.isAgg233
 z210:=Tryz.sizeOf233
 v210:=Tryz.zeroValue233
 t212:=Tryz.underlying214
 a212:=Tryz.isAgg214
 z212:=Tryz.sizeOf214
 v212:=Tryz.zeroValue214
 t213:=Tryz.underlying216
 a213:=Tryz.isAgg216
 z213:=Tryz.sizeOf216
 t232:=Tryz.underlying235
 a232:=Tryz.isAgg235
 z232:=Tryz.sizeOf235
 v232:=Tryz.zeroValue235
 t233:=Tryz.underlying236
 a233:=Tryz.isAgg236
 z233:=Tryz.sizeOf236
 v233:=Tryz.zeroValue236
 g15:=by kernel_rfl
 g16:=by kernel_rfl
 g17:=by kernel_rfl
 g18:=by kernel_rfl
 g19:=by kernel_rfl
 t80:=Tryz.underlying241
 a80:=Tryz.isAgg241
 z80:=Tryz.sizeOf241
 v80:=Tryz.zeroValue241
 i0:=by kernel_rfl
 i2:=by kernel_rfl
 i3:=by kernel_rfl
 i4:=by kernel_rfl
 i5:=by kernel_rfl
 i9:=by kernel_rfl
 i20:=by kernel_rfl
 i21:=by kernel_rfl
 i37:=by kernel_rfl
 i46:=by kernel_rfl
 i51:=by kernel_rfl
 i53:=by kernel_rfl
 i75:=by kernel_rfl
 i80:=by kernel_rfl
 i85:=by kernel_rfl
 i127:=by kernel_rfl
 i143:=by kernel_rfl
 i145:=by kernel_rfl
 i167:=by kernel_rfl
 i168:=by kernel_rfl
 i171:=by kernel_rfl
 i173:=by kernel_rfl
 i175:=by kernel_rfl
 i210:=by kernel_rfl
 i212:=by kernel_rfl
 i232:=by kernel_rfl
 i233:=by kernel_rfl
 m15:=by kernel_rfl
 m16:=by kernel_rfl
 m17:=by kernel_rfl
 m18:=by kernel_rfl
 m19:=by kernel_rfl
 c0:=by kernel_rfl
 c2:=by kernel_rfl
 c3:=by kernel_rfl
 c4:=by kernel_rfl
 c5:=by kernel_rfl
 c9:=by kernel_rfl
 c20:=by kernel_rfl
 c21:=by kernel_rfl
 c37:=by kernel_rfl
 c46:=by kernel_rfl
 c51:=by kernel_rfl
 c53:=by kernel_rfl
 c75:=by kernel_rfl
 c80:=by kernel_rfl
 c85:=by kernel_rfl
 c127:=by kernel_rfl
 c143:=by kernel_rfl
 c145:=by kernel_rfl
 c167:=by kernel_rfl
 c168:=by kernel_rfl
 c171:=by kernel_rfl
 c173:=by kernel_rfl
 c175:=by kernel_rfl
 c210:=by kernel_rfl
 c212:=by kernel_rfl
 c213:=by kernel_rfl
 c232:=by kernel_rfl
 c233:=by kernel_rfl }
open Go.RowKit in
theorem Tryz.strconv_ParseInt_10_at64_ok (s:ByteArray)(hmax:s.size≤9223372036854775806)(v:Int)(h:Lib.parseIntB 64 s.data.toList=.ok v)(w:World) :
 Calls Qaf 123 #[.string s,.int .i64 10,.int .i64 64] w λe w'=>e=.returned (.tuple #[.int .i64 v,.nilIface])∧(w'=w∨∃ t,w'=Lib.bytesWorld w 5 t):=Any.strconv_ParseInt_10_at64_ok Tryz.laysC174 s hmax v h w
open Go.RowKit in
theorem Tryz.strconv_ParseInt_10_at64_range (s:ByteArray)(hlim:s.size≤281474976710656)(h:Lib.parseIntB 64 s.data.toList=.range)(ev:Value)(w:World)(hv:w.cell? ⟨2,0,none⟩=some ev)(hev:ev=.nilIface∨∃ te pe,ev=.iface te pe) :
 Calls Qaf 123 #[.string s,.int .i64 10,.int .i64 64] w λe w'=>∃ N,e=.returned (.tuple #[.int .i64 (Lib.intSat 64 s.data.toList),.iface 222 (.pointer (some ⟨N,0,none⟩))])∧w.heap.size≤N∧w'.heap[N]? = some (.cells #[.string ⟨#[80,97,114,115,101,73,110,116]⟩,.string s,ev] 233 (0,0))∧Below w.heap.size w w':=Any.strconv_ParseInt_10_at64_range Tryz.laysC174 s hlim h ev w hv hev
end Go.Proofs
end
noncomputable section
set_option maxRecDepth 100000
namespace Go.Sy
open Go.Ev Go.Proofs
open Go.RowKit (Below)
theorem uw:okP Qaf=true:=by kernel_rfl
theorem UN:Tryz.prog.follows .mixedOrders=true:=by kernel_rfl
theorem jng:jgb (Ka Qaf 10000000 400 21 [] st0)=true:=by kernel_rfl
def gn (l:List UInt8):Prop:=∀ c∈l,48≤c.toNat∧c.toNat≤57
theorem gP:∀ (l:List UInt8) (acc:Nat),gn l->(acc+1) * 10 ^ l.length≤100000000->Lib.parseUintM 18446744073709551615 acc l=.ok ((l.map UInt8.toNat).foldl (λv c=>10 * v+(c - 48)) acc)
 | [],acc,_,_=>rfl
 | c :: r,acc,hd,h=>by
  have hc:=hd c (by simp);rw [Qak,Nat.pow_succ] at h;have hp:1≤10 ^ r.length:=Nat.one_le_pow _ _ (by decide);have hacc:(acc+1) * 10≤100000000:=by
   have:(acc+1) * 10 * 1≤(acc+1) * 10 * 10 ^ r.length:=Nat.mul_le_mul_left _ hp;have e:(acc+1) * 10 * 10 ^ r.length=(acc+1) * (10 ^ r.length * 10):=by rw [Nat.mul_assoc,Nat.mul_comm 10]
   omega
  unfold Lib.parseUintM;rw [if_pos hc,if_neg (by omega),if_neg (by omega),gP r _ (λd hd'=>hd d (by simp [hd']))]
  ·show _=Lib.NumEnd.ok ((r.map UInt8.toNat).foldl _ (10 * acc+(c.toNat - 48)));rw [Nat.mul_comm acc 10]
  ·refine Qau ?_ h;have e:(acc+1) * (10 ^ r.length * 10)=((acc+1) * 10) * 10 ^ r.length:=by rw [Nat.mul_comm (10 ^ r.length),Nat.mul_assoc]
   rw [e];exact QaK _ (by omega)
theorem Wh:∀ (l:List UInt8) (acc:Nat),gn l->(∃ u,Lib.parseUintM 18446744073709551615 acc l=.ok u)∨Lib.parseUintM 18446744073709551615 acc l=.range
 | [],acc,_=>.inl ⟨acc,rfl⟩
 | c :: r,acc,hd=>by
  have hc:=hd c (by simp);unfold Lib.parseUintM;rw [if_pos hc];by_cases h1:1844674407370955162≤acc
  ·rw [if_pos h1]; exact .inr rfl
  ·rw [if_neg h1];by_cases h2:18446744073709551615<acc * 10+(c.toNat - 48)
   ·rw [if_pos h2]; exact .inr rfl
   ·rw [if_neg h2];exact Wh r _ λd hd'=>hd d (by simp [hd'])
theorem gQ {l:List UInt8}(hne:l≠[])(hd:gn l):Lib.parseIntB 64 l=Lib.signlessC (2 ^ 63) (Lib.parseUintM 18446744073709551615 0 l):=by
 obtain ⟨c,r,rfl⟩:=List.exists_cons_of_ne_nil hne;have hc:=hd c (by simp);rw [Lib.parseIntB_plain 64 c r (by omega) (by omega)];unfold Lib.parseUintB;rw [if_neg (by simp)]
theorem jfQ {l:List UInt8}(hne:l≠[])(hd:gn l)(h7:l.length≤7):Lib.parseIntB 64 l=.ok (wb (l.map UInt8.toNat):Int):=by
 have hle:10 ^ l.length≤10 ^ 7:=Nat.pow_le_pow_right (by decide) h7;have e7:10 ^ 7=10000000:=by decide
 rw [gQ hne hd,gP l 0 hd (by omega)];have hv:=jkb (s:=l.map UInt8.toNat) (n:=l.length) (by simp) h7 (λc hc=>by
  obtain ⟨b,hb,rfl⟩:=Qbn.1 hc;have:=hd b hb;unfold qb;simp; omega)
 show Lib.signlessC _ (.ok (wb (l.map UInt8.toNat)))=_;generalize wb (l.map UInt8.toNat)=v at hv;unfold Lib.signlessC;simp;omega
end Go.Sy
end
noncomputable section
set_option maxRecDepth 100000
namespace Go.Sy
open Go.Ev Go.Proofs
open Go.RowKit (Below)
theorem jdA {l:List UInt8}(hne:l≠[])(hd:gn l):(∃ v,Lib.parseIntB 64 l=.ok v)∨Lib.parseIntB 64 l=.range:=by
 rw [gQ hne hd];rcases Wh l 0 hd with ⟨u,h⟩ | h
 ·rw [h];unfold Lib.signlessC;by_cases hu:2 ^ 63≤u
  ·right; simp only [if_pos hu]
  ·left; exact ⟨u,by simp only [if_neg hu]⟩
 ·rw [h]; exact .inr rfl
def jba (s:List Nat):Bool:=decide (s≠[]) && s.all qb
theorem ja9 (s:List Nat):jba s=true↔uf s:=by
 unfold jba uf;simp
def ZT:qC:=λf args st=>match args with
 | []=>if f=21 then .ok (.bool true) st else .no
 | [.str s,.int .i64 a,.int .i64 b]=>if f=123∧a=10∧b=64∧jba s=true∧s.length≤281474976710656 then (if s.length≤7 then .ok (.tup [.int .i64 (wb s:Int),.nilif]) st else .ok (.tup [.bad,.bad]) st) else .no
 | _=>.no
theorem jk0 (st:St):ZT 21 [] st=.ok (.bool true) st:=rfl
def base6:Bs:=⟨ZT,jdy⟩
theorem jbs:PI base6:=λs st hd hl=>by
 have e:ZT 123 [.str s,.int .i64 10,.int .i64 64] st=if (123=123∧(10:Int)=10∧(64:Int)=64∧jba s=true∧s.length≤281474976710656) then (if s.length≤7 then .ok (.tup [.int .i64 (wb s:Int),.nilif]) st else .ok (.tup [.bad,.bad]) st) else .no:=rfl
 simp only [show base6.run=ZT from rfl];rw [e,if_pos ⟨rfl,rfl,rfl,(ja9 s).2 hd,hl⟩];exact ⟨λh=>if_pos h,λh=>if_neg (by omega)⟩
theorem V8 (f:FuncId)(args:List AV)(st:St):ZT f args st=.no∨(f=21∧args=[])∨(f=123∧∃ s,args=[.str s,.int .i64 10,.int .i64 64]∧uf s∧s.length≤281474976710656):=by
 unfold ZT;split
 ·by_cases h:f=21
  ·exact .inr (.inl ⟨h,rfl⟩)
  ·exact .inl (if_neg h)
 ·rename_i s a b;by_cases h:f=123∧a=10∧b=64∧jba s=true∧s.length≤281474976710656
  ·obtain ⟨h1,rfl,rfl,h4,h5⟩:=h;exact .inr (.inr ⟨h1,s,rfl,(ja9 s).1 h4,h5⟩)
  ·exact .inl (if_neg h)
 ·exact .inl rfl
theorem jiG (f:FuncId)(args:List AV)(st:St)(h9:f≠21)(h31:f≠123):ZT f args st=.no:=by
 rcases V8 f args st with h | ⟨h,_⟩ | ⟨h,_⟩
 ·exact h
 ·exact absurd h h9
 ·exact absurd h h31
theorem XT {ι:Inj}{st:St}{w w':World}(hs:Sim ι st.h st.nx w)(b:Below w.heap.size w w'):Sim ι st.h st.nx w'∧Grew ι w ι w':=by
 have gr:Grew ι w ι w':=⟨b.os,b.tape,b.output,b.size,λk hk _=>b.block k hk,λb B S e=>.inl ⟨b,S,e⟩,λB vs h=>.inl h⟩;exact ⟨⟨λc B S e=>by
  obtain ⟨o,x,h1,h2,h3⟩:=hs.obj c B S e;exact ⟨o,x,h1,(b.block B (hs.lt e)).trans h2,h3⟩,hs.gone,hs.inj,hs.born,hs.glob.grew gr⟩,gr⟩
theorem jiH:Jo Qaf base6.run:=by
 intro f args st ι w vs hs hv;simp only [show base6.run=ZT from rfl];rcases V8 f args st with h | ⟨rfl,rfl⟩ | ⟨rfl,s,rfl,hd,hl⟩
 ·rw [h]; trivial
 ·rw [jk0];have hvs:vs = #[]:=by
   have:vs.toList=[]:=by simpa [VRs] using hv
   simpa using this
  subst hvs;have hb:Tryz.f21.body.isSome=true:=by kernel_rfl
  obtain ⟨c,hc⟩:=Option.isSome_iff_exists.1 hb;refine ⟨(wk uw Tryz.func21 hc).2,Calls.mono (jhV uw (jcQ UN) jng w ⟨⟨hs.glob.1.1,λb S e=>by cases e⟩,λB vs e=>by cases e⟩) λe w' ⟨he,hos,ht,ho,hsz,hk⟩=>⟨_,he,ι,Le.refl ι,?_,?_,?_,Cleanly.refl ι st⟩⟩
  ·simp only [VR]
  ·exact (XT hs ⟨hos,ht,ho,hsz,hk⟩).1
  ·exact (XT hs ⟨hos,ht,ho,hsz,hk⟩).2
 ·simp only [VRs,VR] at hv;obtain ⟨v1,l1,e1,⟨bs,rfl,hbs⟩,v2,l2,rfl,rfl,v3,l3,rfl,rfl,rfl⟩:=hv;have hvs:vs = #[.string bs,.int .i64 10,.int .i64 64]:=by
   cases vs; simpa using e1
  subst hvs;have hlen:bs.data.toList.length=s.length:=by rw [←hbs,QaP]
  have hsz:bs.size=s.length:=by rw [←hlen,Qay]; rfl
  have hne:bs.data.toList≠[]:=λh=>hd.1 (by rw [←hbs,h]; rfl);have hd8:gn bs.data.toList:=λc hc=>by
   have:=hd.2 c.toNat (by rw [←hbs]; exact Qbn.2 ⟨c,hc,rfl⟩);unfold qb at this;simp at this;omega
  have hent:Ev.Enters Qaf 123:=by
   have hb:Tryz.f123.body.isSome=true:=by kernel_rfl
   obtain ⟨c,hc⟩:=Option.isSome_iff_exists.1 hb;exact (wk uw Tryz.func123 hc).2
  have okc:∀ v,Lib.parseIntB 64 bs.data.toList=.ok v->Calls Qaf 123 #[.string bs,.int .i64 10,.int .i64 64] w λe w'=>e=.returned (.tuple #[.int .i64 v,.nilIface])∧Below w.heap.size w w':=λv h=>
   (Tryz.strconv_ParseInt_10_at64_ok bs (by omega) v h w).mono λe w' ⟨he,hw⟩=>⟨he,by
    rcases hw with rfl | ⟨t,rfl⟩
    ·exact ⟨rfl,rfl,rfl,Qap _,λ_ _=>rfl⟩
    ·exact Lib.bytesWorld_below w 5 t⟩
  have hP:=jbs s st hd hl;simp only [show base6.run=ZT from rfl] at hP;by_cases h7:s.length≤7
  ·rw [hP.1 h7];refine ⟨hent,(okc _ (jfQ hne hd8 (by omega))).mono λe w' ⟨he,hb⟩=>⟨_,he,ι,Le.refl ι,?_,(XT hs hb).1,(XT hs hb).2,Cleanly.refl ι st⟩⟩;rw [hbs];simp only [VR,VRs];exact ⟨_,rfl,_,_,rfl,rfl,_,_,rfl,rfl,rfl⟩
  ·rw [hP.2 (by omega)];refine ⟨hent,?_⟩;have fin:∀ (x y:Value) (w':World),Below w.heap.size w w'->Ja ι w st st (.tup [.bad,.bad]) (.tuple #[x,y]) w':=λx y w' hb=>by
    refine ⟨ι,Le.refl ι,?_,(XT hs hb).1,(XT hs hb).2,Cleanly.refl ι st⟩;simp only [VR,VRs];exact ⟨_,rfl,_,_,rfl,trivial,_,_,rfl,trivial,rfl⟩
   rcases jdA hne hd8 with ⟨v,h⟩ | h
   ·exact (okc v h).mono λe w' ⟨he,hb⟩=>⟨_,he,fin _ _ w' hb⟩
   ·obtain ⟨te,pe,hg⟩:=hs.glob.1.1;exact (Tryz.strconv_ParseInt_10_at64_range bs (by omega) h _ w hg (.inr ⟨te,pe,rfl⟩)).mono λe w' ⟨N,he,_,_,hb⟩=>⟨_,he,fin _ _ w' hb⟩
end Go.Sy
end
noncomputable section
set_option maxRecDepth 100000
namespace Go.Sy
open Go.Ev Go.Proofs
theorem jb0 {ι:Inj}:∀ {cs:List AV} {v:Value},VRs ι cs v.cells.toList->2≤cs.length->VR ι (.agg cs) v
 | a :: b :: r,v,h,_=>by
  cases v;case agg c=>exact ⟨c,rfl,h⟩
  all_goals
   exfalso;obtain ⟨v1,l1,e1,_,v2,l2,e2,_⟩:=h;simp [Value.cells] at e1;rw [e2] at e1;simp at e1
 | [],v,h,h2=>by simp at h2
 | [a],v,h,h2=>by simp at h2
theorem arg_src {w:World}{m:SrcT}{v:Value}(h:VRs (frW w) (srE m) v.cells.toList):VR (frW w) (.agg (srE m)) v:=jb0 h (by rw [Zz]; decide)
theorem arg_ex {w:World}{x:Ex}{v:Value}(h:VRs (frW w) (eE x) v.cells.toList):VR (frW w) (.agg (eE x)) v:=jb0 h (by rw [zJ]; decide)
theorem base6_21 (st:St):base6.run 21 [] st=.ok (.bool true) st:=rfl
theorem base6_PI:PI base6:=jbs
theorem base6_NB:NB base6:=⟨λf h args st=>jiG f args st (by rintro rfl; simp [Ul] at h) (by rintro rfl; simp [Ul] at h),rfl⟩
theorem law_calls {f:FuncId}{xs:List AV}{vs:Array Value}{w:World}(h:XB Qaf base6 f xs st0 (λv _=>v=.bool true) λ_ _=>False)(hg:∃ te pe,w.cell? ⟨2,0,none⟩=some (.iface te pe))(hv:VRs (frW w) xs vs.toList) :
  Calls Qaf f vs w λe w'=>e=.returned (.bool true)∧w'.os=w.os∧w'.tape=w.tape∧w'.output=w.output∧w.heap.size≤w'.heap.size∧∀ k,k<w.heap.size->w'.heap[k]? = w.heap[k]?:=by
 have h2:=CW.calls uw (jcQ UN) jiH (K:=λv _=>v=.bool true) h.cb (jkl hg) hv;refine Calls.mono h2 λe w' ⟨v,x,st',he,hK,ι',_,hv,_,hg,_⟩=>?_;rw [hK] at hv;simp only [VR] at hv;rw [hv] at he;exact ⟨he,hg.os,hg.tape,hg.output,hg.size,λk hk=>hg.keep k hk (λb S e=>by cases e)⟩
end Go.Sy
end
