/-
  The evaluator of runs, first part: what it is, and that each operation is sound; its conditions are those of the texts of the model.
-/
import Derived.Still
import Derived.Recover
import Derived.Laws.AppendOwn
import Derived.Laws.NewBlocks
import Derived.Below
import Derived.WalkKit
import Derived.Laws.MakeOwn
import Derived.Laws.Strings
import Derived.Laws.Concat
import Derived.Laws.StructEq
import Derived.Laws.BytesString
import Derived.Orders
set_option linter.unusedVariables false
set_option linter.unusedSimpArgs false
theorem aI {a b : Prop} (x : a) (y : b) : a ∧ b := ⟨x, y⟩
theorem a4 {a b c d : Prop} (x : a) (y : b) (z : c) (w : d) : a ∧ b ∧ c ∧ d := ⟨x, y, z, w⟩
theorem a8 {a b c d e f g h : Prop} (x : a) (y : b) (z : c) (w : d) (x1 : e) (y1 : f) (z1 : g) (w1 : h) : a ∧ b ∧ c ∧ d ∧ e ∧ f ∧ g ∧ h := ⟨x, y, z, w, x1, y1, z1, w1⟩
theorem om {p : Prop} (h : p := by omega) : p := h
theorem dc {p : Prop} (h : p := by decide) : p := h
open Nat renaming reduceAdd → δ, reduceSub → ε, le_refl → μ, le_trans → ψ, zero_le → Qaa, zero_add → Qag, le_max_left → Qao, le_max_right → Qap, lt_or_ge → Qar, lt_of_lt_of_le → Qat, mul_le_mul_right → Qax, mul_one → QaB, add_mul → QaD, sub_zero → QaG, not_lt_zero → QaJ, succ_pos → QaN, zero_mul → QaP, succ_mul → QaR, le_of_eq → QaS, lt_succ_self → Qbb, ne_of_lt → Qbe, add_zero → Qbf, le_succ → Qbg, add_assoc → Qbi, lt_irrefl → Qbk, mod_eq_of_lt → Qbm, add_comm → Qbo, pow_le_pow_right → Qbq, succ_lt_succ → Qbv, min_eq_left → Qby, le_of_lt → QbE, add_sub_cancel → QbY, lt_trichotomy → Qca, le_succ_of_le → Qcf, beq → Qci, succ → Qcj, ble → Qck, add → Qcl, mul → Qcm, sub → Qcn
open List renaming map_cons → ζ, map_nil → η, getD_cons_zero → θ, getD_cons_succ → κ, length_cons → ν, length_append → υ, length_nil → φ, getD → ω, range → Qab, range' → Qac, cons_append → Qad, all_eq_true → Qae, getElem_mem → Qaf, take_length → Qah, getElem?_eq_getElem → Qai, nil_append → Qaj, cons → Qal, length_take → Qam, getD_eq_getElem?_getD → Qan, length_map → Qaq, length_drop → Qau, all_cons → Qaz, take_zero → QaC, append_assoc → QaE, mem_map → QaL, all_append → QaM, append_nil → QaO, mem_append → QaQ, mem_cons → QaU, take_of_length_le → QaV, map_map → QaW, map_congr_left → QaX, eq_nil_of_length_eq_zero → QaY, drop_zero → Qba, range'_succ → Qbc, map_append → Qbd, ext_getElem → Qbh, getElem?_map → Qbj, drop_drop → Qbl, mem_range → Qbp, getElem_cons_zero → Qbs, take_append_drop → Qbt, take_succ_eq_append_getElem → Qbw, getElem?_take → Qbx, mem_iff_getElem → Qbz, getElem?_append_left → QbB, map_toArray → QbC, mem_singleton → QbF, getElem_cons_succ → QbG, getElem_cons_drop → QbH, getElem?_drop → QbI, mem_of_mem_take → QbJ, take_take → QbK, foldr_cons → QbM, take_add_one → QbO, getElem?_append_right → QbP, foldl_append → QbR, getElem?_range → QbS, mem_cons_of_mem → QbT, length_pos_iff → QbU, drop_length → QbV, flatMap_cons → QbX, countP_singleton → Qcc, take_succ_cons → Qcd
open Int renaming zero_add → ξ, natCast_zero → τ, ofNat → Qas, eq_ofNat_of_zero_le → Qbr, natCast_nonneg → QbL
open Bool renaming and_eq_true → χ, eq_iff_iff → Qay, or_eq_true → QaA, not_eq_true' → QaI, false_eq_true → QaK, true_eq_false → Qbu, or_eq_false_iff → QbN, eq_false_iff → Qce
open Array renaming length_toList → Qak, getElem?_eq_some_iff → Qav, replicate → QaF, toList_map → Qbn, getElem?_toList → QbD, getD_eq_getD_getElem? → QbQ, toList_append → QbZ, mem_toList_iff → Qcb, getElem?_eq_getElem → Qcg, getElem?_setIfInBounds_ne → Qch
open Option renaming map_some → Qaw, getD_some → QaH, bind_some → QaT, map_none → QaZ, map_eq_some_iff → QbA
open Function renaming comp_def → QbW
noncomputable section
namespace Go.Ev
inductive T (α:Type) where
 |e
 |n (v:Option α) (l r:T α)
inductive AV where
 |bool (b:Bool)
 |int (k:IntKind) (n:Int)
 |str (s:List Nat)
 |zstr (n:Nat)
 |ptr (b o:Nat)
 |nilp
 |slice (b o len cap sz:Nat) (ex:Bool)
 |nils
 |map (r:Nat)
 |nilm
 |fn (f:FuncId) (caps:List AV)
 |nilf
 |iface (t:TypeId) (v:AV)
 |nilif
 |agg (cs:List AV)
 |tup (vs:List AV)
 |lst (n:Nat) (cs:List AV)
 |xlst (n:Nat) (cs:List AV)
 |lptr (cs:List AV) (o:Nat)
 |bad
instance:Inhabited AV:=⟨.bad⟩
inductive AO where
 |row (n zl:Nat) (z:List AV) (cs:T AV)
 |map (es:List (AV×AV))
 |iter (s:List Nat) (pos:Nat)
 |dead
inductive Md where
 |calm
 |pan (v:AV)
 |done
abbrev Fr:=List (FuncId×List AV)
structure St where
 nx:Nat
 h:T AO
 dirty:Nat
 fr:Fr
structure Env where
 t:T AV
 rs:List AV
inductive ER where
 |no
 |ok (v:AV) (st:St)
 |pn (v:AV) (st:St)
inductive DR where
 |no
 |ok (m:Md) (st:St)
inductive R where
 |no
 |go (env:T AV) (st:St)
 |ex (id:Nat) (env:T AV) (st:St)
 |rt (env:T AV) (st:St)
 |pn (v:AV) (env:T AV) (st:St)
abbrev qF:=FuncId->List AV->St->ER
structure GF (α:Type) where
 run:T α->Option α
structure SF (α:Type) where
 run:α->T α->T α
structure OF where
 run:Env->AV
structure EF where
 run:Env->St->ER
structure CF where
 run:qF->Nat->T AV->St->R
structure RF where
 run:qF->Nat->T AV->List AV->St->R
inductive TE where
 |none
 |rd (a v:AV)
 |wr (pre post:T AO)
structure RD where
 run:qF->Nat->T AV->List AV->List TE->St->R
structure FF where
 run:qF->Nat->List AV->St->ER
structure LF where
 run:List AV->T AV->T AV
section plain
def T.val {α:Type}(t:T α):Option α:=T.casesOn t none (λv _ _=>v)
def T.left {α:Type}(t:T α):T α:=T.casesOn t .e (λ_ l _=>l)
def T.right {α:Type}(t:T α):T α:=T.casesOn t .e (λ_ _ r=>r)
def jK (n:Nat):List Bool:=
 Nat.rec (motive:=λ_=>Nat->List Bool) (λ_=>[]) (λ_ ih n=>cond (Qci n 0) [] (Qal (Qci (Nat.mod n 2) 1) (ih (Nat.div n 2)))) (Qcj n) n
def QA {α:Type}(p:List Bool):GF α:=
 List.rec (motive:=λ_=>GF α) ⟨λt=>T.val t⟩ (λb _ ih=>cond b ⟨λt=>ih.run (T.left t)⟩ ⟨λt=>ih.run (T.right t)⟩) p
def j1 {α:Type}(p:List Bool):SF α:=
 List.rec (motive:=λ_=>SF α) ⟨λx t=>T.casesOn t (.n (some x) .e .e) (λ_ l r=>.n (some x) l r)⟩
  (λb _ ih=>cond b
   ⟨λx t=>T.casesOn t (.n none (ih.run x .e) .e) (λv l r=>.n v (ih.run x l) r)⟩
   ⟨λx t=>T.casesOn t (.n none .e (ih.run x .e)) (λv l r=>.n v l (ih.run x r))⟩) p
def force {α:Type}(n:Nat)(k:Nat->α):α:=Nat.rec (motive:=λ_=>α) (k 0) (λm _=>k (Qcj m)) n
def jx (h:T AO)(b:Nat):Option AO:=force b λb=>(QA (jK b)).run h
def ug (h:T AO)(b:Nat)(o:AO):T AO:=force b λb=>(j1 (jK b)).run o h
def jP {α:Type}(l:List α):Nat:=List.rec (motive:=λ_=>Nat) 0 (λ_ _ ih=>force ih Qcj) l
def ym {α:Type}(d:α)(l:List α):Nat->α:=
 List.rec (motive:=λ_=>Nat->α) (λ_=>d) (λa _ ih i=>Nat.rec (motive:=λ_=>α) a (λm _=>ih m) i) l
def zj {α:Type}(l:List α):Nat->List α:=
 List.rec (motive:=λ_=>Nat->List α) (λ_=>[]) (λa l ih i=>Nat.rec (motive:=λ_=>List α) (Qal a l) (λm _=>ih m) i) l
def yi {α:Type}(l:List α):Nat->List α:=
 List.rec (motive:=λ_=>Nat->List α) (λ_=>[]) (λa _ ih i=>Nat.rec (motive:=λ_=>List α) [] (λm _=>Qal a (ih m)) i) l
def yS {α:Type}(l r:List α):List α:=List.rec (motive:=λ_=>List α) r (λa _ ih=>Qal a ih) l
def lall (p:AV->Bool)(l:List AV):Bool:=List.rec (motive:=λ_=>Bool) true (λa _ ih=>cond (p a) ih false) l
def Kt {α:Type}(p:α->Bool)(l:List α):Bool:=List.rec (motive:=λ_=>Bool) true (λa _ ih=>cond (p a) ih false) l
def ye {α β:Type}(f:α->β)(l:List α):List β:=List.rec (motive:=λ_=>List β) [] (λa _ ih=>Qal (f a) ih) l
def AV.plain:AV->Bool
 |.tup _=>false
 |.bad=>false
 |_=>true
def qd:AV:=.tup []
def ofV:Value->AV
 |.bool b=>.bool b
 |.int k n=>.int k n
 |.string s=>.str (s.data.toList.map UInt8.toNat)
 |.pointer none=>.nilp
 |.slice none 0 0=>.nils
 |.map none=>.nilm
 |.nilFunc=>.nilf
 |.nilIface=>.nilif
 |_=>.bad
def jbW:Value->List AV
 |.agg cs=>cs.toList.map ofV
 |v=>[ofV v]
def AV.cells:AV->List AV
 |.agg cs=>cs
 |v=>[v]
def AV.cell:AV->Bool
 |.agg _=>false
 |.tup _=>false
 |.bad=>false
 |_=>true
def inU (U t:Nat):Bool:=Qci (Nat.mod (Nat.shiftRight U t) 2) 1
def jjP (t:Nat)(ns:List Nat):Option OF:=
 List.rec (motive:=λ_=>(Nat->Option OF)) (λ_=>none)
  (λn _ ih i=>cond (Qci n t) (some ⟨λenv=>ym .bad env.rs i⟩) (ih (Qcj i))) ns 0
def jQ (U:Nat)(ns:List Nat):Operand->OF
 |.tmp t=>match jjP t ns with
  |some f=>f
  |none=>cond (inU U t) ⟨λenv=>match (QA (jK t)).run env.t with|some v=>v|none=>qd⟩ ⟨λ_=>.bad⟩
 |.const v=>⟨λ_=>ofV v⟩
 |.global _=>⟨λ_=>.bad⟩
 |.func f=>⟨λ_=>.fn f []⟩
def zeroCells (P:Program)(t:TypeId):Option (List AV):=
 (P.info? t).bind λi=>i.zero.map jbW
def isAgg (P:Program)(t:TypeId):Option Bool:=
 (P.underlying t).map λ| .struct _=>true | .array _ _=>true|_=>false
def sizeOf (P:Program)(t:TypeId):Option Nat:=(P.info? t).map (·.size)
def qA (zl:Nat)(z:List AV)(cs:T AV)(i:Nat):AV:=
 force i λi=>match (QA (jK i)).run cs with|some v=>v|none=>ym .bad z (Nat.mod i zl)
def jT (zl:Nat)(z:List AV)(cs:T AV)(k:Nat):Nat->List AV:=
 Nat.rec (motive:=λ_=>Nat->List AV) (λ_=>[]) (λ_ ih i=>Qal (qA zl z cs i) (ih (Qcj i))) k
def qj (l:List AV):T AV->Nat->T AV:=
 List.rec (motive:=λ_=>T AV->Nat->T AV) (λcs _=>cs) (λv _ ih cs i=>force i λi=>ih ((j1 (jK i)).run v cs) (Qcj i)) l
def St.alloc (st:St)(o:AO)(k:Nat->St->ER):ER:=
 force st.nx λb=>k b ⟨Qcj b,(j1 (jK b)).run o st.h,st.dirty,st.fr⟩
def St.put (st:St)(b:Nat)(o:AO)(k:St->ER):ER:=
 force b λb=>k ⟨st.nx,(j1 (jK b)).run o st.h,force st.dirty λd=>cond (Qck d b) d b,st.fr⟩
def newRow (st:St)(cells:List AV):ER:=
 force (jP cells) λn=>st.alloc (.row n n cells .e) λb st=>.ok (.ptr b 0) st
@[inline] def Zz (v:AV) (k:Bool->ER):ER:=match v with | .bool b=>k b|_=>.no
@[inline] def q7 (v:AV) (k:Nat->Nat->ER):ER:=match v with | .ptr b o=>k b o|_=>.no
@[inline] def Qh (v:AV) (k:List AV->ER):ER:=match v with | .agg cs=>k cs|_=>.no
@[inline] def zM (v:AV) (k:List Nat->ER):ER:=match v with | .str cs=>k cs|_=>.no
@[inline] def yh (o:Option AO) (k:Nat->Nat->List AV->T AV->ER):ER:=match o with|some (.row n zl z cs)=>k n zl z cs|_=>.no
@[inline] def Zh (o:Option AO) (k:List (AV×AV)->ER):ER:=match o with|some (.map es)=>k es|_=>.no
@[inline] def jR {α:Type} (o:Option α) (k:α->ER):ER:=match o with|some a=>k a|none=>.no
def qp (v:AV)(k:Nat->ER):ER:=match v with | .int _ (.ofNat n)=>force n k|_=>.no
def NOE:EF:=⟨λ_ _=>.no⟩
def zB:IntKind->Nat
 |.i8=>127 | .i16=>32767 | .i32=>2147483647 | .i64=>9223372036854775807
 |.u8=>255 | .u16=>65535 | .u32=>4294967295 | .u64=>18446744073709551615
def sgn:IntKind->Bool
 |.i8=>true | .i16=>true | .i32=>true | .i64=>true|_=>false
def qY (k:IntKind)(x:Int):Int:=
 match x with
 |.ofNat n=>force n λn=>cond (Qck n (zB k)) (.ofNat n) (k.wrap (.ofNat n))
 |.negSucc n=>force n λn=>cond (sgn k) (cond (Qck n (zB k)) (.negSucc n) (k.wrap (.negSucc n))) (k.wrap (.negSucc n))
def ltI (a b:Int):Bool:=
 match a,b with
 |.ofNat m,.ofNat n=>Qck (Qcj m) n
 |.negSucc _,.ofNat _=>true
 |.ofNat _,.negSucc _=>false
 |.negSucc m,.negSucc n=>Qck (Qcj n) m
def eqI (a b:Int):Bool:=
 match a,b with
 |.ofNat m,.ofNat n=>Qci m n
 |.negSucc m,.negSucc n=>Qci m n
 |_,_=>false
def eqK (a b:IntKind):Bool:=
 match a with
 |.i8=>(match b with | .i8=>true|_=>false) | .i16=>(match b with | .i16=>true|_=>false)
 |.i32=>(match b with | .i32=>true|_=>false) | .i64=>(match b with | .i64=>true|_=>false)
 |.u8=>(match b with | .u8=>true|_=>false) | .u16=>(match b with | .u16=>true|_=>false)
 |.u32=>(match b with | .u32=>true|_=>false) | .u64=>(match b with | .u64=>true|_=>false)
def ZQ (op:BinOp)(k:IntKind)(x y:Int):Option Int:=
 let a:=BitVec.ofInt k.bits x
 let b:=BitVec.ofInt k.bits y
 match op with
 |.and=>some (k.wrap (a &&& b).toNat)
 |.or=>some (k.wrap (a |||b).toNat)
 |.xor=>some (k.wrap (a ^^^ b).toNat)
 |.andNot=>some (k.wrap (a &&& ~~~b).toNat)
 |_=>none
def ki (op:BinOp)(k:IntKind)(x y:Int):Option Int:=
 match x,y with
 |.ofNat m,.ofNat n=>
  cond (Qck m (zB k)) (cond (Qck n (zB k))
   (match op with
    |.and=>some (.ofNat (Nat.land m n))
    |.or=>some (.ofNat (Nat.lor m n))
    |.xor=>some (.ofNat (Nat.xor m n))
    |op=>ZQ op k (.ofNat m) (.ofNat n))
   (ZQ op k (.ofNat m) (.ofNat n))) (ZQ op k (.ofNat m) (.ofNat n))
 |x,y=>ZQ op k x y
inductive BF where
 |mk (run:IntKind->Int->Int->Option AV)
def BF.run:BF->IntKind->Int->Int->Option AV | .mk f=>f
def Q4:BinOp->BF
 |.add=>⟨λk a b=>some (.int k (qY k (Int.add a b)))⟩
 |.sub=>⟨λk a b=>some (.int k (qY k (Int.sub a b)))⟩
 |.mul=>⟨λk a b=>some (.int k (qY k (Int.mul a b)))⟩
 |.quo=>⟨λk a b=>cond (eqI b (.ofNat 0)) none (match a,b with
  |.ofNat m,.ofNat n=>some (.int k (qY k (.ofNat (Nat.div m n))))
  |a,b=>some (.int k (k.wrap (a.tdiv b))))⟩
 |.rem=>⟨λk a b=>cond (eqI b (.ofNat 0)) none (match a,b with
  |.ofNat m,.ofNat n=>some (.int k (.ofNat (Nat.mod m n)))
  |a,b=>some (.int k (a.tmod b)))⟩
 |.eql=>⟨λ_ a b=>some (.bool (eqI a b))⟩
 |.neq=>⟨λ_ a b=>some (.bool (cond (eqI a b) false true))⟩
 |.lss=>⟨λ_ a b=>some (.bool (ltI a b))⟩
 |.leq=>⟨λ_ a b=>some (.bool (cond (ltI b a) false true))⟩
 |.gtr=>⟨λ_ a b=>some (.bool (ltI b a))⟩
 |.geq=>⟨λ_ a b=>some (.bool (cond (ltI a b) false true))⟩
 |.and=>⟨λk a b=>(ki .and k a b).map (.int k)⟩
 |.or=>⟨λk a b=>(ki .or k a b).map (.int k)⟩
 |.xor=>⟨λk a b=>(ki .xor k a b).map (.int k)⟩
 |.andNot=>⟨λk a b=>(ZQ .andNot k a b).map (.int k)⟩
 |.shl=>⟨λ_ _ _=>none⟩
 |.shr=>⟨λ_ _ _=>none⟩
def Zw (op:BinOp)(k:IntKind)(a b:Int):Option AV:=
 match op with
 |.shl=>cond (ltI b (.ofNat 0)) none (some (.int k (k.wrap (a * 2 ^ (min b.toNat k.bits)))))
 |.shr=>cond (ltI b (.ofNat 0)) none (some (.int k (a.fdiv (2 ^ (min b.toNat k.bits)))))
 |_=>none
def Y9 (a:List Nat):List Nat->Bool:=
 List.rec (motive:=λ_=>List Nat->Bool) (λb=>match b with|[]=>true|_=>false)
  (λx _ ih b=>match b with|[]=>false|y :: b=>cond (Qci x y) (ih b) false) a
def bytesLess:List Nat->List Nat->Bool
 |_,[]=>false
 |[],_ :: _=>true
 |a :: x,b :: y=>Qck (Qcj a) b ||(Qci a b && bytesLess x y)
def vE (op:BinOp)(a b:List Nat):Option AV:=
 match op with
 |.add=>cond (Qck (Qcl (jP a) (jP b)) 9223372036854775807) (some (.str (yS a b))) none
 |.eql=>some (.bool (Y9 a b))
 |.neq=>some (.bool (cond (Y9 a b) false true))
 |.lss=>some (.bool (bytesLess a b))
 |.leq=>some (.bool (bytesLess a b ||Y9 a b))
 |.gtr=>some (.bool (!(bytesLess a b ||Y9 a b)))
 |.geq=>some (.bool (!bytesLess a b))
 |_=>none
def zp (P:Program)(t:TypeId)(cs:List AV)(off:Nat):Option AV:=
 (isAgg P t).bind λg=>cond g ((sizeOf P t).map λs=>.agg (yi (zj cs off) s)) (cond (Qck (Qcj off) (jP cs)) (some (ym .bad cs off)) none)
structure QF where
 run:AV->AV->Option Bool
def NOQ:QF:=⟨λ_ _=>none⟩
def eqF (P:Program):Nat->TypeId->QF
 |0,_=>NOQ
 |d+1,t=>
  match P.underlying t with
  |some .bool=>⟨λx y=>match x,y with | .bool a,.bool b=>some (cond a b (cond b false true))|_,_=>none⟩
  |some (.int _)=>⟨λx y=>match x,y with | .int k a,.int k' b=>cond (eqK k k') (some (eqI a b)) none|_,_=>none⟩
  |some .string=>⟨λx y=>match x,y with | .str a,.str b=>some (Y9 a b)|_,_=>none⟩
  |some (.pointer _)=>⟨λx y=>match x,y with | .nilp,.nilp=>some true | .nilp,.ptr _ _=>some false | .ptr _ _,.nilp=>some false|_,_=>none⟩
  |some (.slice _)=>⟨λx y=>match x,y with | .nils,.nils=>some true | .nils,.slice _ _ _ _ _ _=>some false | .slice _ _ _ _ _ _,.nils=>some false | .lst (_+1) _,.nils=>some false|_,_=>none⟩
  |some (.map _ _)=>⟨λx y=>match x,y with | .nilm,.nilm=>some true | .nilm,.map _=>some false | .map _,.nilm=>some false|_,_=>none⟩
  |some (.func _ _ _)=>⟨λx y=>match x,y with | .nilf,.nilf=>some true | .nilf,.fn _ _=>some false | .fn _ _,.nilf=>some false|_,_=>none⟩
  |some (.interface _)=>⟨λx y=>match x,y with | .nilif,.iface _ _=>some false | .iface _ _,.nilif=>some false|_,_=>none⟩
  |some (.struct fields)=>
   cond (P.stoodInHeld t || fields.toList.any λf => f.name == "_") NOQ
   ⟨λx y=>match x,y with
    |.agg xs,.agg ys=>
     fields.toList.foldr (λf r=>(zp P f.type xs f.offset).bind λu=>(zp P f.type ys f.offset).bind λv=>
      ((eqF P d f.type).run u v).bind λq=>cond q r (some false)) (some true)
    |_,_=>none⟩
  |some (.array len e)=>
   match sizeOf P e with
   |some n=>
    ⟨λx y=>match x,y with
     |.agg xs,.agg ys=>
      (Qac 0 len).foldr (λi r=>(zp P e xs (Qcm i n)).bind λu=>(zp P e ys (Qcm i n)).bind λv=>
       ((eqF P d e).run u v).bind λq=>cond q r (some false)) (some true)
     |_,_=>none⟩
   |none=>NOQ
  |_=>NOQ
def Uj (c:Bool)(x y:AV):Option Bool:=
 match x,y with
 |.nilif,.nilif=>cond c (some true) none
 |.nilif,.iface _ _=>some false
 |.iface _ _,.nilif=>some false
 |_,_=>none
def J4 (P:Program)(op:BinOp)(t:TypeId)(c:Bool)(x y:OF):EF:=
 match P.underlying t with
 |some (.interface _)=>
  match op with
  |.eql=>⟨λenv st=>jR (Uj c (x.run env) (y.run env)) λb=>.ok (.bool b) st⟩
  |.neq=>⟨λenv st=>jR (Uj c (x.run env) (y.run env)) λb=>.ok (.bool (cond b false true)) st⟩
  |_=>NOE
 |some (.int _)=>
  match op with
  |.shl=>⟨λenv st=>match x.run env,y.run env with | .int k a,.int _ b=>jR (Zw .shl k a b) λv=>.ok v st|_,_=>.no⟩
  |.shr=>⟨λenv st=>match x.run env,y.run env with | .int k a,.int _ b=>jR (Zw .shr k a b) λv=>.ok v st|_,_=>.no⟩
  |op=>⟨λenv st=>match x.run env,y.run env with
   |.int k a,.int k' b=>cond (eqK k k') (jR ((Q4 op).run k a b) λv=>.ok v st) .no
   |_,_=>.no⟩
 |some .string=>⟨λenv st=>match x.run env,y.run env with | .str a,.str b=>jR (vE op a b) λv=>.ok v st|_,_=>.no⟩
 |_=>
  cond (P.eqGuardType P.depth t) NOE <|
  match op with
  |.eql=>⟨λenv st=>jR ((eqF P 20 t).run (x.run env) (y.run env)) λb=>.ok (.bool b) st⟩
  |.neq=>⟨λenv st=>jR ((eqF P 20 t).run (x.run env) (y.run env)) λb=>.ok (.bool (cond b false true)) st⟩
  |_=>NOE
def Yn (op:UnOp)(x:OF):EF:=
 match op with
 |.neg=>⟨λenv st=>match x.run env with | .int k n=>.ok (.int k (k.wrap (0 - n))) st|_=>.no⟩
 |.xor=>⟨λenv st=>match x.run env with | .int k n=>jR (ZQ .xor k (if k.signed then -1 else k.max) n) λm=>.ok (.int k m) st|_=>.no⟩
 |.not=>⟨λenv st=>Zz (x.run env) λb=>.ok (.bool (cond b false true)) st⟩
 |.plus=>NOE
def YH:List AV->Option (List Nat)
 |[]=>some []
 |.int .u8 (.ofNat n) :: l=>cond (Qck n 255) ((YH l).map (n :: ·)) none
 |_=>none
def JJ (P:Program)(src dst:TypeId)(x:OF):EF:=
 match P.underlying src,P.underlying dst with
 |some (.int _),some (.int k)=>⟨λenv st=>match x.run env with | .int _ n=>.ok (.int k (qY k n)) st|_=>.no⟩
 |some .string,some .string=>⟨λenv st=>zM (x.run env) λs=>.ok (.str s) st⟩
 |some (.slice e),some .string=>
  match P.underlying e with
  |some (.int .u8)=>⟨λenv st=>match x.run env with
   |.nils=>.ok (.str []) st
   |.slice b o len _ _ _=>yh (jx st.h b) λn zl z cs=>cond (Qck (Qcl o len) n)
    (cond (Qck len 4096) (jR (YH (jT zl z cs len o)) λs=>.ok (.str s) st)
     (match cs,z with | .e,[.int .u8 (.ofNat 0)]=>cond (Qci zl 1) (.ok (.zstr len) st) .no|_,_=>.no)) .no
   |_=>.no⟩
  |_=>NOE
 |some .string,some (.slice e)=>
  match P.underlying e with
  |some (.int .u8)=>⟨λenv st=>zM (x.run env) λs=>force (jP s) λn=>
   st.alloc (.row n n (ye (λc=>.int .u8 (.ofNat c)) s) .e) λb st=>.ok (.slice b 0 n n 1 false) st⟩
  |_=>NOE
 |_,_=>NOE
def elemOf (P:Program)(t:TypeId):Option TypeId:=
 match P.underlying t with
 |some (.slice e)=>some e
 |_=>none
def Z7 (P:Program)(t:TypeId)(len cap:OF):EF:=
 match elemOf P t with
 |some e=>
  match P.info? e,zeroCells P e with
  |some i,some z=>
   cond (cond (lall AV.cell z) (Qci (jP z) i.size) false) ⟨λenv st=>qp (len.run env) λl=>qp (cap.run env) λc=>
    cond (Qck l c) (cond (Qck (Qcm i.bytes c) 140737488355328) (cond (Qck c 9223372036854775807)
     (force (Qcm c i.size) λn=>st.alloc (.row n i.size z .e) λb st=>.ok (.slice b 0 l c i.size true) st) .no) .no) .no⟩ NOE
  |_,_=>NOE
 |none=>NOE
def optF (x:Option OF)(d:Nat)(env:Env)(k:Nat->ER):ER:=
 match x with
 |none=>k d
 |some v=>qp (v.run env) k
def QL (P:Program)(t:TypeId)(x:OF)(lo hi mx:Option OF):EF:=
 match P.underlying t with
 |some .string=>
  match mx with
  |none=>⟨λenv st=>zM (x.run env) λs=>force (jP s) λn=>optF lo 0 env λl=>optF hi n env λh=>
    cond (Qck l h) (cond (Qck h n) (.ok (.str (yi (zj s l) (Qcn h l))) st) .no) .no⟩
  |some _=>NOE
 |some (.slice e)=>
  match sizeOf P e with
  |some sz=>
   match mx with
   |none=>⟨λenv st=>match x.run env with
     |.nils=>optF lo 0 env λl=>optF hi 0 env λh=>cond (Qci l 0) (cond (Qci h 0) (.ok .nils st) .no) .no
     |.slice b o len cap sz' ex=>optF lo 0 env λl=>optF hi len env λh=>
      cond (Qci sz' sz) (cond (Qck l h) (cond (Qck h cap) (force (Qcn h l) λk=>force (Qcl o (Qcm l sz)) λo=>force (Qcn cap l) λc=>.ok (.slice b o k c sz ex) st) .no) .no) .no
     |.lst n cs=>optF lo 0 env λl=>optF hi n env λh=>
      cond (Qck l h) (cond (Qck h n) (cond (Qck (Qcm h sz) (jP cs)) (.ok (.lst (Qcn h l) (yi (zj cs (Qcm l sz)) (Qcm (Qcn h l) sz))) st) .no) .no) .no
     |_=>.no⟩
   |some mx=>
    match hi with
    |none=>NOE
    |some hi=>⟨λenv st=>match x.run env with
     |.slice b o _ cap _ _=>optF lo 0 env λl=>qp (hi.run env) λh=>qp (mx.run env) λm=>
      cond (Qck l h) (cond (Qck h m) (cond (Qck m cap)
       (force (Qcn h l) λk=>force (Qcl o (Qcm l sz)) λo=>force (Qcn m l) λc=>.ok (.slice b o k c sz true) st) .no) .no) .no
     |.lst n cs=>optF lo 0 env λl=>qp (hi.run env) λh=>qp (mx.run env) λm=>
      cond (Qck l h) (cond (Qci h m) (cond (Qck m n) (cond (Qck (Qcm h sz) (jP cs))
       (.ok (.xlst (Qcn h l) (yi (zj cs (Qcm l sz)) (Qcm (Qcn h l) sz))) st) .no) .no) .no) .no
     |_=>.no⟩
  |none=>NOE
 |some (.array n e)=>
  match sizeOf P e with
  |some sz=>
   match mx with
   |none=>⟨λenv st=>q7 (x.run env) λb o=>optF lo 0 env λl=>optF hi n env λh=>
    cond (Qck l h) (cond (Qck h n)
     (force (Qcn h l) λk=>force (Qcl o (Qcm l sz)) λo=>force (Qcn n l) λc=>.ok (.slice b o k c sz true) st) .no) .no⟩
   |some _=>NOE
  |none=>NOE
 |_=>NOE
structure KF where
 run:AV->T AO->Option AV
def qQ (P:Program)(t:TypeId):KF:=
 match isAgg P t,sizeOf P t with
 |some true,some k=>⟨λa h=>match a with
  |.ptr b o=>(match jx h b with|some (.row n zl z cs)=>cond (Qck (Qcl o k) n) (some (.agg (jT zl z cs k o))) none|_=>none)
  |.lptr cs o=>cond (Qck (Qcl o k) (jP cs)) (some (.agg (yi (zj cs o) k))) none
  |_=>none⟩
 |some false,some _=>⟨λa h=>match a with
  |.ptr b o=>(match jx h b with|some (.row n zl z cs)=>cond (Qck (Qcj o) n) (some (qA zl z cs o)) none|_=>none)
  |.lptr cs o=>cond (Qck (Qcj o) (jP cs)) (some (ym .bad cs o)) none
  |_=>none⟩
 |_,_=>⟨λ_ _=>none⟩
def Yy (P:Program)(t:TypeId)(a:OF):EF:=
 ⟨λenv st=>match (qQ P t).run (a.run env) st.h with|some v=>.ok v st|none=>.no⟩
def jaJ (P:Program)(t:TypeId)(a x:OF):EF:=
 match sizeOf P t with
 |some k=>⟨λenv st=>q7 (a.run env) λb o=>yh (jx st.h b) λn zl z cs=>
  cond (Qci (jP (x.run env).cells) k) (cond (Qck (Qcl o k) n) (cond (lall AV.cell (x.run env).cells)
   (st.put b (.row n zl z (qj (x.run env).cells cs o)) λst=>.ok qd st) .no) .no) .no⟩
 |none=>NOE
def wh (cells:List AV)(place:Nat->Option (Nat×Nat))(l:List (Nat×AV)):Option (List AV):=
 match l with
 |[]=>some cells
 |(i,v) :: rest=>
  match place i with
  |some (off,size)=>
   cond v.plain (cond (Qci (jP v.cells) size) (cond (Qck (Qcl off size) (jP cells))
    (wh (yS (yi cells off) (yS v.cells (zj cells (Qcl off size)))) place rest) none) none) none
  |none=>none
def k9 (P:Program)(fields:Array Field)(i:Nat):Option (Nat×Nat):=
 (fields[i]?).bind λf=>(sizeOf P f.type).map λs=>(f.offset,s)
def Yv (env:Env)(ps:List (Nat×OF)):List (Nat×AV):=ye (λp=>(p.1,p.2.run env)) ps
def VB (P:Program)(t:TypeId)(ps:List (Nat×OF)):EF:=
 match zeroCells P t,P.underlying t with
 |some z,some (.struct fields)=>cond (fields.toList.all λf=>(sizeOf P f.type).isSome) ⟨λenv st=>jR (wh z (k9 P fields) (Yv env ps)) λcs=>.ok (.agg cs) st⟩ NOE
 |some z,some (.array _ e)=>
  match sizeOf P e with
  |some s=>⟨λenv st=>jR (wh z (λi=>some (Qcm i s,s)) (Yv env ps)) λcs=>.ok (.agg cs) st⟩
  |none=>NOE
 |_,_=>NOE
def qM (z:List AV)(n:Nat):List AV:=Nat.rec (motive:=λ_=>List AV) [] (λ_ ih=>yS z ih) n
def Zs (P:Program)(t:TypeId)(len:Nat)(ps:List (Nat×OF)):EF:=
 match elemOf P t with
 |some e=>
  match sizeOf P e,zeroCells P e with
  |some s,some z=>
   cond (cond (Qck (Qcm len s) 16777216) (Qci (jP z) s) false) ⟨λenv st=>jR (wh (qM z len) (λi=>some (Qcm i s,s)) (Yv env ps)) λcells=>
    cond (lall AV.cell cells) (force (jP cells) λn=>st.alloc (.row n n cells .e) λb st=>.ok (.slice b 0 len len s true) st) .no⟩ NOE
  |_,_=>NOE
 |none=>NOE
def YC (P:Program)(s:TypeId)(x:OF)(f:Nat):EF:=
 match P.underlying s with
 |some (.struct fields)=>
  match fields[f]? with
  |some f=>
   match sizeOf P f.type with
   |some (_+1)=>⟨λenv st=>match x.run env with
    |.ptr b o=>force (Qcl o f.offset) λo=>.ok (.ptr b o) st
    |.lptr cs o=>.ok (.lptr cs (Qcl o f.offset)) st
    |_=>.no⟩
   |_=>NOE
  |none=>NOE
 |_=>NOE
def uL (P:Program)(s:TypeId)(x:OF)(f:Nat):EF:=
 match P.underlying s with
 |some (.struct fields)=>
  match fields[f]? with
  |some f=>⟨λenv st=>Qh (x.run env) λcs=>jR (zp P f.type cs f.offset) λv=>.ok v st⟩
  |none=>NOE
 |_=>NOE
def Xc (P:Program)(t:TypeId)(x i:OF):EF:=
 match P.underlying t with
 |some (.array n e)=>
  match sizeOf P e with
  |some s=>⟨λenv st=>q7 (x.run env) λb o=>qp (i.run env) λi=>cond (Qck (Qcj i) n) (force (Qcl o (Qcm i s)) λo=>.ok (.ptr b o) st) .no⟩
  |none=>NOE
 |some (.slice e)=>
  match sizeOf P e with
  |some s=>⟨λenv st=>match x.run env with
   |.slice b o len _ _ _=>qp (i.run env) λi=>cond (Qck (Qcj i) len) (force (Qcl o (Qcm i s)) λo=>.ok (.ptr b o) st) .no
   |.lst n cs=>qp (i.run env) λi=>cond (Qck (Qcj i) n) (.ok (.lptr cs (Qcm i s)) st) .no
   |_=>.no⟩
  |none=>NOE
 |_=>NOE
def vb (P:Program)(t:TypeId)(x i:OF):EF:=
 match P.underlying t with
 |some (.array n e)=>
  match sizeOf P e with
  |some s=>⟨λenv st=>Qh (x.run env) λcs=>qp (i.run env) λi=>cond (Qck (Qcj i) n) (jR (zp P e cs (Qcm i s)) λv=>.ok v st) .no⟩
  |none=>NOE
 |some .string=>⟨λenv st=>zM (x.run env) λs=>qp (i.run env) λi=>cond (Qck (Qcj i) (jP s)) (.ok (.int .u8 (.ofNat (ym 0 s i))) st) .no⟩
 |_=>NOE
def Wy (q:QF)(k:AV)(es:List (AV×AV)):Option (Option AV):=
 List.rec (motive:=λ_=>Option (Option AV)) (some none) (λe _ ih=>match q.run k e.1 with|some b=>cond b (some (some e.2)) ih|none=>none) es
def uM (x y:AV):Bool:=
 match x with
 |.bool a=>(match y with | .bool b=>cond a b (cond b false true)|_=>false)
 |.int k a=>(match y with | .int k' b=>cond (eqK k k') (eqI a b) false|_=>false)
 |.str a=>(match y with | .str b=>Y9 a b|_=>false)
 |_=>false
def jbL (l:List AV):List AV->Bool:=
 List.rec (motive:=λ_=>List AV->Bool) (λr=>match r with|[]=>true|_=>false)
  (λx _ ih r=>match r with|y :: r=>cond (uM x y) (ih r) false|[]=>false) l
def Ur (x y:AV):Bool:=
 match x with
 |.agg l=>(match y with | .agg r=>jbL l r|_=>false)
 |x=>uM x y
def WW (q:QF)(k v:AV)(es:List (AV×AV)):Option (List (AV×AV)):=
 List.rec (motive:=λ_=>Option (List (AV×AV))) (some [(k,v)])
  (λe es ih=>match q.run k e.1 with
   |some b=>cond b (cond (Ur k e.1) (some (Qal (k,v) es)) none) (match ih with|some l=>some (Qal e l)|none=>none)
   |none=>none) es
structure PF where
 run:AV->Bool
def ZK (P:Program)(t:TypeId):PF:=
 match P.underlying t with
 |some .bool=>⟨λ_=>true⟩
 |some (.int _)=>⟨λ_=>true⟩
 |some .string=>⟨λ_=>true⟩
 |some (.array len e)=>
  match P.underlying e,sizeOf P e with
  |some (.int _),some 1=>⟨λk=>match k with | .agg cs=>Qci (jP cs) len|_=>false⟩
  |_,_=>⟨λ_=>false⟩
 |_=>⟨λ_=>false⟩
def ofZ:Value->AV
 |.agg cs=>.agg (cs.toList.map ofV)
 |v=>ofV v
def kv (P:Program)(t:TypeId):Option AV:=(P.info? t).bind λi=>i.zero.map ofZ
def Q9 (P:Program)(t:TypeId)(m k:OF)(ok:Bool):EF:=
 match P.underlying t with
 |some (.map kt e)=>
  match kv P e with
  |some zero=>
   ⟨λenv st=>match m.run env with
    |.nilm=>cond ((ZK P kt).run (k.run env)) (.ok (cond ok (.tup [zero,.bool false]) zero) st) .no
    |.map r=>cond ((ZK P kt).run (k.run env)) (Zh (jx st.h r) λes=>jR (Wy (eqF P 20 kt) (k.run env) es) λo=>
     match o with
     |some v=>.ok (cond ok (.tup [v,.bool true]) v) st
     |none=>.ok (cond ok (.tup [zero,.bool false]) zero) st) .no
    |_=>.no⟩
  |none=>NOE
 |_=>NOE
def Jb (P:Program)(t:TypeId)(m k v:OF):EF:=
 match P.underlying t with
 |some (.map kt _)=>
  ⟨λenv st=>match m.run env with
   |.map r=>cond ((ZK P kt).run (k.run env)) (Zh (jx st.h r) λes=>jR (WW (eqF P 20 kt) (k.run env) (v.run env) es) λes=>st.put r (.map es) λst=>.ok qd st) .no
   |_=>.no⟩
 |_=>NOE
def firstCells (st:St)(size n:Nat)(v:AV)(k:List AV->ER):ER:=
 match v with
 |.slice b o _ _ _ _=>yh (jx st.h b) λm zl z cs=>force (Qcm n size) λc=>cond (Qck (Qcl o c) m) (k (jT zl z cs c o)) .no
 |.nils=>k []
 |.lst _ cs=>cond (Qck (Qcm n size) (jP cs)) (k (yi cs (Qcm n size))) .no
 |.str s=>k (ye (λ(n:Nat)=>AV.int .u8 (.ofNat n)) (yi s n))
 |_=>.no
def JN (v:AV)(k:Nat->ER):ER:=
 match v with
 |.slice _ _ n _ _ _=>k n
 |.nils=>k 0
 |.lst n _=>k n
 |.str s=>force (jP s) k
 |_=>.no
def qS (st:St)(size bytes:Nat)(s:AV)(n:Nat)(news:List AV):ER:=
 cond (Qci (jP news) (Qcm n size)) (match s with
 |.nils=>cond (Qci n 0) (.ok .nils st) (cond (Qck (Qcm n bytes) 140737488355328) (cond (Qck n 9223372036854775807)
   (force (Qcm n size) λm=>st.alloc (.row m m news .e) λb st=>.ok (.slice b 0 n n size false) st) .no) .no)
 |.slice b o sl cap sz ex=>
  force (Qcl sl n) λneed=>
  yh (jx st.h b) λm zl z cs=>
  cond (Qck need cap)
   (cond (Qci n 0) (.ok s st)
    (cond (Qck (Qcl o (Qcm need size)) m)
     (st.put b (.row m zl z (qj news cs (Qcl o (Qcm sl size)))) λst=>.ok (.slice b o need cap sz ex) st) .no))
   (cond (Qck (Qcm need bytes) 140737488355328) (cond (Qck need 9223372036854775807) (cond ex
    (force (Qcm sl size) λk=>cond (Qck (Qcl o k) m)
     (force (Qcm need size) λt=>st.alloc (.row t t (yS (jT zl z cs k o) news) .e) λb st=>.ok (.slice b 0 need need size false) st) .no)
    (cond (Qci sz size) (cond (Qci o 0) (cond (Qci (Qcm sl size) m)
     (st.put b .dead λst=>force (Qcm need size) λt=>
      st.alloc (.row t zl z (qj news cs m)) λb st=>.ok (.slice b 0 need need size false) st) .no) .no) .no)) .no) .no)
 |.xlst sl cs=>cond (Qci n 0) .no
   (force (Qcl sl n) λneed=>cond (Qck (Qcm need bytes) 140737488355328) (cond (Qck need 9223372036854775807) (cond (Qck (Qcm sl size) (jP cs))
    (force (Qcm need size) λt=>st.alloc (.row t t (yS (yi cs (Qcm sl size)) news) .e) λb st=>.ok (.slice b 0 need need size false) st) .no) .no) .no)
 |_=>.no) .no
def Qx (P:Program)(t u:TypeId)(s x:OF):EF:=
 match elemOf P t with
 |some e=>
  match P.info? e,zeroCells P e with
  |some i,some z=>
   cond (cond (lall AV.cell z) (Qci (jP z) i.size) false) (match P.underlying u with
    |some (.int _)=>⟨λenv st=>qp (x.run env) λn=>cond (Qck (Qcm n i.bytes) 281474976710656) (cond (Qck n 9223372036854775807) (qS st i.size i.bytes (s.run env) n (qM z n)) .no) .no⟩
    |some (.slice _)=>⟨λenv st=>JN (x.run env) λn=>firstCells st i.size n (x.run env) λnews=>qS st i.size i.bytes (s.run env) n news⟩
    |some .string=>⟨λenv st=>JN (x.run env) λn=>firstCells st i.size n (x.run env) λnews=>qS st i.size i.bytes (s.run env) n news⟩
    |_=>NOE) NOE
  |_,_=>NOE
 |none=>NOE
def WE (P:Program)(t:TypeId)(d x:OF):EF:=
 match elemOf P t with
 |some e=>
  match sizeOf P e with
  |some size=>
   ⟨λenv st=>JN (x.run env) λn0=>match d.run env with
    |.nils=>.ok (.int .i64 (.ofNat 0)) st
    |.slice b o dl _ _ _=>force (cond (Qck n0 dl) n0 dl) λn=>firstCells st size n (x.run env) λcells=>
     yh (jx st.h b) λm zl z cs=>cond (Qck (Qcl o (jP cells)) m)
      (st.put b (.row m zl z (qj cells cs o)) λst=>.ok (.int .i64 (.ofNat n)) st) .no
    |_=>.no⟩
  |none=>NOE
 |none=>NOE
def ZI (P:Program)(t:TypeId)(x:OF):EF:=
 match P.underlying t with
 |some .string=>⟨λenv st=>match x.run env with | .str s=>force (jP s) λn=>.ok (.int .i64 (.ofNat n)) st | .zstr n=>.ok (.int .i64 (.ofNat n)) st|_=>.no⟩
 |some (.array n _)=>⟨λ_ st=>.ok (.int .i64 (.ofNat n)) st⟩
 |some (.slice _)=>⟨λenv st=>match x.run env with | .nils=>.ok (.int .i64 (.ofNat 0)) st | .slice _ _ n _ _ _=>.ok (.int .i64 (.ofNat n)) st | .lst n _=>.ok (.int .i64 (.ofNat n)) st|_=>.no⟩
 |some (.map _ _)=>⟨λenv st=>match x.run env with | .nilm=>.ok (.int .i64 (.ofNat 0)) st | .map r=>Zh (jx st.h r) λes=>force (jP es) λn=>.ok (.int .i64 (.ofNat n)) st|_=>.no⟩
 |_=>NOE
def Vz (P:Program)(t:TypeId)(x:OF):EF:=
 match P.underlying t with
 |some (.slice _)=>⟨λenv st=>match x.run env with | .nils=>.ok (.int .i64 (.ofNat 0)) st | .slice _ _ _ n _ true=>.ok (.int .i64 (.ofNat n)) st|_=>.no⟩
 |_=>NOE
def min2 (x y:AV):Option AV:=
 match x,y with
 |.int k a,.int k' b=>cond (eqK k k') (some (.int k (cond (ltI b a) b a))) none
 |_,_=>none
def max2 (x y:AV):Option AV:=
 match x,y with
 |.int k a,.int k' b=>cond (eqK k k') (some (.int k (cond (ltI a b) b a))) none
 |_,_=>none
def QH (f:AV->AV->Option AV):AV->List AV->Option AV
 |x,[]=>some x
 |x,y :: l=>(f x y).bind λz=>QH f z l
def qE (P:Program)(b:Builtin)(ts:Array TypeId)(args:List OF):EF:=
 match b,args,ts.toList with
 |.len,[x],t :: _=>ZI P t x
 |.cap,[x],t :: _=>Vz P t x
 |.append,[s,x],t :: u :: _=>Qx P t u s x
 |.copy,[d,x],t :: _=>WE P t d x
 |.min,x :: l,_=>⟨λenv st=>jR (QH min2 (x.run env) (ye (λx=>x.run env) l)) λv=>.ok v st⟩
 |.max,x :: l,_=>⟨λenv st=>jR (QH max2 (x.run env) (ye (λx=>x.run env) l)) λv=>.ok v st⟩
 |_,_,_=>NOE
def jlF (P:Program)(want:Array (String×TypeId))(t:TypeId):Option Bool:=
 (P.info? t).map λi=>(Instr.missingMethod want i.methods).isSome
def Yg (P:Program)(x:OF)(asserted:TypeId):EF:=
 match kv P asserted with
 |none=>NOE
 |some z=>
  match P.underlying asserted with
  |some (.interface want)=>
   ⟨λenv st=>match x.run env with
    |.nilif=>.ok (.tup [z,.bool false]) st
    |.iface t v=>jR (jlF P want t) λb=>cond b (.ok (.tup [z,.bool false]) st) (.ok (.tup [.iface t v,.bool true]) st)
    |_=>.no⟩
  |some _=>⟨λenv st=>match x.run env with
    |.nilif=>.ok (.tup [z,.bool false]) st
    |.iface t v=>cond (Qci t asserted) (.ok (.tup [v,.bool true]) st) (.ok (.tup [z,.bool false]) st)
    |_=>.no⟩
  |none=>NOE
def V6 (x:OF):EF:=
 ⟨λenv st=>q7 (x.run env) λr o=>cond (Qci o 0) (match jx st.h r with
  |some (.iter s pos)=>
   cond (Qck (jP s) pos) (.ok (.tup [.bool false]) st)
    (force (ym 0 s pos) λc=>cond (Qck c 127) (st.put r (.iter s (Qcj pos)) λst=>.ok (.tup [.bool true,.int .i64 (.ofNat pos),.int .i32 (.ofNat c)]) st) .no)
  |_=>.no) .no⟩
def J7 (x:OF):EF:=
 ⟨λenv st=>match x.run env with | .nilp=>.no | .nilif=>.no | .nilf=>.no | .bad=>.no|v=>.ok v st⟩
def jy (P:Program)(op:Operand->OF)(o:Op):EF:=
 match o with
 |.move x=>⟨λenv st=>.ok ((op x).run env) st⟩
 |.assign x=>⟨λenv st=>.ok ((op x).run env) st⟩
 |.pick c a b=>⟨λenv st=>Zz ((op c).run env) λq=>.ok (cond q ((op a).run env) ((op b).run env)) st⟩
 |.alloc t=>match zeroCells P t with|some z=>cond (lall AV.cell z) ⟨λ_ st=>newRow st z⟩ NOE|none=>NOE
 |.box _ x=>⟨λenv st=>cond (lall AV.cell ((op x).run env).cells) (newRow st ((op x).run env).cells) .no⟩
 |.build t ps=>VB P t (ye (λp=>(p.1,op p.2)) ps.toList)
 |.buildSlice t n ps=>Zs P t n (ye (λp=>(p.1,op p.2)) ps.toList)
 |.load t a=>Yy P t (op a)
 |.store t a x=>jaJ P t (op a) (op x)
 |.nilCheck x=>J7 (op x)
 |.binOp b t x y _=>J4 P b t (Region.isConst x ||Region.isConst y) (op x) (op y)
 |.unOp b _ x=>Yn b (op x)
 |.convert s d x=>JJ P s d (op x)
 |.makeInterface t x=>match P.underlying t with|some (.interface _)=>NOE|some _=>⟨λenv st=>.ok (.iface t ((op x).run env)) st⟩|none=>NOE
 |.makeFunc (.func f) first caps=>match first.toList with|[]=>⟨λenv st=>.ok (.fn f (ye (λx=>(op x).run env) caps.toList)) st⟩|_=>NOE
 |.makeMap _ none=>⟨λ_ st=>st.alloc (.map []) λb st=>.ok (.map b) st⟩
 |.makeSlice t l c=>Z7 P t (op l) (op c)
 |.slice t x lo hi mx=>QL P t (op x) (lo.map op) (hi.map op) (mx.map op)
 |.fieldAddr s x f=>YC P s (op x) f
 |.field s x f=>uL P s (op x) f
 |.indexAddr t x i=>Xc P t (op x) (op i)
 |.index t x i=>vb P t (op x) (op i)
 |.lookup t m k ok=>Q9 P t (op m) (op k) ok
 |.mapUpdate t m k v=>Jb P t (op m) (op k) (op v)
 |.range t x=>match P.underlying t with
  |some .string=>⟨λenv st=>zM ((op x).run env) λs=>st.alloc (.iter s 0) λb st=>.ok (.ptr b 0) st⟩
  |_=>NOE
 |.next it true=>V6 (op it)
 |.typeAssert x _ t true=>Yg P (op x) t
 |.panic x=>⟨λenv st=>match (op x).run env with | .iface t v=>.pn (.iface t v) st|_=>.no⟩
 |.extract x i=>⟨λenv st=>match (op x).run env with | .tup vs=>cond (Qck (Qcj i) (jP vs)) (.ok (ym .bad vs i) st) .no|_=>.no⟩
 |.defer c=>match c.callee with
  |.value f=>⟨λenv st=>match (op f).run env with
   |.fn f caps=>.ok qd ⟨st.nx,st.h,st.dirty,Qal (f,yS (ye (λx=>(op x).run env) c.args.toList) caps) st.fr⟩
   |_=>.no⟩
  |_=>NOE
 |.call c=>match c.callee with
  |.builtin b=>qE P b c.argTypes (ye op c.args.toList)
  |_=>NOE
 |_=>NOE
def qu (o:Op):Option (Operand×List Operand):=
 match o with
 |.call c=>match c.callee with | .value f=>some (f,c.args.toList)|_=>none
 |_=>none
structure WF where
 run:Env->Option Bool
def yf (op:Operand->OF)(ops:Array Oper)(o:Oper):Option WF:=
 match o.guard with
 |none=>none
 |some (j,want)=>
  match (ops[j]?).bind (·.dst) with
  |some d=>some ⟨λenv=>match (op (.tmp d)).run env with | .bool b=>some (cond b want (cond want false true)) | .bad=>none|_=>some false⟩
  |none=>some ⟨λ_=>none⟩
def zP (U:Nat)(ns:List Nat):LF:=
 List.rec (motive:=λ_=>LF) ⟨λ_ t=>t⟩
  (λn _ ih=>cond (inU U n) ⟨λrs t=>List.casesOn rs t (λv rs=>(j1 (jK n)).run v (ih.run rs t))⟩
   ⟨λrs t=>List.casesOn rs t (λ_ rs=>ih.run rs t)⟩) ns
def qv (dst:Option Tmp)(ns:List Nat):List Nat:=
 match dst with
 |some d=>Qal d ns
 |none=>ns
structure VF where
 run:AV->List AV->List AV
def yM (dst:Option Tmp):VF:=
 match dst with
 |some _=>⟨λv rs=>Qal v rs⟩
 |none=>⟨λ_ rs=>rs⟩
inductive Cl where
 |pure
 |reads
 |makes
 |writes
 |other
def jV (P:Program)(o:Op):Cl:=
 match o with
 |.move _=>.pure | .assign _=>.pure | .pick _ _ _=>.pure | .build _ _=>.pure | .nilCheck _=>.pure | .binOp _ _ _ _ _=>.pure | .unOp _ _ _=>.pure
 |.makeInterface _ _=>.pure | .makeFunc _ _ _=>.pure | .slice _ _ _ _ _=>.pure | .fieldAddr _ _ _=>.pure | .field _ _ _=>.pure | .indexAddr _ _ _=>.pure | .index _ _ _=>.pure
 |.extract _ _=>.pure
 |.alloc _=>.makes | .box _ _=>.makes | .buildSlice _ _ _=>.makes | .makeSlice _ _ _=>.makes | .makeMap _ _=>.makes
 |.load _ _=>.reads
 |.store _ _ _=>.writes
 |.call c=>match c.callee with
  |.builtin .len=>match c.argTypes.toList with
   |t :: _=>match P.underlying t with|some (.map _ _)=>.other|_=>.pure
   |[]=>.other
  |.builtin .cap=>.pure | .builtin .min=>.pure | .builtin .max=>.pure
  |_=>.other
 |_=>.other
def JW (c:Cl):Bool:=match c with | .other=>true|_=>false
def J3 (e:Edge):Bool:=match e.ground with | .textOnly _=>false | .gcOnly _=>false|_=>true
def q6 (ops:List Oper):List Nat:=
 ops.foldl (λacc o=>acc ++ [o.after.toList.foldl (λs e=>cond (J3 e) (Nat.lor (Nat.lor s (Nat.pow 2 e.on)) (acc.getD e.on 0)) s) 0]) []
def yg (bs:List Nat)(i j:Nat):Bool:=inU (bs.getD i 0) j ||inU (bs.getD j 0) i
def acts (c:Cl):Bool:=match c with | .writes=>true | .other=>true|_=>false
def reads (c:Cl):Bool:=match c with | .reads=>true|_=>false
def Qw (c:Cl):Bool:=match c with | .writes=>true|_=>false
def QW (c:Cl):Bool:=match c with | .makes=>true|_=>false
def Ji (P:Program)(ops:Array Oper):Bool:=
 let bs:=q6 ops.toList
 (Qab ops.size).all λi=>match ops[i]? with
  |none=>false
  |some o=>o.after.toList.all (λe=>cond (J3 e) (Qck (Qcj e.on) i) true) &&
   (match o.op with | .select _ _=>false | .defer _=>false | .panic _=>false | .call { callee:=.builtin .recover,.. }=>false|_=>true) &&
   (Qab i).all λj=>match ops[j]? with
    |none=>false
    |some u=>yg bs i j ||(u.apart ops o &&
     !((Qw (jV P u.op) && acts (jV P o.op)) ||(acts (jV P u.op) && Qw (jV P o.op)) ||(QW (jV P u.op) && acts (jV P o.op))))
def yK (P:Program)(ops:Array Oper)(i:Nat)(o:Oper):Bool:=
 let bs:=q6 ops.toList
 JW (jV P o.op) && !(Qab ops.size).all λj=>Qci i j ||match ops[j]? with
  |none=>false
  |some u=>!JW (jV P u.op) ||yg bs i j
def partners (P:Program)(ops:Array Oper)(es:List Nat)(i:Nat)(o:Oper):List (Nat×TypeId):=
 es.zipIdx.filterMap λp=>match ops[p.1]? with
  |none=>none
  |some u=>cond (((reads (jV P u.op) && acts (jV P o.op)) ||(acts (jV P u.op) && reads (jV P o.op))) && !yg (q6 ops.toList) i p.1)
   (some (p.2,match u.op with | .load t _=>t|_=>0)) none
def jbM (x y:AV):Bool:=
 match x with
 |.bool a=>(match y with | .bool b=>cond a b (cond b false true)|_=>false)
 |.int k a=>(match y with | .int k' b=>cond (eqK k k') (eqI a b) false|_=>false)
 |.ptr b o=>(match y with | .ptr b' o'=>cond (Qci b b') (Qci o o') false|_=>false)
 |.nilp=>(match y with | .nilp=>true|_=>false)
 |.slice b o len cap sz ex=>(match y with | .slice b' o' len' cap' sz' ex'=>cond (Qci b b') (cond (Qci o o') (cond (Qci len len') (cond (Qci cap cap') (cond (Qci sz sz') (cond ex ex' (cond ex' false true)) false) false) false) false) false|_=>false)
 |.nils=>(match y with | .nils=>true|_=>false)
 |.map r=>(match y with | .map r'=>Qci r r'|_=>false)
 |.nilm=>(match y with | .nilm=>true|_=>false)
 |.nilf=>(match y with | .nilf=>true|_=>false)
 |.nilif=>(match y with | .nilif=>true|_=>false)
 |_=>false
open Classical in
def ui (a b:List AV):Bool:=decide (a=b)
def Y5 (x y:AV):Bool:=
 match x with
 |.lst n a=>(match y with | .lst m b=>cond (Qci n m) (ui a b) false|_=>false)
 |.xlst n a=>(match y with | .xlst m b=>cond (Qci n m) (ui a b) false|_=>false)
 |.lptr a i=>(match y with | .lptr b j=>cond (Qci i j) (ui a b) false|_=>false)
 |.str a=>(match y with | .str b=>Y9 a b|_=>false)
 |x=>jbM x y
def uN (l:List AV):List AV->Bool:=
 List.rec (motive:=λ_=>List AV->Bool) (λr=>match r with|[]=>true|_=>false)
  (λx _ ih r=>match r with|y :: r=>cond (Y5 x y) (ih r) false|[]=>false) l
def jff (x y:AV):Bool:=
 match x with
 |.agg l=>(match y with | .agg r=>uN l r|_=>false)
 |x=>Y5 x y
def jY (P:Program)(t:TypeId)(a v:AV)(h:T AO):Bool:=
 match a with
 |.lptr _ _=>true
 |a=>match (qQ P t).run a h with
  |some u=>jff v u
  |none=>false
def held (P:Program)(t:TypeId)(x:TE)(tb:List TE)(l:List (Nat×TypeId)):Bool:=
 List.rec (motive:=λ_=>Bool) true (λp _ ih=>
  cond (match x with
   |.rd a v=>(match ym .none tb p.1 with | .wr pre post=>cond (jY P t a v pre) (jY P t a v post) false | .rd _ _=>false | .none=>true)
   |.wr pre post=>(match ym .none tb p.1 with | .rd a v=>cond (jY P p.2 a v pre) (jY P p.2 a v post) false | .wr _ _=>false | .none=>true)
   |.none=>true) ih false) l
def stW (st:St):St:=⟨st.nx,st.h,st.nx,st.fr⟩
def unW (st st':St)(k:St->R):R:=
 force st.nx λn=>cond (Qck n st'.dirty) (k ⟨st'.nx,st'.h,st.dirty,st'.fr⟩) .no
def back (st st':St):St:=⟨st'.nx,st'.h,st'.dirty,st.fr⟩
def Za (P:Program)(op:Operand->OF)(fl:LF)(o:Oper)(next:RF):RF:=
 match qu o.op with
 |some (f,args)=>
  ⟨λcall n t rs st=>match (op f).run ⟨t,rs⟩ with
   |.fn f caps=>match call f (yS (ye (λx=>(op x).run ⟨t,rs⟩) args) caps) st with
    |.ok v st'=>next.run call n t ((yM o.dst).run v rs) (back st st')
    |.pn v st'=>.pn v (fl.run rs t) (back st st')
    |.no=>.no
   |_=>.no⟩
 |none=>
  ⟨λcall n t rs st=>match (jy P op o.op).run ⟨t,rs⟩ st with
   |.ok v st'=>next.run call n t ((yM o.dst).run v rs) st'
   |.pn v st'=>.pn v (fl.run rs t) st'
   |.no=>.no⟩
def Vg (w:Option WF)(dst:Option Tmp)(step next:RF):RF:=
 match w with
 |none=>step
 |some w=>⟨λcall n t rs st=>match w.run ⟨t,rs⟩ with
  |some b=>cond b (step.run call n t rs st) (next.run call n t ((yM dst).run qd rs) st)
  |none=>.no⟩
def yX (P:Program)(U:Nat)(ops:Array Oper)(l:List Oper):List Nat->RF:=
 List.rec (motive:=λ_=>List Nat->RF) (λns=>⟨λ_ _ t rs st=>.go ((zP U ns).run rs t) st⟩)
  (λo _ ih ns=>Vg (yf (jQ U ns) ops o) o.dst (Za P (jQ U ns) (zP U ns) o (ih (qv o.dst ns))) (ih (qv o.dst ns))) l
structure OD where
 run:qF->Env->St->(AV->TE->St->R)->(AV->St->R)->R
def Xt (P:Program)(op:Operand->OF)(o:Op)(te:AV->T AO->T AO->Env->TE):OD:=
 ⟨λ_ env st k _=>match (jy P op o).run env st with
  |.ok v st'=>k v (te v st.h st'.h env) st'
  |_=>.no⟩
def opD (P:Program)(op:Operand->OF)(w:Bool)(o:Op):OD:=
 match qu o with
 |some (f,args)=>
  cond w
   ⟨λcall env st k _=>match (op f).run env with
    |.fn f caps=>match call f (yS (ye (λx=>(op x).run env) args) caps) (stW st) with
     |.ok v st'=>unW st st' λst'=>k v (.wr st.h st'.h) (back st st')
     |_=>.no
    |_=>.no⟩
   ⟨λcall env st k kp=>match (op f).run env with
    |.fn f caps=>match call f (yS (ye (λx=>(op x).run env) args) caps) st with
     |.ok v st'=>k v (.wr st.h st'.h) (back st st')
     |.pn v st'=>kp v (back st st')
     |.no=>.no
    |_=>.no⟩
 |none=>
  match jV P o,o with
  |.pure,_=>Xt P op o λ_ _ _ _=>.none
  |.makes,_=>Xt P op o λ_ _ _ _=>.none
  |.reads,.load _ a=>Xt P op o λv _ _ env=>.rd ((op a).run env) v
  |.reads,_=>⟨λ_ _ _ _ _=>.no⟩
  |.writes,_=>Xt P op o λ_ pre post _=>.wr pre post
  |.other,_=>
   cond w
    ⟨λ_ env st k _=>match (jy P op o).run env (stW st) with
     |.ok v st'=>unW st st' λst'=>k v (.wr st.h st'.h) st'
     |_=>.no⟩
    (Xt P op o λ_ pre post _=>.wr pre post)
def Qi (o:Op):TypeId:=match o with | .load t _=>t|_=>0
def Jr (P:Program)(op:Operand->OF)(w:Bool)(l:List (Nat×TypeId))(o:Oper)(next:RD)(pan:AV->St->RD):RD:=
 ⟨λcall n t rs tb st=>(opD P op w o.op).run call ⟨t,rs⟩ st (λv te st'=>
  cond (held P (Qi o.op) te tb l) (next.run call n t ((yM o.dst).run v rs) (Qal te tb) st') .no)
  (λv st'=>(pan v st').run call n t rs tb st)⟩
def VS (dst:Option Tmp)(next:RD):RD:=
 ⟨λcall n t rs tb st=>next.run call n t ((yM dst).run qd rs) (Qal .none tb) st⟩
def Qu (w:Option WF)(dst:Option Tmp)(step next:RD):RD:=
 match w with
 |none=>step
 |some w=>⟨λcall n t rs tb st=>match w.run ⟨t,rs⟩ with
  |some b=>cond b (step.run call n t rs tb st) ((VS dst next).run call n t rs tb st)
  |none=>.no⟩
def ZR:RD:=⟨λ_ _ _ _ _ _=>.no⟩
def yl (P:Program)(U:Nat)(ops:Array Oper)(fin:List Nat->RD)(pan:Nat->List Nat->List Nat->AV->St->RD)(abs:Nat->Bool)(l:List Nat):List Nat->List Nat->RD:=
 List.rec (motive:=λ_=>List Nat->List Nat->RD) (λ_ ns=>fin ns)
  (λi _ ih es ns=>match ops[i]? with
   |some o=>cond (abs i) (VS o.dst (ih (Qal i es) (qv o.dst ns)))
    (Qu (yf (jQ U ns) ops o) o.dst
     (Jr P (jQ U ns) (yK P ops i o) (partners P ops es i o) o (ih (Qal i es) (qv o.dst ns)) (pan i es ns))
     (ih (Qal i es) (qv o.dst ns)))
   |none=>ZR) l
def Xm (U:Nat)(ns:List Nat):RD:=⟨λ_ _ t rs _ st=>.go ((zP U ns).run rs t) st⟩
def jbP (U:Nat)(ops:Array Oper)(i:Nat):Bool:=
 match ops[i]? with
 |some o=>match o.dst with|some d=>!inU U d|none=>true
 |none=>false
def Jt (ops:Array Oper)(i:Nat)(k:Nat):Bool:=Qci k i ||inU ((q6 ops.toList).getD k 0) i
def HQ (P:Program)(U:Nat)(ops:Array Oper)(i:Nat):Bool:=
 (Qab ops.size).all (λk=>Jt ops i k ||jbP U ops k) && (Qab i).all λp=>match ops[p]? with
  |some u=>inU ((q6 ops.toList).getD i 0) p ||!(QW (jV P u.op) ||acts (jV P u.op))
  |none=>false
def XR (P:Program)(U:Nat)(ops:Array Oper)(i:Nat)(es ns:List Nat)(v:AV)(st':St):RD:=
 cond (HQ P U ops i)
  ⟨λcall n t rs tb st=>match (yl P U ops (Xm U) (λ_ _ _ _ _=>ZR) (Jt ops i) (Qac i (Qcn ops.size i)) es ns).run call n t rs tb st with
   |.go _ _=>.pn v t st'
   |_=>.no⟩ ZR
def wj (P:Program)(U:Nat)(ops:Array Oper):RD:=yl P U ops (Xm U) (XR P U ops) (λ_=>false) (Qab ops.size) [] []
def NOC:CF:=⟨λ_ _ _ _=>.no⟩
def jmo (P:Program)(U:Nat)(ops:Array Oper)(draw:Bool):CF:=
 match draw with
 |false=>⟨λcall n t st=>(yX P U ops ops.toList []).run call n t [] st⟩
 |true=>cond (Ji P ops) ⟨λcall n t st=>(wj P U ops).run call n t [] [] st⟩ NOC
def vO (body:CF)(call:qF)(n:Nat)(k:Nat):T AV->St->R:=
 Nat.rec (motive:=λ_=>T AV->St->R) (λ_ _=>.no) (λ_ ih env st=>match body.run call n env st with | .go env st=>ih env st|r=>r) k
def comp (P:Program)(U:Nat)(c:Code):CF:=
 Code.rec (motive:=λ_=>CF)
  ⟨λ_ _ env st=>.go env st⟩
  (λ_ ops d=>jmo P U ops d)
  (λ_ _ A B=>⟨λcall n env st=>match A.run call n env st with | .go env st=>B.run call n env st|r=>r⟩)
  (λx _ _ A B=>⟨λcall n env st=>match (jQ U [] x).run ⟨env,[]⟩ with | .bool q=>cond q (A.run call n env st) (B.run call n env st)|_=>.no⟩)
  (λid _ A=>⟨λcall n env st=>match A.run call n env st with | .ex id' env st=>cond (Qci id' id) (.go env st) (.ex id' env st)|r=>r⟩)
  (λ_ A=>⟨λcall n env st=>vO A call n n env st⟩)
  (λ_ _ _ _ _ _=>NOC)
  (λid=>⟨λ_ _ env st=>.ex id env st⟩)
  (λ_ _=>NOC)
  (λ_=>NOC)
  (λ_=>NOC)
  ⟨λ_ _ env st=>.rt env st⟩
  (λ_=>NOC)
  c
def jqE (l:List Nat)(U:Nat)(x:Operand):Nat:=
 match x with
 |.tmp t=>cond (l.elem t) U (Nat.lor U (Nat.pow 2 t))
 |_=>U
def jcM:List Oper->List Nat->Nat->Nat
 |[],_,U=>U
 |o :: rest,l,U=>jcM rest (qv o.dst l) (o.op.operands.toList.foldl (jqE l) U)
def jtB (c:Code):Nat:=
 Code.rec (motive:=λ_=>Nat->Nat)
  (λU=>U)
  (λ_ ops _ U=>jcM ops.toList [] U)
  (λ_ _ A B U=>B (A U))
  (λx _ _ A B U=>B (A (jqE [] U x)))
  (λ_ _ A U=>A U)
  (λ_ A U=>A U)
  (λ_ _ _ _ _ _ U=>U)
  (λ_ U=>U)
  (λ_ A U=>A U)
  (λ_ U=>U)
  (λ_ U=>U)
  (λU=>U)
  (λ_ U=>U)
  c 0
def jmf (l:List ResultVar)(U:Nat):Nat:=
 l.foldl (λU r=>match r with | .tmp t=>Nat.lor U (Nat.pow 2 t) | .cell t _=>Nat.lor U (Nat.pow 2 t)) U
def zV (l:List AV):Nat->T AV->T AV:=
 List.rec (motive:=λ_=>Nat->T AV->T AV) (λ_ env=>env) (λv _ ih i env=>ih (Qcj i) ((j1 (jK i)).run v env)) l
structure XF where
 run:Env->St->Option AV
def Qv (P:Program)(U:Nat):ResultVar->XF
 |.tmp t=>⟨λenv _=>some ((jQ U [] (.tmp t)).run env)⟩
 |.cell a t=>⟨λenv st=>(qQ P t).run ((jQ U [] (.tmp a)).run env) st.h⟩
def yA (P:Program)(U:Nat)(l:List ResultVar)(env:Env)(st:St):Option (List AV):=
 List.rec (motive:=λ_=>Option (List AV)) (some []) (λr _ ih=>match (Qv P U r).run env st,ih with|some v,some vs=>some (Qal v vs)|_,_=>none) l
def zq (l:List AV):AV:=
 match l with
 |[v]=>v
 |vs=>.tup vs
def St.bare (st:St):St:=⟨st.nx,st.h,st.dirty,[]⟩
structure DF where
 run:FuncId->List AV->Md->St->DR
def zi (P:Program)(U:Nat)(callD:DF)(res:List ResultVar)(ds:List (FuncId×List AV)):T AV->St->Md->ER:=
 List.rec (motive:=λ_=>T AV->St->Md->ER)
  (λenv st m=>match m with
   |.calm=>(match yA P U res ⟨env,[]⟩ st with|some vs=>.ok (zq vs) st|none=>.no)
   |.pan v=>.pn v st
   |.done=>.no)
  (λd _ ih env st m=>match callD.run d.1 d.2 m st.bare with
   |.ok m' st'=>(match m' with
    |.calm=>ih env st'.bare .calm
    |.pan v=>ih env st'.bare (.pan v)
    |.done=>ih env st'.bare .calm)
   |.no=>.no) ds
def q8 (fn:Func)(body:Code):Nat:=jmf fn.results.toList (jtB body)
def jb3 (P:Program)(f:FuncId)(k:Func->Nat->CF->FF):FF:=
 match P.funcs[f]? with
 |some fn=>match fn.body with
  |some body=>k fn (q8 fn body) (comp P (q8 fn body) body)
  |none=>⟨λ_ _ _ _=>.no⟩
 |none=>⟨λ_ _ _ _=>.no⟩
structure HF where
 run:qF->Nat->List AV->Md->St->DR
def NOH:HF:=⟨λ_ _ _ _ _=>.no⟩
def QN (m:Md):AV:=match m with | .pan v=>v|_=>.nilif
def Xl (m:Md):Md:=match m with | .pan _=>.done|m=>m
def Kr (P:Program)(fn:Func)(U:Nat)(m:Md)(r:R):DR:=
 match r with
 |.go env st=>(match st.fr with|[]=>(match yA P U fn.results.toList ⟨env,[]⟩ st with|some _=>.ok m st|none=>.no)|_=>.no)
 |.rt env st=>(match st.fr with|[]=>(match yA P U fn.results.toList ⟨env,[]⟩ st with|some _=>.ok m st|none=>.no)|_=>.no)
 |_=>.no
def vP (o:Oper):Bool:=
 match o.op with
 |.call c=>(match c.callee with
  |.builtin .recover=>(match c.args.toList,o.guard with|[],none=>true|_,_=>false)
  |_=>false)
 |_=>false
def K2 (P:Program)(fn:Func)(U:Nat)(o:Oper)(A:RF)(B:CF):HF:=
 ⟨λcall n args m st=>Kr P fn U (Xl m) (match A.run call n (zV args 0 .e) ((yM o.dst).run (QN m) []) st with
  |.go env st=>B.run call n env st
  |r=>r)⟩
def yP (P:Program)(f:FuncId):HF:=
 match P.funcs[f]? with
 |some fn=>
  match fn.body with
  |some (.seq (.region id ops false) c)=>
   match ops.toList with
   |o :: l=>cond (vP o) (K2 P fn (q8 fn (.seq (.region id ops false) c)) o (yX P (q8 fn (.seq (.region id ops false) c)) ops l (qv o.dst []))
    (comp P (q8 fn (.seq (.region id ops false) c)) c)) NOH
   |[]=>NOH
  |some (.region id ops false)=>
   match ops.toList with
   |o :: l=>cond (vP o) (K2 P fn (q8 fn (.region id ops false)) o (yX P (q8 fn (.region id ops false)) ops l (qv o.dst [])) ⟨λ_ _ env st=>.go env st⟩) NOH
   |[]=>NOH
  |_=>NOH
 |none=>NOH
def Xj (P:Program)(f:FuncId):FF:=
 jb3 P f λfn U C=>⟨λcall n args st=>match C.run call n (zV args 0 .e) ⟨st.nx,st.h,st.dirty,[]⟩ with
  |.go env st=>zi P U ⟨λf args m st=>(yP P f).run call n args m st⟩ fn.results.toList st.fr env st.bare .calm
  |.rt env st=>zi P U ⟨λf args m st=>(yP P f).run call n args m st⟩ fn.results.toList st.fr env st.bare .calm
  |.pn v env st=>zi P U ⟨λf args m st=>(yP P f).run call n args m st⟩ fn.results.toList st.fr env st.bare (.pan v)
  |_=>.no⟩
def KU (P:Program)(loops depth:Nat):qF:=
 Nat.rec (motive:=λ_=>qF) (λ_ _ _=>.no) (λ_ ih f args st=>(Xj P f).run ih loops args st) depth
def st0:St:={ nx:=0,h:=.e,dirty:=0,fr:=[] }
def Q0 (n:Nat)(c:Code):Bool:=
 Code.rec (motive:=λ_=>Bool)
  true
  (λ_ ops _=>Kt (λo=>match o.dst with|some d=>Qck (Qcj d) n|none=>true) ops.toList)
  (λ_ _ a b=>cond a b false)
  (λ_ _ _ a b=>cond a b false)
  (λ_ _ a=>a)
  (λ_ a=>a)
  (λ_ _ _ _ a b=>cond a b false)
  (λ_=>true)
  (λ_ a=>a)
  (λ_=>true)
  (λ_=>true)
  true
  (λ_=>true)
  c
def okP (P:Program):Bool:=
 Kt (λfn => match fn.body with | none => true | some c => cond (Q0 fn.ntmps c) (!(fn.name == "runtime.NumGoroutine")) false) P.funcs.toList
def jg6:ER->Bool
 |.ok (.bool b) _=>b
 |_=>false
end plain
@[simp] theorem jE {α:Type} (n:Nat) (k:Nat->α):force n k=k n:=by cases n<;>rfl
def K4 (f n:Nat):List Bool:=
 Nat.rec (motive:=λ_=>Nat->List Bool) (λ_=>[]) (λ_ ih n=>cond (Qci n 0) [] (Qal (Qci (Nat.mod n 2) 1) (ih (Nat.div n 2)))) f n
theorem jb4 (n:Nat):jK n=K4 (n+1) n:=rfl
theorem jfx (f n:Nat):K4 (f+1) n=if n=0 then [] else decide (n % 2=1) :: K4 f (n / 2):=by
 show cond (Qci n 0) [] (Qal (Qci (Nat.mod n 2) 1) (K4 f (Nat.div n 2)))=_;by_cases h:n=0
 ·subst h;rfl
 ·have hb:Qci n 0=false:=by
   cases n with
   |zero=>exact absurd rfl h
   |succ n=>rfl
  rw[hb,if_neg h];have:Qci (Nat.mod n 2) 1=decide (n % 2=1):=by
   rw[Qay,decide_eq_true_iff];exact Nat.beq_eq▸Iff.rfl
  rw[this];rfl
def uw:List Bool->Nat
 |[]=>0
 |b :: l=>(if b then 1 else 0)+2 * uw l
theorem UA (f:Nat):∀ n,n<f->uw (K4 f n)=n:=by
 induction f with
 |zero=>intro n h;omega
 |succ f ih=>
  intro n h;rw[jfx];by_cases h0:n=0
  ·simp[h0,uw]
  ·simp only[if_neg h0,uw];rw[ih (n / 2) om];by_cases h1:n % 2=1
   ·simp[h1];omega
   ·simp[h1];omega
theorem jhV {m n:Nat}(h:jK m=jK n):m=n:=by
 have h1:=UA (m+1) m om;have h2:=UA (n+1) n om;have e:uw (jK m)=uw (jK n):=by rw[h]
 rw[jb4,jb4] at e;exact h1.symm.trans (e.trans h2)
section
variable {α:Type}
theorem jdl (t:T α):(QA (α:=α) []).run t=t.val:=rfl
theorem vh (b:Bool)(p:List Bool)(t:T α):(QA (b :: p)).run t=(QA p).run (if b then t.left else t.right):=by
 cases b<;>rfl
theorem gE (x:α)(t:T α):((j1 []).run x t).val=some x/\((j1 []).run x t).left=t.left/\((j1 []).run x t).right=t.right:=by
 cases t<;>exact⟨rfl,rfl,rfl⟩
theorem UQ (b:Bool)(p:List Bool)(x:α)(t:T α):((j1 (b :: p)).run x t).val=t.val /\
  ((j1 (b :: p)).run x t).left=(if b then(j1 p).run x t.left else t.left)/\((j1 (b :: p)).run x t).right=(if b then t.right else(j1 p).run x t.right):=by
 cases b<;>cases t<;>exact⟨rfl,rfl,rfl⟩
theorem Vh:∀ (p q:List Bool) (x:α) (t:T α),(QA p).run ((j1 q).run x t)=if p=q then some x else(QA p).run t
 |[],[],x,t=>by simp[jdl,(gE x t).1]
 |[],b :: q,x,t=>by simp[jdl,(UQ b q x t).1]
 |b :: p,[],x,t=>by
  rw[vh,vh,(gE x t).2.1,(gE x t).2.2];simp
 |b :: p,c :: q,x,t=>by
  rw[vh,vh,(UQ c q x t).2.1,(UQ c q x t).2.2];cases b<;>cases c<;>simp[Vh p q]
theorem Yd (m n:Nat)(x:α)(t:T α):(QA (jK m)).run ((j1 (jK n)).run x t)=if m=n then some x else(QA (jK m)).run t:=by
 rw[Vh];by_cases h:m=n
 ·subst h;simp
 ·have:jK m≠jK n:=λe=>h (jhV e);simp[h,this]
theorem Xe (p:List Bool):(QA p).run (.e:T α)=none:=by
 induction p with
 |nil=>rfl
 |cons b p ih=>rw[vh];cases b<;>exact ih
end
theorem gQ (h:T AO)(b:Nat):jx h b=(QA (jK b)).run h:=by simp[jx]
theorem jX (h:T AO)(b c:Nat)(o:AO):jx ((j1 (jK c)).run o h) b=if b=c then some o else jx h b:=by
 rw[gQ,Yd,gQ]
theorem jpM (b:Nat):jx .e b=none:=by rw[gQ,Xe]
section
variable {α β:Type}
@[simp] theorem jO (l:List α):jP l=l.length:=by
 induction l with
 |nil=>rfl
 |cons a l ih=>show force (jP l) Qcj=_;rw[ih];simp
@[simp] theorem zC (d:α):∀ (l:List α) (i:Nat),ym d l i=l.getD i d
 |[],i=>rfl
 |a :: l,0=>rfl
 |a :: l,i+1=>by show ym d l i=_;rw[zC d l i];simp
@[simp] theorem yR:∀ (l:List α) (i:Nat),zj l i=l.drop i
 |[],i=>by simp[zj]
 |a :: l,0=>rfl
 |a :: l,i+1=>by show zj l i=_;rw[yR l i];simp
@[simp] theorem qW:∀ (l:List α) (i:Nat),yi l i=l.take i
 |[],i=>by simp[yi]
 |a :: l,0=>rfl
 |a :: l,i+1=>by show a :: yi l i=_;rw[qW l i];simp
@[simp] theorem yv (l r:List α):yS l r=l ++ r:=by
 induction l with
 |nil=>rfl
 |cons a l ih=>show a :: yS l r=_;rw[ih];rfl
@[simp] theorem yE (f:α->β) (l:List α):ye f l=l.map f:=by
 induction l with
 |nil=>rfl
 |cons a l ih=>show f a :: ye f l=_;rw[ih];rfl
end
@[simp] theorem uJ (p:AV->Bool) (l:List AV):lall p l=l.all p:=by
 induction l with
 |nil=>rfl
 |cons a l ih=>show cond (p a) (lall p l) false=_;rw[ih];cases h:p a<;>simp[h]
theorem yL (zl:Nat)(z:List AV)(cs:T AV)(i:Nat):qA zl z cs i=((QA (jK i)).run cs).getD (z.getD (i % zl) .bad):=by
 simp only[qA,jE,zC];cases (QA (jK i)).run cs<;>rfl
@[simp] theorem qy (zl:Nat) (z:List AV) (cs:T AV):∀ (k i:Nat),jT zl z cs k i=(Qab k).map λj=>qA zl z cs (i+j)
 |0,i=>rfl
 |k+1,i=>by
  show qA zl z cs i :: jT zl z cs k (Qcj i)=_;rw[qy zl z cs k,List.range_succ_eq_map];simp only[ζ,Qbf,QaW]
  congr 1
  apply QaX;intro j _;simp only[Function.comp]
  congr 1
  omega
theorem jcp (zl:Nat)(z:List AV)(cs:T AV)(i j:Nat)(v:AV):qA zl z ((j1 (jK j)).run v cs) i=if i=j then v else qA zl z cs i:=by
 rw[yL,yL,Yd];split<;>rfl
theorem yQ (zl:Nat)(z:List AV):∀ (l:List AV) (cs:T AV) (j i:Nat),
  qA zl z (qj l cs j) i=if j<=i/\i<j+l.length then l.getD (i - j) .bad else qA zl z cs i
 |[],cs,j,i=>by
  have:¬ (j<=i/\i<j+([]:List AV).length):=by simp
  rw[if_neg this];rfl
 |v :: l,cs,j,i=>by
  have e:qj (v :: l) cs j=qj l ((j1 (jK j)).run v cs) (j+1):=by
   show(force j λi=>qj l ((j1 (jK i)).run v cs) (Qcj i))=_;rw[jE]
  rw[e,yQ zl z l,jcp];by_cases h:i=j
  ·subst h;simp;omega
  ·by_cases h2:j+1<=i/\i<j+1+l.length
   ·have h3:j<=i/\i<j+(v :: l).length:=by simp;omega
    rw[if_pos h2,if_pos h3];obtain⟨k,hk⟩:∃ k,i - j=k+1:=⟨i - j - 1,om⟩;rw[hk];have:i - (j+1)=k:=om
    simp[this]
   ·have h3:¬ (j<=i/\i<j+(v :: l).length):=by simp at h2 ⊢;omega
    rw[if_neg h2,if_neg h3,if_neg h]
theorem qH {a b:Nat}:Qci a b=true↔a=b:=by rw[Nat.beq_eq]
theorem qg {a b:Nat}:Qck a b=true↔a<=b:=by rw[Nat.ble_eq]
open Go.RowKit
inductive Loc where
 |unborn
 |dead
 |at (B S:Nat)
structure Inj where
 f:Nat->Loc
 g:Nat->Option (List Value)
instance:CoeFun Inj λ_=>Nat->Loc:=⟨Inj.f⟩
def Inj.gone (ι:Inj):Inj:=⟨λ_=>.unborn,ι.g⟩
mutual
def VR (ι:Inj):AV->Value->Prop
 |.bool b,v=>v=.bool b
 |.int k n,v=>v=.int k n
 |.str s,v=>∃ bs:ByteArray,v=.string bs/\bs.data.toList.map UInt8.toNat=s
 |.zstr n,v=>∃ bs:ByteArray,v=.string bs/\bs.size=n
 |.ptr b o,v=>ι b≠.unborn/\∃ a,v=.pointer (some a)/\∀ B S,ι b=.at B S->a=⟨B,o,none⟩
 |.nilp,v=>v=.pointer none
 |.slice b o len cap sz ex,v=>ι b≠.unborn/\len<=cap/\∃ a C,v=.slice (some a) len C/\cap<=C/\(ex=true->C=cap)/\∀ B S,ι b=.at B S->(C=0\/a=⟨B,o,none⟩)/\(ex=false->o+C * sz<=S)
 |.nils,v=>v=.slice none 0 0
 |.map r,v=>ι r≠.unborn/\∃ R,v=.map (some R)/\∀ B S,ι r=.at B S->R=B
 |.nilm,v=>v=.map none
 |.fn f caps,v=>∃ cv:Array Value,v=.func (.func f) #[] cv/\VRs ι caps cv.toList
 |.nilf,v=>v=.nilFunc
 |.iface t x,v=>∃ y,v=.iface t y/\VR ι x y
 |.nilif,v=>v=.nilIface
 |.agg cs,v=>∃ a:Array Value,v=.agg a/\VRs ι cs a.toList
 |.tup vs,v=>∃ a:Array Value,v=.tuple a/\VRs ι vs a.toList
 |.xlst n cs,v=>∃ p,v=.slice p n n/\cs.all AV.cell=true/\(0<n->∃ B o vs,p=some ⟨B,o,none⟩/\ι.g B=some vs/\o+cs.length<=vs.length/\VRs ι.gone cs ((vs.drop o).take cs.length))
 |.lst n cs,v=>∃ p C,v=.slice p n C/\n<=C/\cs.all AV.cell=true/\(0<n->∃ B o vs,p=some ⟨B,o,none⟩/\ι.g B=some vs/\o+cs.length<=vs.length/\VRs ι.gone cs ((vs.drop o).take cs.length))
 |.lptr cs k,v=>∃ B o vs,v=.pointer (some ⟨B,o+k,none⟩)/\cs.all AV.cell=true/\ι.g B=some vs/\o+cs.length<=vs.length/\VRs ι.gone cs ((vs.drop o).take cs.length)
 |.bad,_=>True
def VRs (ι:Inj):List AV->List Value->Prop
 |[],l=>l=[]
 |x :: xs,l=>∃ v vs,l=v :: vs/\VR ι x v/\VRs ι xs vs
end
def Le (ι ι':Inj):Prop:=(∀ b,ι b≠.unborn->ι' b=ι b\/ι' b=.dead)/\∀ B vs,ι.g B=some vs->ι'.g B=some vs
theorem Le.refl (ι:Inj):Le ι ι:=⟨λ_ _=>.inl rfl,λ_ _ h=>h⟩
theorem Le.trans {a b c:Inj}(h:Le a b)(k:Le b c):Le a c:=⟨λx hx=>by
 rcases h.1 x hx with e|e
 ·have:b x≠.unborn:=by rw[e];exact hx
  rcases k.1 x this with e'|e'
  ·exact .inl (e'.trans e)
  ·exact .inr e'
 ·have:b x≠.unborn:=by rw[e];simp
  rcases k.1 x this with e'|e'
  ·exact .inr (e'.trans e)
  ·exact .inr e',λB vs hB=>k.2 B vs (h.2 B vs hB)⟩
theorem Le.born {ι ι':Inj}(h:Le ι ι'){b:Nat}(hb:ι b≠.unborn):ι' b≠.unborn:=by
 rcases h.1 b hb with e|e
 ·rw[e];exact hb
 ·rw[e];simp
theorem Le.at {ι ι':Inj}(h:Le ι ι'){b B S:Nat}(hb:ι b≠.unborn)(e:ι' b=.at B S):ι b=.at B S:=by
 rcases h.1 b hb with k|k
 ·rw[<-k];exact e
 ·rw[k] at e;cases e
mutual
theorem VR.gmono {ι ι':Inj}(h:∀ B vs,ι.g B=some vs->ι'.g B=some vs):∀ (x:AV) (v:Value),VR ι.gone x v->VR ι'.gone x v
 |.bool _,_,k=>k
 |.int _ _,_,k=>k
 |.str _,_,k=>k
 |.zstr _,_,k=>k
 |.ptr b o,v,k=>by simp only[VR] at k;exact absurd rfl k.1
 |.nilp,_,k=>k
 |.slice b o len cap sz ex,v,k=>by simp only[VR] at k;exact absurd rfl k.1
 |.nils,_,k=>k
 |.map r,v,k=>by simp only[VR] at k;exact absurd rfl k.1
 |.nilm,_,k=>k
 |.fn f caps,v,k=>by
  simp only[VR] at k ⊢;obtain⟨cv,rfl,hc⟩:=k;exact⟨cv,rfl,VRs.gmono h caps _ hc⟩
 |.nilf,_,k=>k
 |.iface t x,v,k=>by
  simp only[VR] at k ⊢;obtain⟨y,rfl,hy⟩:=k;exact⟨y,rfl,VR.gmono h x y hy⟩
 |.nilif,_,k=>k
 |.agg cs,v,k=>by
  simp only[VR] at k ⊢;obtain⟨cv,rfl,hc⟩:=k;exact⟨cv,rfl,VRs.gmono h cs _ hc⟩
 |.tup cs,v,k=>by
  simp only[VR] at k ⊢;obtain⟨cv,rfl,hc⟩:=k;exact⟨cv,rfl,VRs.gmono h cs _ hc⟩
 |.lst n cs,v,k=>by
  simp only[VR] at k ⊢;obtain⟨p,C,rfl,hC,hc,hn⟩:=k;exact⟨p,C,rfl,hC,hc,λh0=>let ⟨B,o,vs,e1,e2,e3,e4⟩:=hn h0;⟨B,o,vs,e1,h B vs e2,e3,VRs.gmono h cs _ e4⟩⟩
 |.xlst n cs,v,k=>by
  simp only[VR] at k ⊢;obtain⟨p,rfl,hc,hn⟩:=k;exact⟨p,rfl,hc,λh0=>let ⟨B,o,vs,e1,e2,e3,e4⟩:=hn h0;⟨B,o,vs,e1,h B vs e2,e3,VRs.gmono h cs _ e4⟩⟩
 |.lptr cs o,v,k=>by
  simp only[VR] at k ⊢;obtain⟨B,o',vs,e1,e0,e2,e3,e4⟩:=k;exact⟨B,o',vs,e1,e0,h B vs e2,e3,VRs.gmono h cs _ e4⟩
 |.bad,_,k=>k
theorem VRs.gmono {ι ι':Inj}(h:∀ B vs,ι.g B=some vs->ι'.g B=some vs):∀ (xs:List AV) (vs:List Value),VRs ι.gone xs vs->VRs ι'.gone xs vs
 |[],_,k=>k
 |x :: xs,l,k=>by
  simp only[VRs] at k ⊢;obtain⟨v,vs,rfl,h1,h2⟩:=k;exact⟨v,vs,rfl,VR.gmono h x v h1,VRs.gmono h xs vs h2⟩
end
mutual
theorem VR.mono {ι ι':Inj}(h:Le ι ι'):∀ (x:AV) (v:Value),VR ι x v->VR ι' x v
 |.bool _,_,k=>k
 |.int _ _,_,k=>k
 |.str _,_,k=>k
 |.zstr _,_,k=>k
 |.ptr b o,v,k=>by
  simp only[VR] at k ⊢;obtain⟨hb,a,rfl,ha⟩:=k;exact⟨h.born hb,a,rfl,λB S e=>ha B S (h.at hb e)⟩
 |.nilp,_,k=>k
 |.slice b o len cap sz ex,v,k=>by
  simp only[VR] at k ⊢;obtain⟨hb,hl,a,C,rfl,hc,he,ha⟩:=k;exact⟨h.born hb,hl,a,C,rfl,hc,he,λB S e=>ha B S (h.at hb e)⟩
 |.nils,_,k=>k
 |.map r,v,k=>by
  simp only[VR] at k ⊢;obtain⟨hb,a,rfl,ha⟩:=k;exact⟨h.born hb,a,rfl,λB S e=>ha B S (h.at hb e)⟩
 |.nilm,_,k=>k
 |.fn f caps,v,k=>by
  simp only[VR] at k ⊢;obtain⟨cv,rfl,hc⟩:=k;exact⟨cv,rfl,VRs.mono h caps _ hc⟩
 |.nilf,_,k=>k
 |.iface t x,v,k=>by
  simp only[VR] at k ⊢;obtain⟨y,rfl,hy⟩:=k;exact⟨y,rfl,VR.mono h x y hy⟩
 |.nilif,_,k=>k
 |.agg cs,v,k=>by
  simp only[VR] at k ⊢;obtain⟨cv,rfl,hc⟩:=k;exact⟨cv,rfl,VRs.mono h cs _ hc⟩
 |.tup cs,v,k=>by
  simp only[VR] at k ⊢;obtain⟨cv,rfl,hc⟩:=k;exact⟨cv,rfl,VRs.mono h cs _ hc⟩
 |.lst n cs,v,k=>by
  simp only[VR] at k ⊢;obtain⟨p,C,rfl,hC,hc,hn⟩:=k;exact⟨p,C,rfl,hC,hc,λh0=>let ⟨B,o,vs,e1,e2,e3,e4⟩:=hn h0;⟨B,o,vs,e1,h.2 B vs e2,e3,VRs.gmono h.2 cs _ e4⟩⟩
 |.xlst n cs,v,k=>by
  simp only[VR] at k ⊢;obtain⟨p,rfl,hc,hn⟩:=k;exact⟨p,rfl,hc,λh0=>let ⟨B,o,vs,e1,e2,e3,e4⟩:=hn h0;⟨B,o,vs,e1,h.2 B vs e2,e3,VRs.gmono h.2 cs _ e4⟩⟩
 |.lptr cs o,v,k=>by
  simp only[VR] at k ⊢;obtain⟨B,o',vs,e1,e0,e2,e3,e4⟩:=k;exact⟨B,o',vs,e1,e0,h.2 B vs e2,e3,VRs.gmono h.2 cs _ e4⟩
 |.bad,_,k=>k
theorem VRs.mono {ι ι':Inj}(h:Le ι ι'):∀ (xs:List AV) (vs:List Value),VRs ι xs vs->VRs ι' xs vs
 |[],_,k=>k
 |x :: xs,l,k=>by
  simp only[VRs] at k ⊢;obtain⟨v,vs,rfl,h1,h2⟩:=k;exact⟨v,vs,rfl,VR.mono h x v h1,VRs.mono h xs vs h2⟩
end
theorem Le.gone (ι:Inj):Le ι.gone ι:=⟨λb hb=>absurd rfl hb,λ_ _ h=>h⟩
theorem VRs.back {ι:Inj}{xs:List AV}{vs:List Value}(h:VRs ι.gone xs vs):VRs ι xs vs:=VRs.mono (Le.gone ι) _ _ h
theorem VRs.length {ι:Inj}:∀ {xs:List AV} {vs:List Value},VRs ι xs vs->vs.length=xs.length
 |[],_,h=>by simp only[VRs] at h;simp[h]
 |x :: xs,l,h=>by
  simp only[VRs] at h;obtain⟨v,vs,rfl,_,h2⟩:=h;simp[VRs.length h2]
theorem VRs.get {ι:Inj}:∀ {xs:List AV} {vs:List Value},VRs ι xs vs->∀ i,i<xs.length->VR ι (xs.getD i .bad) (vs.getD i undef)
 |[],_,_,i,hi=>by simp at hi
 |x :: xs,l,h,i,hi=>by
  simp only[VRs] at h;obtain⟨v,vs,rfl,h1,h2⟩:=h;cases i with
  |zero=>exact h1
  |succ i=>simpa using VRs.get h2 i (by simpa using hi)
theorem VRs.of_get {ι:Inj}:∀ {xs:List AV} {vs:List Value},vs.length=xs.length->(∀ i,i<xs.length->VR ι (xs.getD i .bad) (vs.getD i undef))->VRs ι xs vs
 |[],vs,hl,_=>by simp only[VRs];exact QaY hl
 |x :: xs,[],hl,_=>by simp at hl
 |x :: xs,v :: vs,hl,h=>by
  simp only[VRs];refine⟨v,vs,rfl,?_,VRs.of_get (by simpa using hl) λi hi=>?_⟩
  ·simpa using h 0 (by simp)
  ·simpa using h (i+1) (by simpa using hi)
theorem VRs.append {ι:Inj}:∀ {xs:List AV} {vs:List Value} {ys:List AV} {us:List Value},VRs ι xs vs->VRs ι ys us->VRs ι (xs ++ ys) (vs ++ us)
 |[],_,ys,us,h,k=>by simp only[VRs] at h;subst h;exact k
 |x :: xs,_,ys,us,h,k=>by
  simp only[VRs] at h;obtain⟨v,vs,rfl,h1,h2⟩:=h;simp only[Qad,VRs];exact⟨v,vs ++ us,rfl,h1,VRs.append h2 k⟩
theorem VRs.take {ι:Inj}{xs:List AV}{vs:List Value}(h:VRs ι xs vs)(n:Nat):VRs ι (xs.take n) (vs.take n):=by
 refine VRs.of_get (by simp[h.length]) λi hi=>?_;have hi':i<n/\i<xs.length:=by simpa[Nat.lt_min] using hi
 have:=h.get i hi'.2;simpa[ω,Qbx,hi'.1] using this
theorem VRs.drop {ι:Inj}{xs:List AV}{vs:List Value}(h:VRs ι xs vs)(n:Nat):VRs ι (xs.drop n) (vs.drop n):=by
 refine VRs.of_get (by simp[h.length]) λi hi=>?_;simp at hi;have:=h.get (n+i) om;simpa[ω,QbI] using this
theorem VRs.map_of {ι:Inj}{α:Type}{f:α->AV}{g:α->Value}:∀ (l:List α),(∀ x∈l,VR ι (f x) (g x))->VRs ι (l.map f) (l.map g)
 |[],_=>by simp[VRs]
 |x :: l,h=>by
  simp only[ζ,VRs];exact⟨_,_,rfl,h x (by simp),VRs.map_of l λy hy=>h y (by simp[hy])⟩
def MR (ι:Inj):List (AV×AV)->List MapEntry->Prop
 |[],l=>l=[]
 |e :: es,l=>∃ x xs,l=x :: xs/\VR ι e.1 x.key/\VR ι e.2 x.val/\MR ι es xs
theorem MR.mono {ι ι':Inj}(h:Le ι ι'):∀ (es:List (AV×AV)) (l:List MapEntry),MR ι es l->MR ι' es l
 |[],_,k=>k
 |e :: es,l,k=>by
  simp only[MR] at k ⊢;obtain⟨x,xs,rfl,h1,h2,h3⟩:=k;exact⟨x,xs,rfl,VR.mono h _ _ h1,VR.mono h _ _ h2,MR.mono h es xs h3⟩
def OR (ι:Inj)(S:Nat):AO->Obj->Prop
 |.row n zl z cs,x=>∃ c elem lo hi,x=.cells c elem (lo,hi)/\c.size=S/\n<=S/\(hi<=lo\/S<=lo) /\
  ∀ i,i<n->(qA zl z cs i).cell=true/\∃ v,c[i]? = some v/\VR ι (qA zl z cs i) v
 |.map es,x=>∃ ens clock,x=.map ens clock/\MR ι es ens.toList
 |.iter s pos,x=>∃ bs:ByteArray,x=.stringIter bs pos/\bs.data.toList.map UInt8.toNat=s
 |.dead,_=>False
theorem OR.mono {ι ι':Inj}(h:Le ι ι'){S:Nat}:∀ (o:AO) (x:Obj),OR ι S o x->OR ι' S o x
 |.row n zl z cs,x,k=>by
  simp only[OR] at k ⊢;obtain⟨c,elem,lo,hi,rfl,h1,h2,h3,h4⟩:=k;exact⟨c,elem,lo,hi,rfl,h1,h2,h3,λi hi=>let ⟨a,v,b,c⟩:=h4 i hi;⟨a,v,b,VR.mono h _ _ c⟩⟩
 |.map es,x,k=>by
  simp only[OR] at k ⊢;obtain⟨ens,clock,rfl,hm⟩:=k;exact⟨ens,clock,rfl,MR.mono h _ _ hm⟩
 |.iter s pos,x,k=>k
 |.dead,_,k=>k
def Froz (ι:Inj)(w:World)(B:Nat)(vs:List Value):Prop:=(∃ c elem lo hi,w.heap[B]? = some (.cells c elem (lo,hi))/\c.toList=vs/\True)/\∀ b S,ι b≠.at B S
theorem Froz.lt {ι:Inj}{w:World}{B:Nat}{vs:List Value}(h:Froz ι w B vs):B<w.heap.size:=by
 obtain⟨⟨c,e,lo,hi,h1,_⟩,_⟩:=h;exact(Qav.1 h1).1
structure Grew (ι:Inj)(w:World)(ι':Inj)(w':World):Prop where
 os:w'.os=w.os
 tape:w'.tape=w.tape
 output:w'.output=w.output
 size:w.heap.size<=w'.heap.size
 keep:∀ k,k<w.heap.size->(∀ b S,ι b≠.at k S)->w'.heap[k]? = w.heap[k]?
 new:∀ b B S,ι' b=.at B S->(∃ c S',ι c=.at B S')\/w.heap.size<=B
 gl:∀ B vs,ι'.g B=some vs->ι.g B=some vs\/Froz ι' w' B vs/\((∃ c S,ι c=.at B S)\/w.heap.size<=B)
theorem Froz.grew {ι ι':Inj}{w w':World}{B:Nat}{vs:List Value}(h:Froz ι w B vs)(g:Grew ι w ι' w'):Froz ι' w' B vs:=by
 have hs:=h.lt;obtain⟨⟨c,e,lo,hi,h1,h3⟩,h2⟩:=h;refine⟨⟨c,e,lo,hi,(g.keep B hs h2).trans h1,h3⟩,λb S e=>?_⟩;rcases g.new b B S e with ⟨c,S',e'⟩|e'
 ·exact h2 c S' e'
 ·omega
def Gl (ι:Inj)(w:World):Prop:=((∃ te pe,w.cell? ⟨1,0,none⟩=some (.iface te pe))/\∀ b S,ι b≠.at 1 S)/\∀ B vs,ι.g B=some vs->Froz ι w B vs
theorem Gl.grew {ι ι':Inj}{w w':World}(h:Gl ι w)(g:Grew ι w ι' w'):Gl ι' w':=by
 obtain⟨⟨⟨te,pe,h1⟩,h2⟩,h3⟩:=h;have hs:1<w.heap.size:=by
  unfold World.cell? at h1;rcases Qar 1 w.heap.size with h|h
  ·exact h
  ·rw[Array.getElem?_eq_none (by simpa using h)] at h1;simp at h1
 refine⟨⟨⟨te,pe,?_⟩,λb S e=>?_⟩,λB vs hB=>?_⟩
 ·have:=g.keep 1 hs h2;unfold World.cell? at h1 ⊢;rw[this];exact h1
 ·rcases g.new b 1 S e with ⟨c,S',e'⟩|e'
  ·exact h2 c S' e'
  ·omega
 ·rcases g.gl B vs hB with h|h
  ·exact(h3 B vs h).grew g
  ·exact h.1
structure Sim (ι:Inj)(h:T AO)(nx:Nat)(w:World):Prop where
 obj:∀ b B S,ι b=.at B S->∃ o x,jx h b=some o/\w.heap[B]? = some x/\OR ι S o x
 gone:∀ b,ι b=.dead->∀ o,jx h b=some o->o=.dead
 inj:∀ b b' B S S',ι b=.at B S->ι b'=.at B S'->b=b'
 born:∀ b,ι b≠.unborn->b<nx
 glob:Gl ι w
theorem Sim.lt {ι:Inj}{h:T AO}{nx:Nat}{w:World}(k:Sim ι h nx w){b B S:Nat}(e:ι b=.at B S):B<w.heap.size:=by
 obtain⟨o,x,_,hx,_⟩:=k.obj b B S e;exact(Qav.1 hx).1
theorem Sim.row {ι:Inj}{h:T AO}{nx:Nat}{w:World}(k:Sim ι h nx w){b n zl:Nat}{z:List AV}{cs:T AV}(hb:ι b≠.unborn)(e:jx h b=some (.row n zl z cs)) :
  ∃ B S c elem lo hi,ι b=.at B S/\w.heap[B]? = some (.cells c elem (lo,hi))/\c.size=S/\n<=S/\(hi<=lo\/S<=lo) /\
   ∀ i,i<n->(qA zl z cs i).cell=true/\∃ v,c[i]? = some v/\VR ι (qA zl z cs i) v:=by
 cases hι:ι b with
 |unborn=>exact absurd hι hb
 |dead=>have:=k.gone b hι _ e;cases this
 |«at» B S=>
  obtain⟨o,x,ho,hx,hr⟩:=k.obj b B S hι;rw[e] at ho;cases ho;simp only[OR] at hr;obtain⟨c,elem,lo,hi,rfl,h1,h2,h3,h4⟩:=hr;exact⟨B,S,c,elem,lo,hi,rfl,hx,h1,h2,h3,h4⟩
theorem Sim.map {ι:Inj}{h:T AO}{nx:Nat}{w:World}(k:Sim ι h nx w){b:Nat}{es:List (AV×AV)}(hb:ι b≠.unborn)(e:jx h b=some (.map es)) :
  ∃ B S ens clock,ι b=.at B S/\w.heap[B]? = some (.map ens clock)/\MR ι es ens.toList:=by
 cases hι:ι b with
 |unborn=>exact absurd hι hb
 |dead=>have:=k.gone b hι _ e;cases this
 |«at» B S=>
  obtain⟨o,x,ho,hx,hr⟩:=k.obj b B S hι;rw[e] at ho;cases ho;simp only[OR] at hr;obtain⟨ens,clock,rfl,hm⟩:=hr;exact⟨B,S,ens,clock,rfl,hx,hm⟩
theorem Grew.refl (ι:Inj)(w:World):Grew ι w ι w:=⟨rfl,rfl,rfl,μ _,λ_ _ _=>rfl,λb B S e=>.inl ⟨b,S,e⟩,λ_ _ h=>.inl h⟩
theorem Grew.trans {ι ι' ι'':Inj}{w w' w'':World}(h:Grew ι w ι' w')(k:Grew ι' w' ι'' w''):Grew ι w ι'' w'':=by
 refine⟨k.os.trans h.os,k.tape.trans h.tape,k.output.trans h.output,ψ h.size k.size,λj hj hn=>?_,λb B S e=>?_,λB vs hB=>?_⟩
 ·rw[k.keep j (Qat hj h.size) λb S e=>?_]
  ·exact h.keep j hj hn
  ·rcases h.new b j S e with ⟨c,S',e'⟩|e'
   ·exact hn c S' e'
   ·omega
 ·rcases k.new b B S e with ⟨c,S',e'⟩|e'
  ·exact h.new c B S' e'
  ·exact .inr (ψ h.size e')
 ·rcases k.gl B vs hB with e|⟨e,e'⟩
  ·rcases h.gl B vs e with e|⟨e,e'⟩
   ·exact .inl e
   ·exact .inr ⟨e.grew k,e'⟩
  ·refine .inr ⟨e,?_⟩;rcases e' with ⟨c,S,e'⟩|e'
   ·exact h.new c B S e'
   ·exact .inr (ψ h.size e')
theorem Grew.drew (ι:Inj)(w:World):Grew ι w ι w.drew:=⟨rfl,rfl,rfl,μ _,λ_ _ _=>rfl,λb B S e=>.inl ⟨b,S,e⟩,λ_ _ h=>.inl h⟩
theorem Sim.drew {ι:Inj}{h:T AO}{nx:Nat}{w:World}(k:Sim ι h nx w):Sim ι h nx w.drew:=⟨k.obj,k.gone,k.inj,k.born,k.glob.grew (Grew.drew ι w)⟩
def Inj.add (ι:Inj)(b B S:Nat):Inj:=⟨λc=>if c=b then .at B S else ι c,ι.g⟩
theorem Le.add {ι:Inj}{nx:Nat}(hn:∀ b,ι b≠.unborn->b<nx)(B S:Nat):Le ι (ι.add nx B S):=⟨λb hb=>by
 have:=hn b hb;left;simp only[Inj.add];rw[if_neg om],λ_ _ h=>h⟩
theorem Vn (w:World)(o:Obj):(w.alloc o).heap[w.heap.size]? = some o:=by
 show(w.heap.push o)[w.heap.size]? = some o;simp
theorem Vm (w:World)(o:Obj)(i:Nat)(h:i<w.heap.size):(w.alloc o).heap[i]? = w.heap[i]?:=by
 show(w.heap.push o)[i]? = _;rw[Array.getElem?_push_lt h,Qcg h]
theorem Sim.alloc {ι:Inj}{h:T AO}{nx:Nat}{w:World}(k:Sim ι h nx w)(o:AO)(x:Obj)(S:Nat)(hx:OR (ι.add nx w.heap.size S) S o x) :
  Sim (ι.add nx w.heap.size S) ((j1 (jK nx)).run o h) (nx+1) (w.alloc x)/\Le ι (ι.add nx w.heap.size S)/\Grew ι w (ι.add nx w.heap.size S) (w.alloc x):=by
 have le:=Le.add (ι:=ι) k.born w.heap.size S;have hsz:(w.alloc x).heap.size=w.heap.size+1:=by show(w.heap.push x).size=_;simp
 have gr:Grew ι w (ι.add nx w.heap.size S) (w.alloc x):=by
  refine⟨rfl,rfl,rfl,om,λj hj _=>Vm w x j hj,?_,λ_ _ h=>.inl h⟩;intro b B T e;by_cases hb:b=nx
  ·subst hb;simp only[Inj.add,if_true] at e;cases e;exact .inr (μ _)
  ·exact .inl ⟨b,T,by simpa[Inj.add,hb] using e⟩
 refine⟨⟨?_,?_,?_,?_,k.glob.grew gr⟩,le,gr⟩
 ·intro b B T e;by_cases hb:b=nx
  ·subst hb;simp only[Inj.add,if_true] at e;cases e;exact⟨o,x,by rw[jX,if_pos rfl],Vn w x,hx⟩
  ·have e':ι b=.at B T:=by simpa[Inj.add,hb] using e
   obtain⟨o',x',h1,h2,h3⟩:=k.obj b B T e';exact⟨o',x',by rw[jX,if_neg hb];exact h1,by rw[Vm w x B (k.lt e')];exact h2,OR.mono le _ _ h3⟩
 ·intro b e o' ho;by_cases hb:b=nx
  ·subst hb;simp[Inj.add] at e
  ·have e':ι b=.dead:=by simpa[Inj.add,hb] using e
   rw[jX,if_neg hb] at ho;exact k.gone b e' o' ho
 ·intro b c B S1 S2 e1 e2;by_cases hb:b=nx<;>by_cases hc:c=nx
  ·rw[hb,hc]
  ·subst hb;simp only[Inj.add,if_true] at e1;cases e1;have:=k.lt (by simpa[Inj.add,hc] using e2:ι c=.at w.heap.size S2);omega
  ·subst hc;simp only[Inj.add,if_true] at e2;cases e2;have:=k.lt (by simpa[Inj.add,hb] using e1:ι b=.at w.heap.size S1);omega
  ·exact k.inj b c B S1 S2 (by simpa[Inj.add,hb] using e1) (by simpa[Inj.add,hc] using e2)
 ·intro b e;by_cases hb:b=nx
  ·omega
  ·have:=k.born b (by simpa[Inj.add,hb] using e);omega
theorem Sim.write {ι:Inj}{h:T AO}{nx:Nat}{w w':World}(k:Sim ι h nx w){b B S:Nat}(e:ι b=.at B S)(o:AO)(x:Obj)(hx:OR ι S o x)
  (hB:w'.heap[B]? = some x) (hne:∀ j,j≠B->w'.heap[j]? = w.heap[j]?) (hos:w'.os=w.os) (ht:w'.tape=w.tape) (hout:w'.output=w.output) (hsz:w'.heap.size=w.heap.size) :
  Sim ι ((j1 (jK b)).run o h) nx w'/\Grew ι w ι w':=by
 have gr:Grew ι w ι w':=⟨hos,ht,hout,om,λj _ hn=>hne j (λej=>hn b S (by rw[ej];exact e)),λc C T e'=>.inl ⟨c,T,e'⟩,λ_ _ h=>.inl h⟩;refine⟨⟨?_,?_,k.inj,k.born,k.glob.grew gr⟩,gr⟩
 ·intro c C T e';by_cases hc:c=b
  ·subst hc;rw[e] at e';cases e';exact⟨o,x,by rw[jX,if_pos rfl],hB,hx⟩
  ·obtain⟨o',x',h1,h2,h3⟩:=k.obj c C T e';have hC:C≠B:=λec=>hc (k.inj c b B T S (by rw[<-ec];exact e') e);exact⟨o',x',by rw[jX,if_neg hc];exact h1,by rw[hne C hC];exact h2,h3⟩
 ·intro c e' o' ho;by_cases hc:c=b
  ·subst hc;rw[e] at e';cases e'
  ·rw[jX,if_neg hc] at ho;exact k.gone c e' o' ho
structure Cleanly (ι ι':Inj)(st st':St):Prop where
 nx:st.nx<=st'.nx
 dirty:st'.dirty<=st.dirty
 keep:∀ b,b<st.nx->b<st'.dirty->jx st'.h b=jx st.h b
 above:∀ b,st'.nx<=b->jx st'.h b=jx st.h b
 u:∀ b,b<st.nx->ι b=.unborn->ι' b=.unborn
 le:∀ b,ι b≠.unborn->ι' b≠.unborn
 n:∀ b,st.nx<=b->b<st'.nx->ι' b≠.unborn
theorem Cleanly.refl (ι:Inj)(st:St):Cleanly ι ι st st:=⟨μ _,μ _,λ_ _ _=>rfl,λ_ _=>rfl,λ_ _ h=>h,λ_ h=>h,λ_ h1 h2=>absurd h2 (Nat.not_lt.2 h1)⟩
theorem Cleanly.trans {ι ι' ι'':Inj}{a b c:St}(h:Cleanly ι ι' a b)(k:Cleanly ι' ι'' b c):Cleanly ι ι'' a c:=
 ⟨ψ h.nx k.nx,ψ k.dirty h.dirty,λx hx hd=>(k.keep x (Qat hx h.nx) hd).trans (h.keep x hx (Qat hd k.dirty)),
  λx hx=>(k.above x hx).trans (h.above x (ψ k.nx hx)),λx hx hu=>k.u x (Qat hx h.nx) (h.u x hx hu),
  λx hx=>k.le x (h.le x hx),λx h1 h2=>(Qar x b.nx).elim (λh3=>k.le x (h.n x h1 h3)) (λh3=>k.n x h3 h2)⟩
theorem Cleanly.alloc (ι:Inj)(st:St)(o:AO)(B S:Nat):Cleanly ι (ι.add st.nx B S) st ⟨st.nx+1,(j1 (jK st.nx)).run o st.h,st.dirty,st.fr⟩:=
 ⟨Qbg _,μ _,λb hb _=>by show jx ((j1 (jK st.nx)).run o st.h) b=_;rw[jX,if_neg om],
  λb hb=>by
   have hb':st.nx+1<=b:=hb;show jx ((j1 (jK st.nx)).run o st.h) b=_;rw[jX,if_neg om],
  λb hb hu=>by simp only[Inj.add];rw[if_neg om];exact hu,
  λb hb=>by simp only[Inj.add];split<;>simp_all,
  λb h1 h2=>by
   have h2':b<st.nx+1:=h2;simp only[Inj.add];rw[if_pos om];simp⟩
theorem Cleanly.put (ι:Inj)(st:St)(b:Nat)(o:AO)(hb:b<st.nx):Cleanly ι ι st ⟨st.nx,(j1 (jK b)).run o st.h,min st.dirty b,st.fr⟩:=
 ⟨μ _,Nat.min_le_left _ _,λc _ hd=>by
  show jx ((j1 (jK b)).run o st.h) c=_;rw[jX,if_neg (by have:c<min st.dirty b:=hd;omega)],
  λc hc=>by
   have hc':st.nx<=c:=hc;show jx ((j1 (jK b)).run o st.h) c=_;rw[jX,if_neg om],
  λ_ _ h=>h,λ_ h=>h,λ_ h1 h2=>absurd h2 (Nat.not_lt.2 h1)⟩
theorem Cleanly.fr {ι ι':Inj}{st st':St}(h:Cleanly ι ι' st st')(f g:Fr):Cleanly ι ι' ⟨st.nx,st.h,st.dirty,f⟩ ⟨st'.nx,st'.h,st'.dirty,g⟩:=⟨h.nx,h.dirty,h.keep,h.above,h.u,h.le,h.n⟩
def Res (ι:Inj)(w:World)(st:St)(r:ER)(res:Result Next):Prop:=
 match r with
 |.no=>True
 |.ok v st'=>∃ ι' x w',(res=.ok (.value x) w'\/(res=.ok .skip w'/\x=undef))/\Le ι ι'/\VR ι' v x/\Sim ι' st'.h st'.nx w'/\Grew ι w ι' w'/\Cleanly ι ι' st st'/\st'.fr=st.fr
 |.pn v st'=>st'=st/\∃ x,res=.halt (.panic x) w/\VR ι v x
section
variable {P:Program} {ι:Inj} {w:World} {st:St}
theorem Res.val (k:Sim ι st.h st.nx w){v:AV}{x:Value}{res:Result Next}(hr:res=.ok (.value x) w)(hv:VR ι v x):Res ι w st (.ok v st) res:=
 ⟨ι,x,w,.inl hr,Le.refl ι,hv,k,Grew.refl ι w,Cleanly.refl ι st,rfl⟩
theorem Res.drew {r:ER}{res:Result Next}(hp:∀ v s,r≠.pn v s)(h:Res ι w.drew st r res):Res ι w st r res:=by
 cases r with
 |no=>trivial
 |ok v st'=>
  obtain⟨ι',x,w',h1,h2,h3,h4,h5,h6⟩:=h;exact⟨ι',x,w',h1,h2,h3,h4,(Grew.drew ι w).trans h5,h6⟩
 |pn v s=>exact absurd rfl (hp v s)
theorem yB (B o j:Nat):(⟨B,o,none⟩:Addr).add j=⟨B,o+j,none⟩:=by
 unfold Addr.add;split
 ·rename_i h;subst h;rfl
 ·rfl
theorem uS (ι:Inj)(v:Value):VR ι (ofV v) v:=by
 unfold ofV;split<;>simp[VR]
theorem VR.cell {x:AV}{v:Value}(hx:x.cell=true)(h:VR ι x v):v.oneCell'=true:=by
 cases x<;>simp only[VR] at h<;>simp[AV.cell] at hx;case bool=>subst h;rfl
 case int=>subst h;rfl
 case str=>obtain⟨bs,rfl,_⟩:=h;rfl
 case zstr=>obtain⟨bs,rfl,_⟩:=h;rfl
 case ptr=>obtain⟨_,a,rfl,_⟩:=h;rfl
 case nilp=>subst h;rfl
 case slice=>obtain⟨_,_,a,C,rfl,_⟩:=h;rfl
 case nils=>subst h;rfl
 case map=>obtain⟨_,R,rfl,_⟩:=h;rfl
 case nilm=>subst h;rfl
 case fn=>obtain⟨cv,rfl,_⟩:=h;rfl
 case nilf=>subst h;rfl
 case iface=>obtain⟨y,rfl,_⟩:=h;rfl
 case nilif=>subst h;rfl
 case lst=>obtain⟨p,C,rfl,_⟩:=h;rfl
 case xlst=>obtain⟨p,rfl,_⟩:=h;rfl
 case lptr=>obtain⟨B,o,vs,rfl,_⟩:=h;rfl
theorem VR.cells {x:AV}{v:Value}(hb:x.cells.all AV.cell=true)(h:VR ι x v):VRs ι x.cells v.cells.toList:=by
 have one:∀ y:AV,y.cell=true->x=y->x.cells=[x]->VRs ι x.cells v.cells.toList:=by
  intro y hy e hc;rw[hc];have hv:v.cells = #[v]:=by
   have:=VR.cell (e▸hy) h;cases v<;>first|rfl|(simp[Value.oneCell'] at this)
  rw[hv];simp only[VRs];exact⟨v,[],rfl,h,rfl⟩
 cases x with
 |agg cs=>
  simp only[VR] at h;obtain⟨a,rfl,hc⟩:=h;exact hc
 |tup vs=>simp[AV.cells,AV.cell] at hb
 |bad=>simp[AV.cells,AV.cell] at hb
 |_=>exact one _ rfl rfl rfl
theorem wy {t:TypeId}{z:List AV}(h:zeroCells P t=some z)(ι:Inj):∃ i zv,P.info? t=some i/\i.zero=some zv/\VRs ι z zv.cells.toList:=by
 unfold zeroCells at h;cases hi:P.info? t with
 |none=>simp[hi] at h
 |some i=>
  simp only[hi,QaT] at h;cases hz:i.zero with
  |none=>simp[hz] at h
  |some zv=>
   simp only[hz,Qaw,Option.some.injEq] at h;refine⟨i,zv,rfl,hz,?_⟩;subst h;unfold jbW;split
   ·rename_i cs;show VRs ι _ cs.toList;have:=VRs.map_of (ι:=ι) (f:=ofV) (g:=id) cs.toList (λx _=>uS ι x);simpa using this
   ·rename_i hv;have:zv.cells = #[zv]:=by
     cases zv<;>first|rfl|(rename_i a _;exact(hv a rfl).elim)|(rename_i a;exact(hv a rfl).elim)
    rw[this];simp only[VRs];exact⟨zv,[],rfl,uS ι zv,rfl⟩
theorem zm {t:TypeId}{k:Nat}(h:Ev.sizeOf P t=some k):∃ i,P.info? t=some i/\i.size=k:=by
 unfold Ev.sizeOf at h;cases hi:P.info? t with
 |none=>simp[hi] at h
 |some i=>simp[hi] at h;exact⟨i,rfl,h⟩
theorem qb {t:TypeId}{i:TypeInfo}(h:P.info? t=some i)(w:World):(Go.sizeOf t).run P w=.ok i.size w:=by
 simp[Go.sizeOf,typeInfo,h]
theorem Yu {t:TypeId}{i:TypeInfo}(h:P.info? t=some i)(w:World):(typeInfo t).run P w=.ok i w:=by
 simp[typeInfo,h]
theorem Jl {t:TypeId}{i:TypeInfo}{z:Value}(h:P.info? t=some i)(hz:i.zero=some z)(w:World):(zeroValue t).run P w=.ok z w:=by
 simp[zeroValue,typeInfo,h,hz]
theorem X7 {t:TypeId}{b:Bool}(h:Ev.isAgg P t=some b)(w:World):(Go.isAgg t).run P w=.ok b w:=by
 unfold Ev.isAgg at h;cases hu:P.underlying t with
 |none=>simp[hu] at h
 |some d=>
  simp only[hu,Qaw,Option.some.injEq] at h;unfold Go.isAgg;rw[Sem.run_bind,run_underlying hu w];subst h;cases d<;>rfl
theorem WN {l:List AV}(h:l.all AV.cell=true)(n:Nat):(l.take n).all AV.cell=true:=by
 rw[Qae] at h ⊢;exact λx hx=>h x (QbJ hx)
theorem jce {l:List AV}(h:l.all AV.cell=true)(n:Nat):(l.drop n).all AV.cell=true:=by
 rw[Qae] at h ⊢;exact λx hx=>h x (List.mem_of_mem_drop hx)
theorem G2 {ι:Inj}{w:World}{B o:Nat}{vs:List Value}(h:Froz ι w B vs)(ho:o<vs.length):w.cell? ⟨B,o,none⟩=some (vs.getD o undef):=by
 obtain⟨⟨c,e,lo,hi,h1,h2,_⟩,_⟩:=h;have:w.cell? ⟨B,o,none⟩=c[o]?:=cell_of_row w B o c e _ h1;rw[this];subst h2;rw[Qak] at ho;simp[ω,ho]
theorem Wg {vs:List Value}{o n k:Nat}(h:k<n)(hn:o+n<=vs.length):((vs.drop o).take n).getD k undef=vs.getD (o+k) undef:=by
 simp only[ω,Qbx,h,if_true,QbI]
theorem Ww {ι:Inj}{w:World}{B o n:Nat}{vs:List Value}(h:Froz ι w B vs)(hn:o+n<=vs.length) :
  (loadCells ⟨B,o,none⟩ n).run P w=.ok ((vs.drop o).take n).toArray w:=by
 rw[run_loadCells w _ n (λj=>vs.getD (o+j) undef) (λj hj=>by rw[yB];exact G2 h om)]
 congr 2
 apply Qbh
 ·simp;omega
 ·intro i h1 h2;simp at h1;simp[ω,Qai (by omega:o+i<vs.length)]
theorem WH {B o:Nat}{c:Array Value}{e:TypeId}{f:Nat×Nat}(h:w.heap[B]? = some (.cells c e f)):w.cell? ⟨B,o,none⟩=c[o]?:=cell_of_row w B o c e f h
theorem jdd (k:Sim ι st.h st.nx w){t:TypeId}{a u:AV}{va:Value}(ha:VR ι a va)(h:(qQ P t).run a st.h=some u) :
  ∃ x,(Instr.loadAt t va).run P w=.ok x w/\VR ι u x:=by
 unfold qQ at h;split at h
 ·rename_i n hg hs;cases a<;>simp only at h<;>try(cases h;done)
  rotate_left
  ·rename_i cs o;simp only[VR] at ha;obtain⟨B,o',vs,rfl,_,e2,e3,e4⟩:=ha;cases hle:Qck (Qcl o n) (jP cs)
   ·rw[hle] at h;cases h
   ·rw[hle] at h;simp only[cond,Option.some.injEq,qW,yR] at h;rw[qg,jO] at hle;have hle':o+n<=cs.length:=hle;obtain⟨i,hi',hsi⟩:=zm hs;refine⟨.agg ((vs.drop (o'+o)).take n).toArray,?_,?_⟩
    ·simp only[Instr.loadAt,Instr.sureAddr,Sem.run_bind,Sem.run_pure,Result.andThen_ok,loadVar,X7 hg,if_true];rw[qb hi' w];simp only[Result.andThen_ok,hsi];rw[Ww (k.glob.2 B vs e2) om];rfl
    ·rw[<-h];simp only[VR];refine⟨_,rfl,?_⟩;have:=(e4.back.drop o).take n;rw[List.drop_take,Qbl,QbK,Qby om] at this;exact this
  rename_i b o;simp only[VR] at ha;obtain⟨hb,ad,rfl,had⟩:=ha;split at h<;>try(cases h;done)
  rename_i m zl z cs hrow;obtain⟨B,S,c,elem,lo,hi,e,hw,hsz,hn,_,hcell⟩:=k.row hb hrow;rw[had B S e];cases hle:Qck (Qcl o n) m
  ·rw[hle] at h;cases h
  ·rw[hle] at h;simp only[cond,Option.some.injEq] at h;rw[qg] at hle;have hle':o+n<=m:=hle;obtain⟨i,hi',hsi⟩:=zm hs
   let f:Nat->Value:=λj=>c.getD (o+j) undef
   have hf:∀ j,j<n->w.cell? ((⟨B,o,none⟩:Addr).add j)=some (f j):=λj hj=>by
    rw[yB,WH hw];obtain⟨_,v,hv,_⟩:=hcell (o+j) om;simp[f,hv]
   refine⟨.agg ((Qab n).map f).toArray,?_,?_⟩
   ·simp only[Instr.loadAt,Instr.sureAddr,Sem.run_bind,Sem.run_pure,Result.andThen_ok,loadVar,X7 hg,if_true];rw[qb hi' w];simp only[Result.andThen_ok,hsi];rw[run_loadCells w _ n f hf];rfl
   ·rw[<-h,qy];simp only[VR];refine⟨_,rfl,?_⟩;refine VRs.map_of _ λj hj=>?_;have hj':j<n:=by simpa using hj
    obtain⟨_,v,hv,hr⟩:=hcell (o+j) om;show VR ι _ (c.getD (o+j) undef);simpa[hv] using hr
 ·rename_i n hg hs;cases a<;>simp only at h<;>try(cases h;done)
  rotate_left
  ·rename_i cs o;simp only[VR] at ha;obtain⟨B,o',vs,rfl,_,e2,e3,e4⟩:=ha;cases hle:Qck (Qcj o) (jP cs)
   ·rw[hle] at h;cases h
   ·rw[hle] at h;simp only[cond,Option.some.injEq,zC] at h;rw[qg,jO] at hle;have hc:=G2 (o:=o'+o) (k.glob.2 B vs e2) om;refine⟨vs.getD (o'+o) undef,?_,?_⟩
    ·simp only[Instr.loadAt,Instr.sureAddr,Sem.run_bind,Sem.run_pure,Result.andThen_ok,loadVar,X7 hg,QaK,if_false,run_load,hc]
    ·rw[<-h];have:=e4.back.get o hle;rwa [Wg hle e3] at this
  rename_i b o;simp only[VR] at ha;obtain⟨hb,ad,rfl,had⟩:=ha;split at h<;>try(cases h;done)
  rename_i m zl z cs hrow;obtain⟨B,S,c,elem,lo,hi,e,hw,hsz,hn,_,hcell⟩:=k.row hb hrow;rw[had B S e];cases hle:Qck (Qcj o) m
  ·rw[hle] at h;cases h
  ·rw[hle] at h;simp only[cond,Option.some.injEq] at h;rw[qg] at hle;obtain⟨_,v,hv,hr⟩:=hcell o om;refine⟨v,?_,by rw[<-h];exact hr⟩;simp only[Instr.loadAt,Instr.sureAddr,Sem.run_bind,Sem.run_pure,Result.andThen_ok,loadVar,X7 hg,QaK,if_false,run_load,WH hw,hv]
 ·cases h
theorem YV {P:Program}{B o:Nat}{elem:TypeId}{lo hi:Nat}:∀ (l:List Value) (i:Nat) (w:World) (c:Array Value),
  w.heap[B]? = some (.cells c elem (lo,hi))->(hi<=lo\/c.size<=lo)->o+i+l.length<=c.size->(∀ v∈l,v.oneCell'=true)->
  ∃ w' c',(storeCells ⟨B,o,none⟩ l i).run P w=.ok () w'/\w'.heap[B]? = some (.cells c' elem (lo,hi))/\c'.size=c.size /\
   (∀ j,c'[j]? = if o+i<=j/\j<o+i+l.length then l[j - (o+i)]? else c[j]?)/\(∀ j,j≠B->w'.heap[j]? = w.heap[j]?) /\
   w'.os=w.os/\w'.tape=w.tape/\w'.output=w.output/\w'.heap.size=w.heap.size
 |[],i,w,c,hB,_,_,_=>⟨w,c,by simp[storeCells],hB,rfl,λj=>by rw[if_neg];simp,λ_ _=>rfl,rfl,rfl,rfl,rfl⟩
 |v :: l,i,w,c,hB,hf,hl,h1=>by
  have hlt:o+i<c.size:=by simp at hl;omega
  have hcell:w.cell? ⟨B,o+i,none⟩=some c[o+i]:=by
   rw[WH hB];exact Qcg hlt
  have hfr:w.frozen? ⟨B,o+i,none⟩=false:=by
   simp only[World.frozen?,hB,Bool.and_eq_false_iff,decide_eq_false_iff_not];simp at hl;omega
  have hst:(store (⟨B,o+i,none⟩:Addr) v).run P w=.ok () (w.setCell ⟨B,o+i,none⟩ v):=by
   rw[run_store P w _ v .plain (h1 v (by simp)),hcell];simp[hfr]
  have hB':(w.setCell ⟨B,o+i,none⟩ v).heap[B]? = some (.cells (c.setIfInBounds (o+i) v) elem (lo,hi)):=by
   simp[World.setCell,Array.getElem?_modify,hB]
  obtain⟨w',c',hr,hb,hs,hc,hne,hos,ht,hou,hsz⟩:=YV (P:=P) (o:=o) l (i+1) (w.setCell ⟨B,o+i,none⟩ v) (c.setIfInBounds (o+i) v) hB'
   (by simpa using hf) (by simp at hl ⊢;omega) (λx hx=>h1 x (by simp[hx]))
  refine⟨w',c',?_,hb,by simpa using hs,?_,?_,hos,ht,hou,by rw[hsz];simp[World.setCell]⟩
  ·simp only[storeCells,Sem.run_bind,yB,hst,Result.andThen_ok,hr]
  ·intro j;rw[hc j];simp at hl;by_cases h2:o+(i+1)<=j/\j<o+(i+1)+l.length
   ·have h3:o+i<=j/\j<o+i+(v :: l).length:=by simp;omega
    rw[if_pos h2,if_pos h3];obtain⟨n,hn⟩:∃ n,j - (o+i)=n+1:=⟨j - (o+i) - 1,om⟩;have hn':j - (o+(i+1))=n:=om
    rw[hn,hn'];simp
   ·rw[if_neg h2];by_cases hj:j=o+i
    ·have h3:o+i<=j/\j<o+i+(v :: l).length:=by simp;omega
     rw[if_pos h3,hj];simp[hlt]
    ·have h3:¬ (o+i<=j/\j<o+i+(v :: l).length):=by simp;simp at h2;omega
     rw[if_neg h3,Qch om]
  ·intro j hj;rw[hne j hj];exact Below.heap_setCell _ _ _ _ hj
theorem UO (k:Sim ι st.h st.nx w){b o n zl:Nat}{z:List AV}{cs:T AV}(hb:ι b≠.unborn)(hrow:jx st.h b=some (.row n zl z cs)){B S:Nat}(e:ι b=.at B S)
  {l:List AV} {vs:List Value} (hl:VRs ι l vs) (hc:l.all AV.cell=true) (hn:o+l.length<=n) :
  ∃ w',(storeCells ⟨B,o,none⟩ vs).run P w=.ok () w'/\Sim ι ((j1 (jK b)).run (.row n zl z (qj l cs o)) st.h) st.nx w'/\Grew ι w ι w':=by
 obtain⟨B',S',c,elem,lo,hi,e',hw,hsz,hnS,hfr,hcell⟩:=k.row hb hrow;rw[e] at e';cases e';have hlen:=hl.length;have h1:∀ v∈vs,v.oneCell'=true:=by
  intro v hv;obtain⟨i,hi,rfl⟩:=Qbz.1 hv;have:=hl.get i om;have h2:(l.getD i .bad).cell=true:=by
   have:i<l.length:=om
   simp only[ω,Qai this,QaH];exact Qae.1 hc _ (Qaf this)
  have h3:=VR.cell h2 this;simpa[ω,Qai hi] using h3
 obtain⟨w',c',hr,hB',hs',hc',hne,hos,ht,hou,hsz'⟩:=YV (P:=P) (o:=o) vs 0 w c hw om om h1;refine⟨w',hr,?_⟩;refine k.write e (.row n zl z (qj l cs o)) (.cells c' elem (lo,hi)) ?_ hB' hne hos ht hou hsz';simp only[OR];refine⟨c',elem,lo,hi,rfl,om,hnS,hfr,λi hi'=>?_⟩;rw[yQ,hc' i];by_cases h2:o<=i/\i<o+l.length
 ·rw[if_pos h2,if_pos om];have h3:=hl.get (i - o) om;refine⟨?_,vs.getD (i - o) undef,?_,h3⟩
  ·have:i - o<l.length:=om
   simp only[ω,Qai this,QaH];exact Qae.1 hc _ (Qaf this)
  ·have:i - o<vs.length:=om
   simp[ω,Qai this]
 ·rw[if_neg h2,if_neg om];exact hcell i hi'
end
section
variable {P:Program} {ι:Inj} {w:World} {st:St}
theorem St.alloc_eq (st:St)(o:AO)(k:Nat->St->ER):st.alloc o k=k st.nx ⟨st.nx+1,(j1 (jK st.nx)).run o st.h,st.dirty,st.fr⟩:=by simp[St.alloc]
theorem St.put_eq (st:St)(b:Nat)(o:AO)(k:St->ER):st.put b o k=k ⟨st.nx,(j1 (jK b)).run o st.h,min st.dirty b,st.fr⟩:=by
 simp only[St.put,jE]
 congr 2
 rw[Nat.min_def];cases h:Qck st.dirty b
 ·have:¬ st.dirty<=b:=λe=>by rw[<-qg,h] at e;cases e
  rw[if_neg this];rfl
 ·rw[qg] at h;rw[if_pos h];rfl
theorem Res.alloc (k:Sim ι st.h st.nx w){o:AO}{x:Obj}{S:Nat}(hx:OR (ι.add st.nx w.heap.size S) S o x){v:AV}{y:Value}{res:Result Next}
  (hv:VR (ι.add st.nx w.heap.size S) v y) (hr:res=.ok (.value y) (w.alloc x)) :
  Res ι w st (.ok v ⟨st.nx+1,(j1 (jK st.nx)).run o st.h,st.dirty,st.fr⟩) res:=by
 obtain⟨h1,h2,h3⟩:=k.alloc o x S hx;exact⟨_,y,_,.inl hr,h2,hv,h1,h3,Cleanly.alloc ι st o _ _,rfl⟩
theorem XX (ι:Inj)(b B S:Nat):(ι.add b B S) b=.at B S:=by simp[Inj.add]
theorem gf (ι:Inj)(b B S:Nat):VR (ι.add b B S) (.ptr b 0) (.pointer (some ⟨B,0,none⟩)):=by
 simp only[VR];refine⟨by rw[XX];simp,_,rfl,λB' S' e=>?_⟩;rw[XX] at e;cases e;rfl
theorem jdM {cells:List AV}{vs:List Value}(h:VRs ι cells vs)(hc:cells.all AV.cell=true)(elem:TypeId) :
  OR ι vs.length (.row cells.length cells.length cells .e) (.cells vs.toArray elem (0,0)):=by
 simp only[OR];have hl:=h.length;refine⟨_,elem,0,0,rfl,by simp,om,om,λi hi=>?_⟩;have e:qA cells.length cells .e i=cells.getD i .bad:=by rw[yL,Xe,Qbm hi];rfl
 rw[e];refine⟨?_,vs.getD i undef,?_,h.get i hi⟩
 ·simp only[ω,Qai hi,QaH];exact Qae.1 hc _ (Qaf hi)
 ·have:i<vs.length:=om
  simp[ω,Qai this]
theorem GK (k:Sim ι st.h st.nx w){cells:List AV}{v:Value}(h:VRs ι cells v.cells.toList)(hc:cells.all AV.cell=true)(elem:TypeId){res:Result Next}
  (hr:res=.ok (.value (.pointer (some ⟨w.heap.size,0,none⟩))) (w.alloc (.cells v.cells elem))):Res ι w st (Ev.newRow st cells) res:=by
 unfold Ev.newRow;rw[jE,jO,St.alloc_eq];have le:=Le.add (ι:=ι) k.born w.heap.size v.cells.toList.length;refine Res.alloc k (S:=v.cells.toList.length) (x:=.cells v.cells elem) ?_ (gf _ _ _ _) hr;have:=jdM (VRs.mono le _ _ h) hc elem;simpa using this
theorem jh0 {t:TypeId}{i:TypeInfo}{z:Value}(hi:P.info? t=some i)(hz:i.zero=some z) :
  (Instr.alloc t true (.tuple #[])).run P w=.ok (.pointer (some ⟨w.heap.size,0,none⟩)) (w.alloc (.cells z.cells t)):=by
 simp[Instr.alloc,Jl hi hz,newVar,Go.newRow]
theorem jm3 (t:TypeId)(v:Value):(Instr.box t v).run P w=.ok (.pointer (some ⟨w.heap.size,0,none⟩)) (w.alloc (.cells v.cells t)):=by
 simp[Instr.box,newVar,Go.newRow]
theorem jN {b:Bool}{x:ER}{res:Result Next}(h:b=true->Res ι w st x res):Res ι w st (cond b x .no) res:=by
 cases b
 ·trivial
 ·exact h rfl
theorem Q3 {b:Bool}{x y:ER}{res:Result Next}(h:b=true->Res ι w st x res)(h':b=false->Res ι w st y res):Res ι w st (cond b x y) res:=by
 cases b
 ·exact h' rfl
 ·exact h rfl
variable {ρ:Operand->Value} {op:Operand->OF} {env:Env} {o:Oper}
theorem G8 {x:Operand}(ho:o.op=.move x\/o.op=.assign x)(k:Sim ι st.h st.nx w)(hx:VR ι ((op x).run env) (ρ x)) :
  Res ι w st (.ok ((op x).run env) st) ((execOp ρ o).run P w):=by
 refine Res.val k ?_ hx;rcases ho with ho|ho<;>simp[execOp,ho]
theorem jhA {c a b:Operand}(ho:o.op=.pick c a b)(k:Sim ι st.h st.nx w)(hc:VR ι ((op c).run env) (ρ c))(ha:VR ι ((op a).run env) (ρ a))(hb:VR ι ((op b).run env) (ρ b)) :
  Res ι w st ((jy P op (.pick c a b)).run env st) ((execOp ρ o).run P w):=by
 show Res ι w st (Zz ((op c).run env) λq=>.ok (cond q ((op a).run env) ((op b).run env)) st) _;generalize (op c).run env=vc at hc;cases vc<;>try trivial
 rename_i q;simp only[VR] at hc;refine Res.val (x:=if q then ρ a else ρ b) k ?_ ?_
 ·simp only[execOp,ho,hc,asBool,Sem.run_bind,Sem.run_pure,Result.andThen_ok]
 ·cases q
  ·exact hb
  ·exact ha
theorem jfd {t:TypeId}(ho:o.op=.alloc t)(k:Sim ι st.h st.nx w):Res ι w st ((jy P op (.alloc t)).run env st) ((execOp ρ o).run P w):=by
 simp only[jy];cases hz:zeroCells P t with
 |none=>trivial
 |some z=>
  simp only;obtain⟨i,zv,hi,hzv,hr⟩:=wy hz ι;cases hc:lall AV.cell z
  ·trivial
  ·refine GK k (v:=zv) hr (by simpa using hc) t ?_;simp only[execOp,ho,Sem.run_bind,jh0 hi hzv,Result.andThen_ok,Sem.run_pure]
theorem jkk {t:TypeId}{x:Operand}(ho:o.op=.box t x)(k:Sim ι st.h st.nx w)(hx:VR ι ((op x).run env) (ρ x)) :
  Res ι w st ((jy P op (.box t x)).run env st) ((execOp ρ o).run P w):=by
 refine jN λhc=>?_;rw[uJ] at hc;refine GK k (v:=ρ x) (VR.cells hc hx) hc t ?_;simp only[execOp,ho,Sem.run_bind,jm3,Result.andThen_ok,Sem.run_pure]
theorem jhC {t:TypeId}{x:Operand}(ho:o.op=.load t x)(k:Sim ι st.h st.nx w)(hx:VR ι ((op x).run env) (ρ x)) :
  Res ι w st ((jy P op (.load t x)).run env st) ((execOp ρ o).run P w):=by
 show Res ι w st (match (qQ P t).run ((op x).run env) st.h with|some v=>.ok v st|none=>.no) _;cases h:(qQ P t).run ((op x).run env) st.h with
 |none=>trivial
 |some u=>
  obtain⟨y,hy,hv⟩:=jdd k hx h;exact Res.val k (by simp only[execOp,ho,Sem.run_bind,hy,Result.andThen_ok,Sem.run_pure]) hv
theorem je5 {t:TypeId}{x y:Operand}(ho:o.op=.store t x y)(k:Sim ι st.h st.nx w)(hx:VR ι ((op x).run env) (ρ x))(hy:VR ι ((op y).run env) (ρ y)) :
  Res ι w st ((jy P op (.store t x y)).run env st) ((execOp ρ o).run P w):=by
 simp only[jy,jaJ];cases hs:Ev.sizeOf P t with
 |none=>trivial
 |some n=>
  simp only;obtain⟨i,hi,hsi⟩:=zm hs;generalize hvx:(op x).run env=vx at hx;cases vx<;>try trivial
  rename_i b off;simp only[VR] at hx;obtain⟨hb,ad,hpx,had⟩:=hx;simp only[q7];cases hg:jx st.h b with
  |none=>trivial
  |some ob=>
   cases ob<;>try trivial
   rename_i m zl z cs;simp only[yh];refine jN λh1=>jN λh2=>jN λh3=>?_;rw[qH,jO] at h1;rw[qg] at h2;rw[uJ] at h3;rw[St.put_eq];obtain⟨B,S,c,elem,lo,hi',e,hw,_⟩:=k.row hb hg;rw[had B S e] at hpx;have hcells:=VR.cells h3 hy;have h2':off+n<=m:=h2;obtain⟨w',hr,hs',hf'⟩:=UO (P:=P) (o:=off) k hb hg e hcells h3 om;refine⟨ι,undef,w',.inr ⟨?_,rfl⟩,Le.refl ι,?_,hs',hf',Cleanly.put ι st b _ (k.born b hb),rfl⟩
   ·have hsz:(ρ y).cells.size=i.size:=by
     have:=hcells.length;rw[Qak] at this;omega
    simp only[execOp,ho,Sem.run_bind,hpx,Instr.storeAt,Instr.sureAddr,Sem.run_pure,Result.andThen_ok,storeVar,qb hi,hsz];simp[hr]
   ·show VR ι qd undef;simp only[qd,undef,VR];exact⟨#[],rfl,by simp[VRs]⟩
theorem Hs {x:Operand}(ho:o.op=.nilCheck x)(k:Sim ι st.h st.nx w)(hx:VR ι ((op x).run env) (ρ x)) :
  Res ι w st ((jy P op (.nilCheck x)).run env st) ((execOp ρ o).run P w):=by
 simp only[jy,J7];try dsimp only
 generalize (op x).run env=vx at hx;cases vx<;>try trivial
 all_goals
  refine Res.val k (x:=ρ x) ?_ hx;simp only[VR] at hx
 case bool=>simp[execOp,ho,hx]
 case int=>simp[execOp,ho,hx]
 case str=>obtain⟨bs,h,_⟩:=hx;simp[execOp,ho,h]
 case zstr=>obtain⟨bs,h,_⟩:=hx;simp[execOp,ho,h]
 case ptr=>obtain⟨_,a,h,_⟩:=hx;simp[execOp,ho,h]
 case slice=>obtain⟨_,_,a,C,h,_⟩:=hx;simp[execOp,ho,h]
 case nils=>simp[execOp,ho,hx]
 case map=>obtain⟨_,R,h,_⟩:=hx;simp[execOp,ho,h]
 case nilm=>simp[execOp,ho,hx]
 case fn=>obtain⟨cv,h,_⟩:=hx;simp[execOp,ho,h]
 case iface=>obtain⟨y,h,_⟩:=hx;simp[execOp,ho,h]
 case agg=>obtain⟨y,h,_⟩:=hx;simp[execOp,ho,h]
 case tup=>obtain⟨y,h,_⟩:=hx;simp[execOp,ho,h]
 case lst=>obtain⟨p,C,h,_⟩:=hx;simp[execOp,ho,h]
 case xlst=>obtain⟨p,h,_⟩:=hx;simp[execOp,ho,h]
 case lptr=>obtain⟨B,o,vs,h,_⟩:=hx;simp[execOp,ho,h]
theorem jbG {x:Operand}{i:Nat}(ho:o.op=.extract x i)(k:Sim ι st.h st.nx w)(hx:VR ι ((op x).run env) (ρ x)) :
  Res ι w st ((jy P op (.extract x i)).run env st) ((execOp ρ o).run P w):=by
 simp only[jy];try dsimp only
 generalize (op x).run env=vx at hx;cases vx<;>try trivial
 rename_i vs;simp only[VR] at hx;obtain⟨a,h,hv⟩:=hx;refine jN λhle=>?_;rw[qg,jO] at hle;have hl:=hv.length;rw[Qak] at hl;have hi:i<a.size:=om
 refine Res.val k (x:=a[i]) ?_ ?_
 ·simp[execOp,ho,h,Instr.extract,hi]
 ·rw[zC];have:=hv.get i om;simpa[ω,hi] using this
theorem Vl {x:Operand}{t:TypeId}(ho:o.op=.makeInterface t x)(k:Sim ι st.h st.nx w)(hx:VR ι ((op x).run env) (ρ x)) :
  Res ι w st ((jy P op (.makeInterface t x)).run env st) ((execOp ρ o).run P w):=by
 simp only[jy];cases hu:P.underlying t with
 |none=>trivial
 |some d=>
  cases d<;>try trivial
  all_goals
   refine Res.val k (x:=.iface t (ρ x)) ?_ (by simp only[VR];exact⟨_,rfl,hx⟩);simp[execOp,ho,Instr.makeInterface,run_underlying hu]
theorem Ht {f:FuncId}{first caps:Array Operand}(ho:o.op=.makeFunc (.func f) first caps)(k:Sim ι st.h st.nx w)(hx:∀ x∈caps,VR ι ((op x).run env) (ρ x)) :
  Res ι w st ((jy P op (.makeFunc (.func f) first caps)).run env st) ((execOp ρ o).run P w):=by
 simp only[jy];split<;>try trivial
 rename_i hf;have hf':first = #[]:=by
  cases first;simp at hf;rw[hf]
 subst hf';refine Res.val k (x:=.func (.func f) #[] (caps.map ρ)) ?_ ?_
 ·simp[execOp,ho,Instr.makeFunc]
 ·simp only[VR];refine⟨_,rfl,?_⟩;rw[yE,Qbn];exact VRs.map_of _ λx hxm=>hx x (by simpa using hxm)
theorem jbF {t:TypeId}(ho:o.op=.makeMap t none)(k:Sim ι st.h st.nx w):Res ι w st ((jy P op (.makeMap t none)).run env st) ((execOp ρ o).run P w):=by
 simp only[jy];rw[St.alloc_eq];refine Res.alloc k (S:=0) (x:=.map #[] 0) (y:=.map (some w.heap.size)) ?_ ?_ ?_
 ·simp only[OR];exact⟨#[],0,rfl,by simp[MR]⟩
 ·simp only[VR];refine⟨by rw[XX];simp,_,rfl,λB S e=>?_⟩;rw[XX] at e;cases e;rfl
 ·simp[execOp,ho,Instr.makeMap]
theorem KO {P:Program}{t:TypeId}{n:Nat}(h:Ev.sizeOf P t=some (n+1))(a:Addr)(f:Field)(hf:f.type=t):(fieldPlace a f).run P w=.ok (a.add f.offset) w:=by
 obtain⟨i,hi,hs⟩:=zm h;subst hf;simp[fieldPlace,qb hi,hs]
theorem hZ {s:TypeId}{x:Operand}{f:Nat}(ho:o.op=.fieldAddr s x f)(k:Sim ι st.h st.nx w)(hx:VR ι ((op x).run env) (ρ x)) :
  Res ι w st ((jy P op (.fieldAddr s x f)).run env st) ((execOp ρ o).run P w):=by
 simp only[jy,YC];split<;>try trivial
 rename_i fields hu;split<;>try trivial
 rename_i fd hfd;split<;>try trivial
 rename_i n hn;try dsimp only
 generalize (op x).run env=vx at hx;cases vx<;>try trivial
 rotate_left
 ·rename_i cs o;simp only[VR] at hx;obtain⟨B,o',vs,hpx,e0,e2,e3,e4⟩:=hx;refine Res.val k (x:=.pointer (some ((⟨B,o'+o,none⟩:Addr).add fd.offset))) ?_ ?_
  ·simp only[execOp,ho,Instr.fieldAt,Sem.run_bind,run_underlying hu,Result.andThen_ok,hpx,Instr.sureAddr];simp[hfd,KO hn _ fd rfl]
  ·simp only[VR];exact⟨B,o',vs,by rw[yB,Qbi];rfl,e0,e2,e3,e4⟩
 rename_i b off;simp only[VR] at hx;obtain⟨hb,ad,hpx,had⟩:=hx;simp only[jE];refine Res.val k (x:=.pointer (some (ad.add fd.offset))) ?_ ?_
 ·simp only[execOp,ho,Instr.fieldAt,Sem.run_bind,run_underlying hu,Result.andThen_ok,hpx,Instr.sureAddr];simp[hfd,KO hn _ fd rfl]
 ·simp only[VR];refine⟨hb,_,rfl,λB S e=>?_⟩;rw[had B S e,yB];rfl
theorem Y2 {t:TypeId}{cs:List AV}{a:Array Value}(h:VRs ι cs a.toList){off:Nat}{u:AV}(hp:zp P t cs off=some u) :
  ∃ x,(part t a off).run P w=.ok x w/\VR ι u x:=by
 unfold zp at hp;cases hg:Ev.isAgg P t with
 |none=>simp[hg] at hp
 |some g=>
  simp only[hg,QaT] at hp;cases g
  ·simp only[cond] at hp;cases hle:Qck (Qcj off) (jP cs)
   ·rw[hle] at hp;cases hp
   ·rw[hle] at hp;simp only[zC,Option.some.injEq] at hp;rw[qg,jO] at hle;have hl:=h.length;rw[Qak] at hl;have hi:off<a.size:=om
    refine⟨a[off],by simp[part,X7 hg,hi],?_⟩;rw[<-hp];have:=h.get off om;simpa[ω,hi] using this
  ·simp only[cond] at hp;cases hs:Ev.sizeOf P t with
   |none=>simp[hs] at hp
   |some n=>
    simp only[hs,Qaw,Option.some.injEq,qW,yR] at hp;obtain⟨i,hi,hsi⟩:=zm hs;refine⟨.agg (a.extract off (off+n)),by simp[part,X7 hg,qb hi,hsi],?_⟩;rw[<-hp];simp only[VR];refine⟨_,rfl,?_⟩;have:=(h.drop off).take n;simpa[Array.toList_extract,List.extract_eq_take_drop] using this
theorem jfa {s:TypeId}{x:Operand}{f:Nat}(ho:o.op=.field s x f)(k:Sim ι st.h st.nx w)(hx:VR ι ((op x).run env) (ρ x)) :
  Res ι w st ((jy P op (.field s x f)).run env st) ((execOp ρ o).run P w):=by
 simp only[jy,uL];split<;>try trivial
 rename_i fields hu;split<;>try trivial
 rename_i fd hfd;try dsimp only
 generalize (op x).run env=vx at hx;cases vx<;>try trivial
 rename_i cs;simp only[VR] at hx;obtain⟨a,hpx,hv⟩:=hx;simp only[Qh];cases hp:zp P fd.type cs fd.offset with
 |none=>trivial
 |some u=>
  obtain⟨y,hy,hvy⟩:=Y2 (w:=w) hv hp;refine Res.val k (x:=y) ?_ hvy;simp only[execOp,ho,Instr.field,Sem.run_bind,run_underlying hu,Result.andThen_ok,hpx,asAgg];simp[hfd,hy]
theorem zy {v:AV}{x:Value}(hv:VR ι v x){f:Nat->ER}{res:Result Next}(h:∀ k n,x=.int k (Qas n)->Res ι w st (f n) res):Res ι w st (qp v f) res:=by
 unfold qp;split<;>try trivial
 rename_i kk n;simp only[VR] at hv;rw[jE];exact h _ _ hv
theorem hY {t:TypeId}{x y:Operand}(ho:o.op=.indexAddr t x y)(k:Sim ι st.h st.nx w)(hx:VR ι ((op x).run env) (ρ x))(hy:VR ι ((op y).run env) (ρ y)) :
  Res ι w st ((jy P op (.indexAddr t x y)).run env st) ((execOp ρ o).run P w):=by
 simp only[jy,Xc];split<;>try trivial
 ·rename_i n e hu;split<;>try trivial
  rename_i s hs;obtain⟨i,hi,hsi⟩:=zm hs;try dsimp only
  generalize (op x).run env=vx at hx;cases vx<;>try trivial
  rename_i b off;simp only[VR] at hx;obtain⟨hb,ad,hpx,had⟩:=hx;simp only[q7];refine zy hy λkk j hj=>jN λhle=>?_;rw[qg] at hle;rw[jE];refine Res.val k (x:=.pointer (some (ad.add (j * s)))) ?_ ?_
  ·have h1:(0:Int)<=Qas j/\Qas j<(n:Int):=⟨QbL j,by show(j:Int)<n;omega⟩;simp only[execOp,ho,Instr.indexAt,hj,asIntOf,Sem.run_bind,Sem.run_pure,Result.andThen_ok,run_underlying hu,hpx,Instr.sureAddr];simp[qb hi,hsi,run_underlying hu];omega
  ·simp only[VR];refine⟨hb,_,rfl,λB S e=>?_⟩;rw[had B S e,yB];rfl
 ·rename_i e hu;split<;>try trivial
  rename_i s hs;obtain⟨i,hi,hsi⟩:=zm hs;try dsimp only
  generalize (op x).run env=vx at hx;cases vx<;>try trivial
  rotate_left
  ·rename_i n cs;simp only[VR] at hx;obtain⟨p,C,hpx,hC,e0,hn⟩:=hx;refine zy hy λkk j hj=>jN λhle=>?_;rw[qg] at hle;obtain⟨B,o',vs,rfl,e2,e3,e4⟩:=hn om;refine Res.val k (x:=.pointer (some ((⟨B,o',none⟩:Addr).add (j * s)))) ?_ ?_
   ·simp only[execOp,ho,Instr.indexAt,hj,asIntOf,Sem.run_bind,Sem.run_pure,Result.andThen_ok,run_underlying hu,hpx];simp[qb hi,hsi,run_underlying hu];omega
   ·simp only[VR];exact⟨B,o',vs,by rw[yB];rfl,e0,e2,e3,e4⟩
  rename_i b off len cap sz ex;simp only[VR] at hx;obtain⟨hb,hlc,ad,C,hpx,hC,hex,had⟩:=hx;refine zy hy λkk j hj=>jN λhle=>?_;rw[qg] at hle;rw[jE];refine Res.val k (x:=.pointer (some (ad.add (j * s)))) ?_ ?_
  ·simp only[execOp,ho,Instr.indexAt,hj,asIntOf,Sem.run_bind,Sem.run_pure,Result.andThen_ok,run_underlying hu,hpx];simp[qb hi,hsi,run_underlying hu];omega
  ·simp only[VR];refine⟨hb,_,rfl,λB S e=>?_⟩;have hC0:C≠0:=om
   rcases (had B S e).1 with h0|h0
   ·exact absurd h0 hC0
   ·rw[h0,yB];rfl
end
theorem Xu (a b:Int):ltI a b=decide (a<b):=by
 have key:∀ m n:Nat,Qck (Qcj m) n=decide (m<n):=λm n=>by
  rw[Qay,qg,decide_eq_true_iff];exact Nat.succ_le_iff
 cases a with
 |ofNat m=>cases b with
  |ofNat n=>show Qck (Qcj m) n=_;rw[key];congr 1;simp
  |negSucc n=>show false=_;symm;rw[decide_eq_false_iff_not];simp[Int.negSucc_eq];omega
 |negSucc m=>cases b with
  |ofNat n=>show true=_;symm;rw[decide_eq_true_iff];simp[Int.negSucc_eq];omega
  |negSucc n=>show Qck (Qcj n) m=_;rw[key];congr 1;simp[Int.negSucc_eq]
theorem Xw (a b:Int):eqI a b=decide (a=b):=by
 have key:∀ m n:Nat,Qci m n=decide (m=n):=λm n=>by
  rw[Qay,qH,decide_eq_true_iff]
 cases a with
 |ofNat m=>cases b with
  |ofNat n=>show Qci m n=_;rw[key];congr 1;simp;omega
  |negSucc n=>show false=_;symm;rw[decide_eq_false_iff_not];intro h;cases h
 |negSucc m=>cases b with
  |ofNat n=>show false=_;symm;rw[decide_eq_false_iff_not];intro h;cases h
  |negSucc n=>show Qci m n=_;rw[key];congr 1;simp
theorem vn {a b:IntKind}(h:eqK a b=true):a=b:=by
 cases a<;>cases b<;>first|rfl|(simp[eqK] at h)
theorem uW {k:IntKind}{n:Nat}(h:n<=zB k):k.wrap (.ofNat n)=.ofNat n:=by
 have e:(Qas n)=(n:Int):=rfl;rw[e];cases k<;>simp only[zB] at h<;>simp only[IntKind.wrap,IntKind.bits,IntKind.signed]<;>simp<;>omega
theorem jju {k:IntKind}{n:Nat}(hs:sgn k=true)(h:n<=zB k):k.wrap (.negSucc n)=.negSucc n:=by
 rw[Int.negSucc_eq];cases k<;>simp only[zB] at h<;>simp[sgn] at hs<;>simp only[IntKind.wrap,IntKind.bits,IntKind.signed]<;>simp<;>omega
theorem YO (k:IntKind)(x:Int):qY k x=k.wrap x:=by
 unfold qY;cases x with
 |ofNat n=>
  simp only[jE];cases h:Qck n (zB k)
  ·rfl
  ·rw[qg] at h;exact(uW h).symm
 |negSucc n=>
  simp only[jE];cases hs:sgn k
  ·rfl
  ·cases h:Qck n (zB k)
   ·rfl
   ·rw[qg] at h;exact(jju hs h).symm
theorem jdc (k:IntKind):zB k<2 ^ k.bits:=by cases k<;>simp[zB,IntKind.bits]
theorem GI (w n:Nat)(h:n<2 ^ w):(BitVec.ofInt w (.ofNat n)).toNat=n:=by
 have e:(Qas n)=(n:Int):=rfl;rw[e,BitVec.ofInt_natCast,BitVec.toNat_ofNat,Qbm h]
theorem jj2 (k:IntKind):∃ w,zB k=2 ^ w - 1/\w<=k.bits:=by
 cases k
 ·exact⟨7,by simp[zB],by simp[IntKind.bits]⟩
 ·exact⟨15,by simp[zB],by simp[IntKind.bits]⟩
 ·exact⟨31,by simp[zB],by simp[IntKind.bits]⟩
 ·exact⟨63,by simp[zB],by simp[IntKind.bits]⟩
 ·exact⟨8,by simp[zB],by simp[IntKind.bits]⟩
 ·exact⟨16,by simp[zB],by simp[IntKind.bits]⟩
 ·exact⟨32,by simp[zB],by simp[IntKind.bits]⟩
 ·exact⟨64,by simp[zB],by simp[IntKind.bits]⟩
theorem jm6 (op:BinOp)(k:IntKind)(x y:Int):ki op k x y=ZQ op k x y:=by
 unfold ki;split<;>try rfl
 rename_i m n;cases hm:Qck m (zB k)
 ·rfl
 cases hn:Qck n (zB k)
 ·rfl
 rw[qg] at hm hn;have hm':=Nat.lt_of_le_of_lt hm (jdc k);have hn':=Nat.lt_of_le_of_lt hn (jdc k);have em:=GI k.bits m hm';have en:=GI k.bits n hn';obtain⟨w,hw,hwb⟩:=jj2 k;have pw:0<2 ^ w:=Nat.two_pow_pos w;have hm2:m<2 ^ w:=om
 have hn2:n<2 ^ w:=om
 show(match op with | .and=>_ | .or=>_ | .xor=>_|op=>_)=_;cases op<;>try rfl
 ·show some (Qas (m &&& n))=some (k.wrap (Qas (BitVec.ofInt k.bits (.ofNat m) &&& BitVec.ofInt k.bits (.ofNat n)).toNat));rw[BitVec.toNat_and,em,en,uW];have:=Nat.and_lt_two_pow m hn2;omega
 ·show some (Qas (m |||n))=some (k.wrap (Qas (BitVec.ofInt k.bits (.ofNat m) |||BitVec.ofInt k.bits (.ofNat n)).toNat));rw[BitVec.toNat_or,em,en,uW];have:=Nat.or_lt_two_pow hm2 hn2;omega
 ·show some (Qas (m ^^^ n))=some (k.wrap (Qas (BitVec.ofInt k.bits (.ofNat m) ^^^ BitVec.ofInt k.bits (.ofNat n)).toNat));rw[BitVec.toNat_xor,em,en,uW];have:=Nat.xor_lt_two_pow hm2 hn2;omega
section
variable {P:Program} {ι:Inj} {w:World} {st:St}
theorem jhW {op:BinOp}{k:IntKind}{x y m:Int}(h:ZQ op k x y=some m):(Op.intBits op k x y).run P w=.ok (.int k m) w:=by
 unfold ZQ at h;cases op<;>simp only[Option.some.injEq] at h<;>try(cases h;done)
 all_goals
  subst h;simp[Op.intBits]
theorem jkA {op:BinOp}(hs:op≠.shl)(hs':op≠.shr){k:IntKind}{a b:Int}{v:AV}(h:(Q4 op).run k a b=some v)(t:TypeId) :
  ∃ x,(binOp op t (.int k a) (.int k b)).run P w=.ok x w/\VR ι v x:=by
 cases op<;>simp only[Q4,BF.run,YO,jm6,Xu,Xw,Option.some.injEq] at h;case shl=>exact absurd rfl hs
 case shr=>exact absurd rfl hs'
 case add=>subst h;exact⟨.int k (k.wrap (a+b)),by simp[binOp,Op.intArith],rfl⟩
 case sub=>subst h;exact⟨.int k (k.wrap (a - b)),by simp[binOp,Op.intArith],rfl⟩
 case mul=>subst h;exact⟨.int k (k.wrap (a * b)),by simp[binOp,Op.intArith],rfl⟩
 case quo=>
  by_cases hb:b=.ofNat 0
  ·simp[hb] at h
  ·rw[decide_eq_false hb] at h;simp only[cond] at h;have hb':¬ b=0:=hb;refine⟨.int k (k.wrap (a.tdiv b)),by simp[binOp,Op.intDiv,hb'],?_⟩;split at h
   ·rename_i m n;simp only[Option.some.injEq] at h;subst h;rfl
   ·simp only[Option.some.injEq] at h;subst h;rfl
 case rem=>
  by_cases hb:b=.ofNat 0
  ·simp[hb] at h
  ·rw[decide_eq_false hb] at h;simp only[cond] at h;have hb':¬ b=0:=hb;refine⟨.int k (a.tmod b),by simp[binOp,Op.intDiv,hb'],?_⟩;split at h
   ·simp only[Option.some.injEq] at h;subst h;rfl
   ·simp only[Option.some.injEq] at h;subst h;rfl
 case eql=>subst h;exact⟨.bool (a == b),by simp[binOp,Op.intCmp],by simp[VR];rw[Qay];simp⟩
 case neq=>
  subst h;refine⟨.bool (a != b),by simp[binOp,Op.intCmp],?_⟩;simp only[VR,Value.bool.injEq];by_cases hb:a=b<;>simp[hb]
 case lss=>subst h;exact⟨.bool (decide (a<b)),by simp[binOp,Op.intCmp],rfl⟩
 case leq=>
  subst h;refine⟨.bool (decide (a<=b)),by simp[binOp,Op.intCmp],?_⟩;simp only[VR,Value.bool.injEq];by_cases hb:b<a
  ·have:¬ a<=b:=om
   simp[hb,this]
  ·have:a<=b:=om
   simp[hb,this]
 case gtr=>subst h;exact⟨.bool (decide (a > b)),by simp[binOp,Op.intCmp],rfl⟩
 case geq=>
  subst h;refine⟨.bool (decide (a ≥ b)),by simp[binOp,Op.intCmp],?_⟩;simp only[VR,Value.bool.injEq];by_cases hb:a<b
  ·have:¬ a ≥ b:=om
   simp[hb,this]
  ·have:a ≥ b:=om
   simp[hb,this]
 all_goals
  rw[QbA] at h;obtain⟨m,hm,rfl⟩:=h;refine⟨.int k m,?_,rfl⟩;simp[binOp,jhW hm]
theorem jaN {op:BinOp}(ho:op=.shl\/op=.shr){k yk:IntKind}{a b:Int}{v:AV}(h:Zw op k a b=some v)(t:TypeId) :
  ∃ x,(binOp op t (.int k a) (.int yk b)).run P w=.ok x w/\VR ι v x:=by
 rcases ho with rfl|rfl
 all_goals
  simp only[Zw,Xu] at h;by_cases hb:b<.ofNat 0
  ·rw[decide_eq_true hb] at h;cases h
  ·rw[decide_eq_false hb] at h;simp only[cond,Option.some.injEq] at h;have hb':¬ b<0:=hb;subst h;exact⟨_,by simp[binOp,Op.shift,hb'],rfl⟩
theorem JH:∀ a b:List Nat,Y9 a b=decide (a=b)
 |[],[]=>rfl
 |[],b :: l=>by show false=_;simp
 |a :: l,[]=>by show false=_;simp
 |a :: l,b :: r=>by
  show cond (Qci a b) (Y9 l r) false=_;rw[JH l r];cases h:Qci a b
  ·have:a≠b:=λe=>by rw[<-qH,h] at e;cases e
   simp[this]
  ·rw[qH] at h;simp[h]
theorem JT:∀ {a b:List UInt8},a.map UInt8.toNat=b.map UInt8.toNat↔a=b
 |[],[]=>by simp
 |[],_ :: _=>by simp
 |_ :: _,[]=>by simp
 |a :: l,b :: r=>by simp[JT (a:=l) (b:=r),UInt8.toNat_inj]
theorem VA:∀ a b:List UInt8,Ev.bytesLess (a.map UInt8.toNat) (b.map UInt8.toNat)=Op.bytesLess a b
 |[],[]=>by simp[Ev.bytesLess,Op.bytesLess]
 |[],_ :: _=>by simp[Ev.bytesLess,Op.bytesLess]
 |_ :: _,[]=>by simp[Ev.bytesLess,Op.bytesLess]
 |a :: l,b :: r=>by
  simp only[ζ,Ev.bytesLess,Op.bytesLess,VA l r]
  congr 1
  ·rw[Qay,qg,decide_eq_true_iff,UInt8.lt_iff_toNat_lt];exact Nat.succ_le_iff
  ·congr 1
   rw[Qay,qH,beq_iff_eq,UInt8.toNat_inj]
theorem QK {s:List Nat}{bs:ByteArray}(h:bs.data.toList.map UInt8.toNat=s):bs.size=s.length:=by
 rw[<-h,Qaq,Qak];rfl
theorem jgv {op:BinOp}{a b:List Nat}{x y:ByteArray}(hx:x.data.toList.map UInt8.toNat=a)(hy:y.data.toList.map UInt8.toNat=b){v:AV}(h:vE op a b=some v)(t:TypeId) :
  ∃ u,(binOp op t (.string x) (.string y)).run P w=.ok u w/\VR ι v u:=by
 have e:decide (a=b)=(x.toList == y.toList):=by
  rw[Qay,decide_eq_true_iff,beq_iff_eq,ByteArray.toList_eq,ByteArray.toList_eq,<-hx,<-hy,JT]
 have el:Ev.bytesLess a b=Op.bytesLess x.toList y.toList:=by rw[ByteArray.toList_eq,ByteArray.toList_eq,<-hx,<-hy,VA]
 cases op;case add=>
  change cond (Qck (Qcl (jP a) (jP b)) 9223372036854775807) (some (AV.str (yS a b))) none=some v at h;generalize hle:Qck (Qcl (jP a) (jP b)) 9223372036854775807=q at h;cases q
  ·cases h
  ·simp only[cond,Option.some.injEq,yv] at h;rw[qg,jO,jO] at hle;have hle':a.length+b.length<=9223372036854775807:=hle;refine⟨.string (x ++ y),?_,?_⟩
   ·rw[binOp_string_add,run_string_add_sum w x y (by rw[QK hx,QK hy];exact hle')]
   ·subst h;simp only[VR];exact⟨_,rfl,by simp[hx,hy]⟩
 all_goals simp only[vE,JH,Option.some.injEq] at h
 all_goals try(cases h;done)
 case eql=>subst h;exact⟨.bool (x.toList == y.toList),by simp[binOp,Op.stringOp],by simp only[VR,e]⟩
 case neq=>
  subst h;refine⟨.bool (!(x.toList == y.toList)),by simp[binOp,Op.stringOp],?_⟩;simp only[VR,e];cases (x.toList == y.toList)<;>rfl
 case lss=>subst h;exact⟨.bool (Op.bytesLess x.toList y.toList),by simp[binOp,Op.stringOp],by simp only[VR,el]⟩
 case leq=>subst h;exact⟨.bool (Op.bytesLess x.toList y.toList ||x.toList == y.toList),by simp[binOp,Op.stringOp],by simp only[VR,el,e]⟩
 case gtr=>subst h;exact⟨.bool (!(Op.bytesLess x.toList y.toList ||x.toList == y.toList)),by simp[binOp,Op.stringOp],by simp only[VR,el,e]⟩
 case geq=>subst h;exact⟨.bool (!(Op.bytesLess x.toList y.toList)),by simp[binOp,Op.stringOp],by simp only[VR,el]⟩
end
section
variable {P:Program} {ι:Inj} {w:World} {st:St}
theorem UH {d n len:Nat}{t e:TypeId}{i:TypeInfo}(ht:P.underlying t=some (.array len e))(hi:P.info? e=some i)(hn:i.size=n)(xs ys:Array Value)
  (f:Nat->Option Bool) :
  ∀ (k s:Nat) (q:Bool),((Qac s k).foldr (λi r=>(f i).bind λq=>cond q r (some false)) (some true))=some q->
   (∀ j b,s<=j->j<s+k->f j=some b->∃ u v,(part e xs (j * n)).run P w=.ok u w/\(part e ys (j * n)).run P w=.ok v w/\(Op.equalIn d e u v).run P w=.ok b w)->
   (do
    for i in Qac s k do
     if !(<-Op.equalIn d e (<-part e xs (i * n)) (<-part e ys (i * n))) then return false
    return true:Sem Bool).run P w=.ok q w
 |0,s,q,h,_=>by
  simp at h;subst h;simp
 |k+1,s,q,h,hf=>by
  rw[Qbc,QbM] at h;cases hs:f s with
  |none=>simp[hs] at h
  |some b=>
   obtain⟨u,v,h1,h2,h3⟩:=hf s b (μ _) om hs;simp only[hs,QaT] at h;have ih:=λq' h'=>UH ht hi hn xs ys f k (s+1) q' h' (λj b h4 h5 h6=>hf j b om om h6);cases b
   ·simp only[cond,Option.some.injEq] at h;subst h;simp[Qbc,h1,h2,h3]
   ·simp only[cond] at h;have:=ih q h;simp[Qbc,h1,h2,h3] at this ⊢;exact this
theorem jad:∀ (d:Nat) (t:TypeId) (x y:AV) (u v:Value) (q:Bool),VR ι x u->VR ι y v->(eqF P d t).run x y=some q->∀ D,d<=D->(Op.equalIn D t u v).run P w=.ok q w
 |0,t,x,y,u,v,q,hx,hy,h,D,hD=>by simp[eqF,NOQ] at h
 |d+1,t,x,y,u,v,q,hx,hy,h,0,hD=>by omega
 |d+1,t,x,y,u,v,q,hx,hy,h,D+1,hD=>by
  have hD':d<=D:=om
  simp only[eqF] at h;split at h
  ·rename_i hu;simp only at h;split at h<;>try(cases h;done)
   simp only[VR] at hx hy;subst hx;subst hy;rename_i a b;simp only[Option.some.injEq] at h;rw[run_equalIn_bool' w D t a b hu,<-h];cases a<;>cases b<;>rfl
  ·rename_i hu;simp only at h;split at h<;>try(cases h;done)
   simp only[VR] at hx hy;subst hx;subst hy;rename_i k a k' b;generalize hk:eqK k k'=kk at h;cases kk
   ·cases h
   ·have:=vn hk;subst this;simp only[cond,Option.some.injEq,Xw] at h;rw[run_equalIn_int w D t k _ a b hu,<-h]
    congr 1
  ·rename_i hu;simp only at h;split at h<;>try(cases h;done)
   simp only[VR] at hx hy;obtain⟨bx,rfl,hbx⟩:=hx;obtain⟨by',rfl,hby⟩:=hy;simp only[Option.some.injEq,JH] at h;rw[run_equalIn_string w D t _ _ hu,<-h]
   congr 1
   rw[Qay,decide_eq_true_iff,beq_iff_eq,ByteArray.toList_eq,ByteArray.toList_eq,<-hbx,<-hby,JT]
  ·rename_i hu;simp only at h;split at h<;>(try simp only[Option.some.injEq] at h)<;>try(cases h;done)
   all_goals simp only[VR] at hx hy
   ·subst hx;subst hy;subst h;simp[Op.equalIn,run_underlying hu]
   ·obtain⟨_,a,rfl,_⟩:=hy;subst hx;subst h;simp[Op.equalIn,run_underlying hu]
   ·obtain⟨_,a,rfl,_⟩:=hx;subst hy;subst h;simp[Op.equalIn,run_underlying hu]
  ·rename_i hu;simp only at h;split at h<;>(try simp only[Option.some.injEq] at h)<;>try(cases h;done)
   all_goals simp only[VR] at hx hy
   ·subst hx;subst hy;subst h;simp[Op.equalIn,run_underlying hu]
   ·obtain⟨_,_,a,C,rfl,_⟩:=hy;subst hx;subst h;simp[Op.equalIn,run_underlying hu]
   ·obtain⟨_,_,a,C,rfl,_⟩:=hx;subst hy;subst h;simp[Op.equalIn,run_underlying hu]
   ·obtain⟨p,C,rfl,_,_,hp⟩:=hx;obtain⟨B,o,vs,rfl,_⟩:=hp (QaN _);subst hy;subst h;simp[Op.equalIn,run_underlying hu]
  ·rename_i hu;simp only at h;split at h<;>(try simp only[Option.some.injEq] at h)<;>try(cases h;done)
   all_goals simp only[VR] at hx hy
   ·subst hx;subst hy;subst h;simp[Op.equalIn,run_underlying hu]
   ·obtain⟨_,a,rfl,_⟩:=hy;subst hx;subst h;simp[Op.equalIn,run_underlying hu]
   ·obtain⟨_,a,rfl,_⟩:=hx;subst hy;subst h;simp[Op.equalIn,run_underlying hu]
  ·rename_i hu;simp only at h;split at h<;>(try simp only[Option.some.injEq] at h)<;>try(cases h;done)
   all_goals simp only[VR] at hx hy
   ·subst hx;subst hy;subst h;simp[Op.equalIn,run_underlying hu]
   ·obtain⟨a,rfl,_⟩:=hy;subst hx;subst h;simp[Op.equalIn,run_underlying hu]
   ·obtain⟨a,rfl,_⟩:=hx;subst hy;subst h;simp[Op.equalIn,run_underlying hu]
  ·rename_i hu;simp only at h;split at h<;>(try simp only[Option.some.injEq] at h)<;>try(cases h;done)
   all_goals simp only[VR] at hx hy
   ·obtain⟨a,rfl,_⟩:=hy;subst hx;subst h;simp[Op.equalIn,run_underlying hu]
   ·obtain⟨a,rfl,_⟩:=hx;subst hy;subst h;simp[Op.equalIn,run_underlying hu]
  ·rename_i fields hu
   generalize hg : (P.stoodInHeld t || fields.toList.any λf => f.name == "_") = g at h
   cases g
   ·simp only[cond] at h;split at h<;>try(cases h;done)
    rename_i xs ys;simp only[VR] at hx hy;obtain⟨ax,rfl,hax⟩:=hx;obtain⟨ay,rfl,hay⟩:=hy;rw[QbN] at hg;have hf:P.fieldsOf t=fields:=by simp[Program.fieldsOf,hu]
    rw[run_equalIn_struct w D t ax ay (by rw[hf];exact hu) hg.1,hf];have hn:=hg.2;generalize fields.toList=fs at h hn;clear hg hf hu;induction fs generalizing q with
    |nil=>simp at h;subst h;simp[Op.eqFields]
    |cons f fs ih=>
     rw[QbM] at h;simp only[List.any_cons,QbN,beq_eq_false_iff_ne] at hn;cases h1:zp P f.type xs f.offset with
     |none=>simp[h1] at h
     |some ux=>
      cases h2:zp P f.type ys f.offset with
      |none=>simp[h1,h2] at h
      |some uy=>
       obtain⟨px,hpx,hvx⟩:=Y2 (w:=w) hax h1;obtain⟨py,hpy,hvy⟩:=Y2 (w:=w) hay h2;cases h3:(eqF P d f.type).run ux uy with
       |none=>simp[h1,h2,h3] at h
       |some b=>
        have h4:=jad d f.type ux uy px py b hvx hvy h3 D hD';simp only[h1,h2,h3,QaT] at h;simp only[Op.eqFields,hn.1,ne_eq,not_false_eq_true,if_true,Sem.run_bind,hpx,hpy,h4,Result.andThen_ok];cases b
        ·simp only[cond,Option.some.injEq] at h;subst h;simp
        ·simp only[cond] at h;simp only[Bool.not_true,QaK,if_false];exact ih q h hn.2
   ·cases h
  ·rename_i len e hu;split at h
   ·rename_i n hs;obtain⟨i,hi,hsi⟩:=zm hs;simp only at h;split at h<;>try(cases h;done)
    rename_i xs ys;simp only[VR] at hx hy;obtain⟨ax,rfl,hax⟩:=hx;obtain⟨ay,rfl,hay⟩:=hy
    let f:Nat->Option Bool:=λi=>(zp P e xs (Qcm i n)).bind λu=>(zp P e ys (Qcm i n)).bind λv=>(eqF P d e).run u v
    have h':((Qac 0 len).foldr (λi r=>(f i).bind λq=>cond q r (some false)) (some true))=some q:=by
     rw[<-h]
     congr 1
     funext i r
     simp only[f,Option.bind_assoc]
    have key:=UH (w:=w) (d:=D) hu hi hsi ax ay f len 0 q h' (λj b _ _ hj=>by
     simp only[f] at hj;change ((zp P e xs (j * n)).bind λu=>(zp P e ys (j * n)).bind λv=>(eqF P d e).run u v)=some b at hj;cases h1:zp P e xs (j * n) with
     |none=>simp[h1] at hj
     |some ux=>
      cases h2:zp P e ys (j * n) with
      |none=>simp[h1,h2] at hj
      |some uy=>
       simp only[h1,h2,QaT] at hj;obtain⟨px,hpx,hvx⟩:=Y2 (w:=w) hax h1;obtain⟨py,hpy,hvy⟩:=Y2 (w:=w) hay h2;exact⟨px,py,hpx,hpy,jad d e ux uy px py b hvx hvy hj D hD'⟩)
    simp only[Op.equalIn,Sem.run_bind,run_underlying hu,Result.andThen_ok,qb hi,hsi];rw[<-key];simp only[Std.Legacy.Range.forIn_eq_forIn_range',Std.Legacy.Range.size,Sem.run_bind];simp
   ·cases h
  ·cases h
end
section
variable {P:Program} {ι:Inj} {w:World} {st:St} {t:TypeId}
variable {ρ:Operand->Value} {op:Operand->OF} {env:Env} {o:Oper}
theorem qV {α:Type}{x:Option α}{f:α->ER}{res:Result Next}(h:∀ a,x=some a->Res ι w st (f a) res):Res ι w st (jR x f) res:=by
 cases x with
 |none=>trivial
 |some a=>exact h a rfl
theorem je9 {t:TypeId}{x y:Operand}(ho:o.op=.index t x y)(k:Sim ι st.h st.nx w)(hx:VR ι ((op x).run env) (ρ x))(hy:VR ι ((op y).run env) (ρ y)) :
  Res ι w st ((jy P op (.index t x y)).run env st) ((execOp ρ o).run P w):=by
 simp only[jy,vb];split<;>try trivial
 ·rename_i n e hu;split<;>try trivial
  rename_i s hs;obtain⟨i,hi,hsi⟩:=zm hs;try dsimp only
  generalize (op x).run env=vx at hx;cases vx<;>try trivial
  rename_i cs;simp only[VR] at hx;obtain⟨a,hpx,hv⟩:=hx;simp only[Qh];refine zy hy λkk j hj=>jN λhle=>qV λu hp=>?_;rw[qg] at hle;obtain⟨z,hz,hvz⟩:=Y2 (w:=w) hv hp;refine Res.val k (x:=z) ?_ hvz;have h1:(0:Int)<=Qas j/\Qas j<(n:Int):=⟨QbL j,by show(j:Int)<n;omega⟩;have hz':(part e a (j * s)).run P w=.ok z w:=hz;simp only[execOp,ho,Instr.index,hj,asIntOf,Sem.run_bind,Sem.run_pure,Result.andThen_ok,run_underlying hu,hpx];rw[if_pos h1];simp[qb hi,hsi,hz']
 ·rename_i hu;try dsimp only
  generalize (op x).run env=vx at hx;cases vx<;>try trivial
  rename_i s;simp only[VR] at hx;obtain⟨bs,hpx,hbs⟩:=hx;simp only[zM];refine zy hy λkk j hj=>jN λhle=>?_;rw[qg,jO] at hle;have hsz:=QK hbs;have hj':j<bs.size:=om
  refine Res.val k (x:=.int .u8 (bs[j]'hj').toNat) ?_ ?_
  ·simp only[execOp,ho,Sem.run_bind,hj,hpx];rw[run_index_string w t bs kk _ hu,dif_pos ⟨QbL j,by show(j:Int)<bs.size;omega⟩];simp
  ·simp only[VR,zC,<-hbs]
   congr 1
   show((bs[j]'hj').toNat:Int)=((List.map UInt8.toNat bs.data.toList).getD j 0:Nat);have:j<bs.data.toList.length:=by rw[Qak];exact hj'
   simp only[ω,Qbj,Qai this,Qaw,QaH];rfl
theorem jhz {b:UnOp}{t:TypeId}{x:Operand}(ho:o.op=.unOp b t x)(k:Sim ι st.h st.nx w)(hx:VR ι ((op x).run env) (ρ x)) :
  Res ι w st ((jy P op (.unOp b t x)).run env st) ((execOp ρ o).run P w):=by
 simp only[jy,Yn];cases b<;>simp only<;>try trivial
 all_goals
  generalize (op x).run env=vx at hx;cases vx<;>try trivial
 ·rename_i kk n;simp only[VR] at hx;refine Res.val k (x:=.int kk (kk.wrap (0 - n))) ?_ rfl;simp[execOp,ho,hx,Op.unary,Op.intArith]
 ·rename_i kk n;simp only[VR] at hx;refine qV λm hm=>?_;refine Res.val k (x:=.int kk m) ?_ rfl;simp[execOp,ho,hx,Op.unary,jhW hm]
 ·rename_i bb;simp only[VR] at hx;refine Res.val k (x:=.bool (!bb)) ?_ (by cases bb<;>rfl);simp[execOp,ho,hx,Op.unary]
def w6:Value->Bool
 |.int _ _=>false
 |.float _ _=>false
 |.complex _ _ _=>false
 |.string _=>false
 |_=>true
theorem jdu {u:Value}(hu:w6 u=true)(t:TypeId)(v:Value):(Go.binOp .eql t u v).run P w=((Op.equal t u v).run P w).andThen λb w'=>.ok (.bool b) w':=by
 cases u<;>simp only[w6] at hu<;>try(cases hu;done)
 all_goals
  simp only[binOp];simp
theorem jda {u:Value}(hu:w6 u=true)(t:TypeId)(v:Value):(Go.binOp .neq t u v).run P w=((Op.equal t u v).run P w).andThen λb w'=>.ok (.bool (!b)) w':=by
 cases u<;>simp only[w6] at hu<;>try(cases hu;done)
 all_goals
  simp only[binOp];simp
theorem jcx {b:BinOp}{t:TypeId}{x y:Operand}{u v:Value}(hg:P.eqGuardType P.depth t=false)(hn:¬ (u=.nilIface/\v=.nilIface)):(eqGuard b t x y u v).run P w=.ok () w:=by
 by_cases ha:∃ a,u=.agg a
 ·obtain⟨a,rfl⟩:=ha;by_cases hb:∃ c,v=.agg c
  ·obtain⟨c,rfl⟩:=hb;exact run_eqGuard_agg w b t x y a c hg
  ·cases b<;>cases v<;>first|(exact absurd ⟨_,rfl⟩ hb)|(simp[eqGuard])
 ·cases b<;>cases u<;>first|(exact absurd ⟨_,rfl⟩ ha)|(simp[eqGuard];done)|(cases v<;>first|(exact absurd ⟨rfl,rfl⟩ hn)|(simp[eqGuard];done))
theorem XO {b:BinOp}{t:TypeId}{x y:Operand}{u v:Value}(ha:∀ a,u≠.agg a)(hn:u≠.nilIface):(eqGuard b t x y u v).run P w=.ok () w:=by
 cases b<;>cases u<;>first|(exact absurd rfl (ha _))|(exact absurd rfl hn)|(simp[eqGuard];done)
theorem jsa (hu:∃ m,P.underlying t=some (.interface m)):(Op.equal t .nilIface .nilIface).run P w=.ok true w:=by
 obtain⟨m,hu⟩:=hu;have:∀ d,(Op.equalIn (d+1) t .nilIface .nilIface).run P w=.ok true w:=λd=>by simp[Op.equalIn,run_underlying hu]
 exact this 9999
theorem jsb (hu:∃ m,P.underlying t=some (.interface m))(a:TypeId)(v:Value):(Op.equal t .nilIface (.iface a v)).run P w=.ok false w:=by
 obtain⟨m,hu⟩:=hu;have:∀ d,(Op.equalIn (d+1) t .nilIface (.iface a v)).run P w=.ok false w:=λd=>by simp[Op.equalIn,run_underlying hu]
 exact this 9999
theorem jsc (hu:∃ m,P.underlying t=some (.interface m))(a:TypeId)(v:Value):(Op.equal t (.iface a v) .nilIface).run P w=.ok false w:=by
 obtain⟨m,hu⟩:=hu;have:∀ d,(Op.equalIn (d+1) t (.iface a v) .nilIface).run P w=.ok false w:=λd=>by simp[Op.equalIn,run_underlying hu]
 exact this 9999
def jbK:AV->Bool
 |.bool _=>true
 |.nilp=>true
 |.ptr _ _=>true
 |.nils=>true
 |.slice _ _ _ _ _ _=>true
 |.nilm=>true
 |.map _=>true
 |.nilf=>true
 |.fn _ _=>true
 |.agg _=>true
 |.lst _ _=>true
 |_=>false
theorem jhF {x:AV}{u:Value}(h:jbK x=true)(hx:VR ι x u):w6 u=true/\u≠.nilIface:=by
 cases x<;>simp only[jbK] at h<;>try(cases h;done)
 all_goals simp only[VR] at hx
 all_goals first
  |(subst hx;exact⟨rfl,by simp⟩)
  |(obtain⟨_,_,a,C,rfl,_⟩:=hx;exact⟨rfl,by simp⟩)
  |(obtain⟨p,C,rfl,_⟩:=hx;exact⟨rfl,by simp⟩)
  |(obtain⟨_,a,rfl,_⟩:=hx;exact⟨rfl,by simp⟩)
  |(obtain⟨a,rfl,_⟩:=hx;exact⟨rfl,by simp⟩)
theorem jfe {d:Nat}{t:TypeId}{x y:AV}{q:Bool}(hni:∀ m,P.underlying t≠some (.interface m))(hint:∀ k,P.underlying t≠some (.int k))(hstr:P.underlying t≠some .string)
  (h:(eqF P d t).run x y=some q):jbK x=true:=by
 cases d with
 |zero=>simp[eqF,NOQ] at h
 |succ d=>
  simp only[eqF] at h;split at h
  case h_2 hu=>exact absurd hu (hint _)
  case h_3 hu=>exact absurd hu hstr
  case h_8 hu=>exact absurd hu (hni _)
  case h_9 fields hu=>
   generalize hg : (P.stoodInHeld t || fields.toList.any λf => f.name == "_") = g at h
   cases g
   ·simp only[cond] at h;split at h<;>first|rfl|(cases h;done)
   ·cases h
  case h_10=>
   split at h
   ·simp only at h;split at h<;>first|rfl|(cases h;done)
   ·cases h
  all_goals
   first
   |(cases h;done)
   |(simp only at h;split at h<;>first|rfl|(cases h;done))
theorem jfc {b:BinOp}{t:TypeId}{x y:Operand}{s:TypeId}(ho:o.op=.binOp b t x y s)(k:Sim ι st.h st.nx w)(hx:VR ι ((op x).run env) (ρ x))(hy:VR ι ((op y).run env) (ρ y)) :
  Res ι w st ((jy P op (.binOp b t x y s)).run env st) ((execOp ρ o).run P w):=by
 have hexec:(execOp ρ o).run P w=((eqGuard b t x y (ρ x) (ρ y)).run P w).andThen λ_ w'=>((Go.binOp b t (ρ x) (ρ y)).run P w').andThen λv w'=>.ok (.value v) w':=by
  simp only[execOp,ho,Sem.run_bind];cases (eqGuard b t x y (ρ x) (ρ y)).run P w<;>simp[Result.andThen]
 rw[hexec];simp only[jy,J4];split
 ·rename_i hu;generalize hvx:(op x).run env=vx at hx;generalize hvy:(op y).run env=vy at hy;have key:∀ q,Uj (Region.isConst x ||Region.isConst y) vx vy=some q->(eqGuard b t x y (ρ x) (ρ y)).run P w=.ok () w/\w6 (ρ x)=true/\(Op.equal t (ρ x) (ρ y)).run P w=.ok q w:=by
   intro q hq;unfold Uj at hq;split at hq
   ·simp only[VR] at hx hy;generalize hc:(Region.isConst x ||Region.isConst y)=c at hq;cases c
    ·cases hq
    ·simp only[cond,Option.some.injEq] at hq;subst hq;rw[hx,hy];refine⟨?_,rfl,jsa ⟨_,hu⟩⟩;rw[QaA] at hc;cases b<;>simp[eqGuard];all_goals
      rcases hc with hc|hc
      ·cases x<;>simp[Region.isConst] at hc;simp
      ·cases y<;>simp[Region.isConst] at hc;simp
   ·simp only[VR] at hx hy;obtain⟨a,hya,_⟩:=hy;cases hq;rw[hx,hya];exact⟨by cases b<;>simp[eqGuard],rfl,jsb ⟨_,hu⟩ _ _⟩
   ·simp only[VR] at hx hy;obtain⟨a,hxa,_⟩:=hx;cases hq;rw[hy,hxa];exact⟨by cases b<;>simp[eqGuard],rfl,jsc ⟨_,hu⟩ _ _⟩
   ·cases hq
  cases b<;>simp only[hvx,hvy]<;>try trivial
  ·refine qV λq hq=>?_;obtain⟨h1,h2,h3⟩:=key q hq;exact Res.val k (x:=.bool q) (by simp[h1,jdu h2,h3]) rfl
  ·refine qV λq hq=>?_;obtain⟨h1,h2,h3⟩:=key q hq;exact Res.val k (x:=.bool (!q)) (by simp[h1,jda h2,h3]) (by cases q<;>rfl)
 ·rename_i hu;split
  ·try dsimp only
   generalize (op x).run env=vx at hx;generalize (op y).run env=vy at hy;cases vx<;>try trivial
   cases vy<;>try trivial
   rename_i kx nx ky ny;refine qV λv hv=>?_;simp only[VR] at hx hy;rw[hx,hy];obtain⟨z,h1,h2⟩:=jaN (P:=P) (w:=w) (yk:=ky) (.inl rfl) hv t;exact Res.val k (x:=z) (by rw[XO (by simp) (by simp)];simp[h1]) h2
  ·try dsimp only
   generalize (op x).run env=vx at hx;generalize (op y).run env=vy at hy;cases vx<;>try trivial
   cases vy<;>try trivial
   rename_i kx nx ky ny;refine qV λv hv=>?_;simp only[VR] at hx hy;rw[hx,hy];obtain⟨z,h1,h2⟩:=jaN (P:=P) (w:=w) (yk:=ky) (.inr rfl) hv t;exact Res.val k (x:=z) (by rw[XO (by simp) (by simp)];simp[h1]) h2
  ·rename_i b hs hs';try dsimp only
   generalize (op x).run env=vx at hx;generalize (op y).run env=vy at hy;cases vx<;>try trivial
   cases vy<;>try trivial
   refine jN λhk=>qV λv hv=>?_;have:=vn hk;subst this;simp only[VR] at hx hy;rw[hx,hy];obtain⟨z,h1,h2⟩:=jkA (P:=P) (w:=w) (λe=>hs e) (λe=>hs' e) hv t;exact Res.val k (x:=z) (by rw[XO (by simp) (by simp)];simp[h1]) h2
 ·rename_i hu;try dsimp only
  generalize (op x).run env=vx at hx;generalize (op y).run env=vy at hy;cases vx<;>try trivial
  cases vy<;>try trivial
  refine qV λv hv=>?_;simp only[VR] at hx hy;obtain⟨bx,hpx,hbx⟩:=hx;obtain⟨by',hpy,hby⟩:=hy;rw[hpx,hpy];obtain⟨z,h1,h2⟩:=jgv (P:=P) (w:=w) hbx hby hv t;exact Res.val k (x:=z) (by rw[XO (by simp) (by simp)];simp[h1]) h2
 ·rename_i hni hint hstr;generalize hg:P.eqGuardType P.depth t=g;cases g
  ·simp only[cond];generalize hvx:(op x).run env=vx at hx;generalize hvy:(op y).run env=vy at hy;have key:∀ q,(eqF P 20 t).run vx vy=some q->(eqGuard b t x y (ρ x) (ρ y)).run P w=.ok () w/\w6 (ρ x)=true/\(Op.equal t (ρ x) (ρ y)).run P w=.ok q w:=by
    intro q hq;have he:=jad (w:=w) 20 t vx vy (ρ x) (ρ y) q hx hy hq 10000 om;have hsh:=jhF (jfe (λm e=>hni m e) (λm e=>hint m e) hstr hq) hx;exact⟨jcx hg (λe=>hsh.2 e.1),hsh.1,he⟩
   cases b<;>simp only[hvx,hvy]<;>try trivial
   ·refine qV λq hq=>?_;obtain⟨h1,h2,h3⟩:=key q hq;exact Res.val k (x:=.bool q) (by simp[h1,jdu h2,h3]) rfl
   ·refine qV λq hq=>?_;obtain⟨h1,h2,h3⟩:=key q hq;exact Res.val k (x:=.bool (!q)) (by simp[h1,jda h2,h3]) (by cases q<;>rfl)
  ·trivial
end
section
variable {P:Program} {ι:Inj} {w:World} {st:St}
variable {ρ:Operand->Value} {op:Operand->OF} {env:Env} {o:Oper}
theorem jbd {ι:Inj}{cs:List AV}{vs:List Value}{o a b:Nat}(e3:o+cs.length<=vs.length)(hab:a+b<=cs.length)(e4:VRs ι.gone cs ((vs.drop o).take cs.length)) :
  (o+a)+((cs.drop a).take b).length<=vs.length/\VRs ι.gone ((cs.drop a).take b) ((vs.drop (o+a)).take ((cs.drop a).take b).length):=by
 have e7:((cs.drop a).take b).length=b:=by simp only[Qam,Qau];omega
 rw[e7];refine⟨om,?_⟩;have:=(e4.drop a).take b;rw[List.drop_take,Qbl,QbK,Qby om] at this;exact this
theorem Us {t e:TypeId}(h:elemOf P t=some e):P.underlying t=some (.slice e):=by
 unfold elemOf at h;split at h
 ·rename_i hu;cases h;exact hu
 ·cases h
theorem J5 (ι:Inj)(b B S len C sz:Nat)(cap:Nat)(ex:Bool)(hl:len<=cap)(hc:cap<=C)(he:ex=true->C=cap)(hS:ex=false->C * sz<=S) :
  VR (ι.add b B S) (.slice b 0 len cap sz ex) (.slice (some ⟨B,0,none⟩) len C):=by
 simp only[VR];refine⟨by rw[XX];simp,hl,_,C,rfl,hc,he,λB' S' e=>?_⟩;rw[XX] at e;cases e;exact⟨.inr rfl,λh=>by have:=hS h;omega⟩
theorem jfL {z:List AV}(hz:0<z.length)(i:Nat):qA z.length z .e i=z.getD (i % z.length) .bad:=by
 rw[yL,Xe];rfl
theorem jnh {z:List AV}{vs:Array Value}(h:VRs ι z vs.toList)(hc:z.all AV.cell=true)(n:Nat)(elem:TypeId)(hz:0<n->0<z.length) :
  OR ι n (.row n z.length z .e) (.cells (madeCells vs n) elem (0,0)):=by
 simp only[OR];have hl:=h.length;rw[Qak] at hl;refine⟨_,elem,0,0,rfl,size_madeCells _ _,μ _,om,λi hi=>?_⟩;have hz':=hz om;rw[jfL hz'];have hm:i % z.length<z.length:=Nat.mod_lt _ hz';refine⟨?_,vs.getD (i % z.length) undef,?_,?_⟩
 ·simp only[ω,Qai hm,QaH];exact Qae.1 hc _ (Qaf hm)
 ·have hm':i % vs.size<vs.size:=by rw[hl];exact hm
  simp only[madeCells];rw[Array.getElem?_map,Array.getElem?_range];rw[<-hl];simp[hi,hm',Array.getD,getElem!_pos]
 ·have:=h.get (i % z.length) hm;have hm':i % z.length<vs.size:=by rw[hl];exact hm
  simpa[ω,Array.getD,hm'] using this
theorem hH {t:TypeId}{x y:Operand}(ho:o.op=.makeSlice t x y)(k:Sim ι st.h st.nx w)(hx:VR ι ((op x).run env) (ρ x))(hy:VR ι ((op y).run env) (ρ y)) :
  Res ι w st ((jy P op (.makeSlice t x y)).run env st) ((execOp ρ o).run P w):=by
 simp only[jy,Z7];split<;>try trivial
 rename_i e he;have hu:=Us he;split<;>try trivial
 rename_i i z hi hz;obtain⟨i',zv,hi',hzv,hr⟩:=wy hz ι;rw[hi] at hi';cases hi';generalize hcc:cond (lall AV.cell z) (Qci (jP z) i.size) false=cc;cases cc<;>try trivial
 have hcell:z.all AV.cell=true/\z.length=i.size:=by
  cases hh:lall AV.cell z
  ·rw[hh] at hcc;cases hcc
  ·rw[hh] at hcc;simp only[cond] at hcc;rw[qH,jO] at hcc;rw[uJ] at hh;exact⟨hh,hcc⟩
 show Res ι w st (qp ((op x).run env) λl=>_) _;refine zy hx λkl l hl=>zy hy λkc c hc=>jN λh1=>jN λh2=>jN λh3=>?_;rw[qg] at h1 h2 h3;rw[jE,St.alloc_eq];have le:=Le.add (ι:=ι) k.born w.heap.size (c * i.size);refine Res.alloc k (S:=c * i.size) (x:=.cells (madeCells zv.cells (c * i.size)) e) ?_ (J5 ι _ _ _ l c i.size c true h1 (μ _) (λ_=>rfl) (λh=>by cases h)) ?_
 ·have h4:=jnh (VRs.mono le _ _ hr) hcell.1 (c * i.size) e (λh0=>by
   rw[hcell.2];rcases Nat.eq_zero_or_pos i.size with h5|h5
   ·rw[h5] at h0;simp at h0
   ·exact h5)
  rw[hcell.2] at h4;exact h4
 ·have h2':(i.bytes:Int) * (c:Int)<=281474976710656:=by
   have h4:i.bytes * c<=140737488355328:=h2;have h5:((i.bytes * c:Nat):Int)<=140737488355328:=Int.ofNat_le.2 h4;rw[Int.natCast_mul] at h5;omega
  have hrun:=run_make (P:=P) w t e i zv hu hi hzv kl kc (l:Int) (c:Int) (QbL l) (Int.ofNat_le.2 h1) h2' (Int.ofNat_le.2 h3);simp only[execOp,ho,Sem.run_bind,hl,hc];have e1:(Qas l)=(l:Int):=rfl;have e2:(Qas c)=(c:Int):=rfl;rw[e1,e2,hrun];simp
theorem yu {x:Option Operand}(hx:∀ a,x=some a->VR ι ((op a).run env) (ρ a)){d:Nat}{f:Nat->ER}{res:Result Next}
  (h:∀ n,(x=none/\n=d\/∃ a kk,x=some a/\ρ a=.int kk (Qas n))->Res ι w st (f n) res):Res ι w st (optF (x.map op) d env f) res:=by
 cases x with
 |none=>exact h d (.inl ⟨rfl,rfl⟩)
 |some a=>
  show Res ι w st (qp ((op a).run env) f) res;exact zy (hx a rfl) λkk n hn=>h n (.inr ⟨a,kk,rfl,hn⟩)
theorem zx {x:Value}{n y:Nat}{kk:IntKind}(hx:x=.int kk (Qas n))(h:n<=y)(code:BoundsCode):(Instr.sliceBound x y code).run P w=.ok n w:=by
 subst hx;have h1:(0:Int)<=Qas n/\Qas n<=(y:Int):=⟨QbL n,by show(n:Int)<=y;omega⟩;simp only[Instr.sliceBound,asIntOf,Sem.run_bind,Sem.run_pure,Result.andThen_ok];rw[if_pos h1];simp
def bnd (ρ:Operand->Value)(x:Option Operand)(d n:Nat):Prop:=x=none/\n=d\/∃ a kk,x=some a/\ρ a=.int kk (Qas n)
theorem Xp {lo hi:Option Operand}{s:Bool}{len cap l h:Nat}(hl:bnd ρ lo 0 l)(hh:bnd ρ hi len h)(h1:l<=h)(h2:h<=cap) :
  (Instr.sliceBounds s len cap (lo.map ρ) (hi.map ρ) none).run P w=.ok (l,h,cap) w:=by
 rcases hl with ⟨rfl,rfl⟩|⟨a,ka,rfl,ha⟩<;>rcases hh with ⟨rfl,rfl⟩|⟨b,kb,rfl,hb⟩
 all_goals simp only[Instr.sliceBounds,QaZ,Qaw,Sem.run_bind,Sem.run_pure,Result.andThen_ok]
 ·rw[zx hb h2];simp
 ·rw[zx ha h1];simp
 ·rw[zx hb h2];simp only[Result.andThen_ok];rw[zx ha h1];simp
theorem UB {lo hi:Option Operand}{m:Operand}{s:Bool}{len cap l h n:Nat}{km:IntKind}(hl:bnd ρ lo 0 l)(hh:∃ a kk,hi=some a/\ρ a=.int kk (Qas h))(hm:ρ m=.int km (Qas n))(h1:l<=h)(h2:h<=n)(h3:n<=cap) :
  (Instr.sliceBounds s len cap (lo.map ρ) (hi.map ρ) (some (ρ m))).run P w=.ok (l,h,n) w:=by
 obtain⟨b,kb,rfl,hb⟩:=hh;rcases hl with ⟨rfl,rfl⟩|⟨a,ka,rfl,ha⟩
 all_goals
  simp only[Instr.sliceBounds,QaZ,Qaw,Sem.run_bind,Sem.run_pure,Result.andThen_ok];rw[zx hm h3];simp only[Result.andThen_ok];rw[zx hb h2];simp only[Result.andThen_ok]
 rw[zx ha h1];simp
theorem vt {z:List AV}(h:z.all AV.cell=true){i:Nat}(hi:i<z.length):(z.getD i .bad).cell=true:=by
 simp only[ω,Qai hi,QaH];exact Qae.1 h _ (Qaf hi)
theorem WQ {bs:ByteArray}{s:List Nat}(h:bs.data.toList.map UInt8.toNat=s)(l n:Nat):(bs.extract l n).data.toList.map UInt8.toNat=(s.drop l).take (n - l):=by
 rw[<-h,ByteArray.data_extract,Array.toList_extract,List.extract_eq_take_drop,List.map_take,List.map_drop]
theorem je6 {t:TypeId}{x:Operand}{lo hi mx:Option Operand}(ho:o.op=.slice t x lo hi mx)(k:Sim ι st.h st.nx w)(hx:VR ι ((op x).run env) (ρ x))
  (hlo:∀ a,lo=some a->VR ι ((op a).run env) (ρ a)) (hhi:∀ a,hi=some a->VR ι ((op a).run env) (ρ a)) (hmx:∀ a,mx=some a->VR ι ((op a).run env) (ρ a)) :
  Res ι w st ((jy P op (.slice t x lo hi mx)).run env st) ((execOp ρ o).run P w):=by
 have hexec:(execOp ρ o).run P w=((Instr.sliceAt t (ρ x) (lo.map ρ) (hi.map ρ) (mx.map ρ)).run P w).andThen λv w'=>.ok (.value v) w':=by
  simp only[execOp,ho,Sem.run_bind];cases (Instr.sliceAt t (ρ x) (lo.map ρ) (hi.map ρ) (mx.map ρ)).run P w<;>simp[Result.andThen]
 rw[hexec];simp only[jy,QL];split<;>try trivial
 ·rename_i hu;cases mx with
  |some _=>trivial
  |none=>
   simp only[QaZ];generalize hvx:(op x).run env=vx at hx;cases vx<;>try trivial
   rename_i s;simp only[VR] at hx;obtain⟨bs,hpx,hbs⟩:=hx;simp only[zM,jE];refine yu hlo λl hl=>yu hhi λh hh=>jN λh1=>jN λh2=>?_;rw[qg] at h1 h2;rw[jO] at h2 hh;have hsz:=QK hbs;refine Res.val k (x:=.string (bs.extract l h)) ?_ ?_
   ·have hb:=Xp (P:=P) (w:=w) (s:=false) (len:=bs.size) (cap:=bs.size) hl (by rw[hsz];exact hh) h1 om;simp only[Instr.sliceAt,Instr.slice,Sem.run_bind,run_underlying hu,Result.andThen_ok,hpx];simp[hb]
   ·simp only[VR,qW,yR];exact⟨_,rfl,WQ hbs l h⟩
 ·rename_i e hu;split<;>try trivial
  rename_i sz hs;obtain⟨i,hi',hsi⟩:=zm hs;cases mx with
  |none=>
   simp only[QaZ];generalize hvx:(op x).run env=vx at hx;cases vx<;>try trivial
   rotate_right
   ·rename_i n cs;simp only[VR] at hx;obtain⟨p,C,hpx,hC,e0,hn⟩:=hx;refine yu hlo λl hl=>yu hhi λh hh=>jN λh1=>jN λh2=>jN λh3=>?_;rw[qg] at h1 h2 h3;rw[jO] at h3;have h3':h * sz<=cs.length:=h3;have hbn:=Xp (P:=P) (w:=w) (s:=true) (len:=n) (cap:=C) hl hh h1 om;refine Res.val k (x:=.slice (if C=l then p else p.map λa=>a.add (l * sz)) (h - l) (C - l)) ?_ ?_
    ·simp only[Instr.sliceAt,Instr.slice,Sem.run_bind,run_underlying hu,Result.andThen_ok,hpx];cases p with
     |none=>simp[hbn,qb hi',hsi]
     |some ad=>
      by_cases hCl:C=l
      ·subst hCl;simp[hbn,qb hi',hsi]
      ·simp[hbn,qb hi',hsi,hCl]
    ·simp only[VR,qW,yR];refine⟨_,_,rfl,by show h - l<=C - l;omega,WN (jce e0 _) _,λh0=>?_⟩;have h0':0<h - l:=h0;clear h0;obtain⟨B,o,vs,rfl,e2,e3,e4⟩:=hn (Qat h0' (ψ (Nat.sub_le _ _) (by assumption)));clear hn;have h6:l * sz+(h - l) * sz=h * sz:=by rw[<-QaD];congr 1;omega
     have h8:=jbd e3 (a:=l * sz) (b:=(h - l) * sz) om e4;exact⟨B,o+l * sz,vs,by rw[if_neg om];simp[yB],e2,h8.1,h8.2⟩
   ·rename_i b off len cap sz' ex;simp only[VR] at hx;obtain⟨hb,hlc,ad,C,hpx,hC,hex,had⟩:=hx;simp only[jE];refine yu hlo λl hl=>yu hhi λh hh=>jN λh0=>jN λh1=>jN λh2=>?_;rw[qg] at h1 h2;rw[qH] at h0;subst h0;refine Res.val k (x:=.slice (if C=l then some ad else some (ad.add (l * sz'))) (h - l) (C - l)) ?_ ?_
    ·have hbn:=Xp (P:=P) (w:=w) (s:=true) (len:=len) (cap:=C) hl hh h1 om;simp only[Instr.sliceAt,Instr.slice,Sem.run_bind,run_underlying hu,Result.andThen_ok,hpx];simp[hbn,qb hi',hsi]
    ·simp only[VR];refine⟨hb,by show h - l<=cap - l;omega,if C=l then ad else ad.add (l * sz'),C - l,?_,by show cap - l<=C - l;omega,?_,?_⟩
     ·by_cases hCl:C=l<;>simp[hCl]
     ·intro he;have:=hex he;show C - l=cap - l;omega
     ·intro B S eB;obtain⟨h3,h4⟩:=had B S eB;constructor
      ·by_cases hCl:C=l
       ·left;omega
       ·right;rcases h3 with h3|h3
        ·omega
        ·rw[if_neg hCl,h3,yB];rfl
      ·intro he;have h5:=h4 he;have h6:l+(C - l)=C:=om
       have h7:l * sz'+(C - l) * sz'=C * sz':=by rw[<-QaD,h6]
       show off+l * sz'+(C - l) * sz'<=S;omega
   ·simp only[VR] at hx;refine yu hlo λl hl=>yu hhi λh hh=>jN λh1=>jN λh2=>?_;rw[qH] at h1 h2;subst h1;subst h2;refine Res.val k (x:=.slice none 0 0) ?_ (by simp only[VR]);have hbn:=Xp (P:=P) (w:=w) (s:=true) (len:=0) (cap:=0) hl hh (μ _) (μ _);simp only[Instr.sliceAt,Instr.slice,Sem.run_bind,run_underlying hu,Result.andThen_ok,hx];simp[hbn,qb hi',hsi]
  |some m=>
   simp only[Qaw];cases hi with
   |none=>trivial
   |some hi=>
    simp only[Qaw];generalize hvx:(op x).run env=vx at hx;cases vx<;>try trivial
    rotate_left
    ·rename_i n cs;simp only[VR] at hx;obtain⟨p,C,hpx,hC,e0,hn⟩:=hx;refine yu hlo λl hl=>zy (hhi hi rfl) λkh h hh=>zy (hmx m rfl) λkm n' hm=>jN λh1=>jN λh2=>jN λh3=>jN λh4=>?_;rw[qg] at h1 h3 h4;rw[qH] at h2;subst h2;rw[jO] at h4;have h4':h * sz<=cs.length:=h4;have hbn:=UB (P:=P) (w:=w) (s:=true) (len:=n) (cap:=C) (hi:=some hi) hl ⟨hi,kh,rfl,hh⟩ hm h1 (μ _) om;simp only[Qaw] at hbn;refine Res.val k (x:=.slice (if h=l then p else p.map λa=>a.add (l * sz)) (h - l) (h - l)) ?_ ?_
     ·simp only[Instr.sliceAt,Instr.slice,Sem.run_bind,run_underlying hu,Result.andThen_ok,hpx,Qaw];cases p with
      |none=>simp[hbn,qb hi',hsi]
      |some ad=>
       by_cases hCl:h=l
       ·subst hCl;simp[hbn,qb hi',hsi]
       ·simp[hbn,qb hi',hsi,hCl]
     ·simp only[VR,qW,yR];refine⟨_,rfl,WN (jce e0 _) _,λh0=>?_⟩;have h0':0<h - l:=h0;clear h0;obtain⟨B,o,vs,rfl,e2,e3,e4⟩:=hn (Qat h0' (ψ (Nat.sub_le _ _) (by assumption)));clear hn;have h6:l * sz+(h - l) * sz=h * sz:=by rw[<-QaD];congr 1;omega
      have h8:=jbd e3 (a:=l * sz) (b:=(h - l) * sz) om e4;exact⟨B,o+l * sz,vs,by rw[if_neg om];simp[yB],e2,h8.1,h8.2⟩
    rename_i b off len cap sz' ex;simp only[VR] at hx;obtain⟨hb,hlc,ad,C,hpx,hC,hex,had⟩:=hx;simp only[jE];refine yu hlo λl hl=>zy (hhi hi rfl) λkh h hh=>zy (hmx m rfl) λkm n hm=>jN λh1=>jN λh2=>jN λh3=>?_;rw[qg] at h1 h2 h3;refine Res.val k (x:=.slice (if n=l then some ad else some (ad.add (l * sz))) (h - l) (n - l)) ?_ ?_
    ·have hbn:=UB (P:=P) (w:=w) (s:=true) (len:=len) (cap:=C) (hi:=some hi) hl ⟨hi,kh,rfl,hh⟩ hm h1 h2 om;simp only[Qaw] at hbn;simp only[Instr.sliceAt,Instr.slice,Sem.run_bind,run_underlying hu,Result.andThen_ok,hpx,Qaw];simp[hbn,qb hi',hsi]
    ·simp only[VR];refine⟨hb,by show h - l<=n - l;omega,if n=l then ad else ad.add (l * sz),n - l,?_,μ _,λ_=>rfl,?_⟩
     ·by_cases hCl:n=l<;>simp[hCl]
     ·intro B S eB;obtain⟨h5,h4⟩:=had B S eB;refine⟨?_,λhe=>by cases he⟩;by_cases hCl:n=l
      ·left;omega
      ·right;rcases h5 with h5|h5
       ·omega
       ·rw[if_neg hCl,h5,yB];rfl
 ·rename_i n e hu;split<;>try trivial
  rename_i sz hs;obtain⟨i,hi',hsi⟩:=zm hs;cases mx with
  |some _=>trivial
  |none=>
   simp only[QaZ];generalize hvx:(op x).run env=vx at hx;cases vx<;>try trivial
   rename_i b off;simp only[VR] at hx;obtain⟨hb,ad,hpx,had⟩:=hx;simp only[q7,jE];refine yu hlo λl hl=>yu hhi λh hh=>jN λh1=>jN λh2=>?_;rw[qg] at h1 h2;refine Res.val k (x:=.slice (some (if n=l then ad else ad.add (l * sz))) (h - l) (n - l)) ?_ ?_
   ·have hbn:=Xp (P:=P) (w:=w) (s:=false) (len:=n) (cap:=n) hl hh h1 h2;simp only[Instr.sliceAt,Sem.run_bind,run_underlying hu,Result.andThen_ok,hpx,Instr.sureAddr];simp[hbn,qb hi',hsi]
   ·simp only[VR];refine⟨hb,by show h - l<=n - l;omega,_,n - l,rfl,μ _,λ_=>rfl,?_⟩;intro B S eB;refine⟨?_,λhe=>by cases he⟩;by_cases hCl:n=l
    ·left;omega
    ·right;rw[if_neg hCl,had B S eB,yB];rfl
end
section
variable {P:Program} {ι:Inj} {w:World} {st:St}
variable {ρ:Operand->Value} {op:Operand->OF} {env:Env} {o:Oper}
theorem jcd (w:World)(c:Array Value)(e:TypeId)(n:Nat):(w.alloc (.cells c e)).freeze ⟨w.heap.size,n,none⟩ 1=w.alloc (.cells c e (n,n+1)):=by
 have h:(w.heap.push (.cells c e (0,0))).modify w.heap.size (fun
   |.cells c elem (lo,hi)=>.cells c elem (if lo == hi then(n,n+1) else(min lo n,max hi (n+1)))
   |o=>o)=w.heap.push (.cells c e (n,n+1)):=by
  apply Array.ext_getElem?;intro i;simp only[Array.getElem?_modify,Array.getElem?_push];by_cases hi:w.heap.size=i
  ·subst hi;simp
  ·have hi':¬ i=w.heap.size:=λe=>hi e.symm;simp[hi,hi']
 simp only[World.freeze,World.alloc];simp only[if_neg (show ¬ (1=0) by omega)]
 congr 1
theorem Hh:∀ (l:List AV) (vs:List Value) (s:List Nat),VRs ι l vs->YH l=some s->vs=s.map (λ(n:Nat)=>Value.int .u8 (n:Int))/\(∀ n∈s,n<=255)
 |[],vs,s,h,hb=>by
  simp only[YH,Option.some.injEq] at hb;simp only[VRs] at h;subst hb;subst h;simp
 |x :: l,vs,s,h,hb=>by
  unfold YH at hb;split at hb
  ·rename_i heq;cases heq
  ·rename_i n l' heq;cases heq;simp only[VRs] at h;obtain⟨v,us,rfl,h1,h2⟩:=h;generalize hq:Qck n 255=q at hb;cases q
   ·cases hb
   ·simp only[cond,QbA] at hb;obtain⟨r,hr,rfl⟩:=hb;obtain⟨h3,h4⟩:=Hh l us r h2 hr;simp only[VR] at h1;rw[qg] at hq;subst h1;refine⟨by rw[h3];rfl,λm hm=>?_⟩;rcases QaU.1 hm with e|e
    ·omega
    ·exact h4 m e
  ·cases hb
theorem KK:∀ (s:List Nat) (r:ByteArray),(∀ n∈s,n<=255)->
  ((s.map (λ(n:Nat)=>(n:Int))).foldl (λr n=>r.push (UInt8.ofNat n.toNat)) r).data.toList.map UInt8.toNat=r.data.toList.map UInt8.toNat ++ s
 |[],r,_=>by simp
 |n :: s,r,h=>by
  simp only[ζ,List.foldl_cons];rw[KK s _ (λm hm=>h m (by simp[hm]))];have hn:=h n (by simp);simp only[ByteArray.data_push,Array.toList_push,Qbd,ζ,η,Int.toNat_natCast,QaE,Qad,Qaj]
  congr 2
  simp;omega
theorem jcB (s:List Nat):VRs ι (s.map λ(n:Nat)=>AV.int .u8 (.ofNat n)) (s.map λ(n:Nat)=>Value.int .u8 (n:Int)):=VRs.map_of s λ_ _=>by simp only[VR];rfl
theorem vW {b:Nat}{n zl:Nat}{z:List AV}{cs:T AV}{B S o len:Nat}(k:Sim ι st.h st.nx w)(hb:ι b≠.unborn)(hrow:jx st.h b=some (.row n zl z cs))(e:ι b=.at B S)(hle:o+len<=n) :
  ∃ vs:List Value,(loadCells ⟨B,o,none⟩ len).run P w=.ok vs.toArray w/\VRs ι (jT zl z cs len o) vs/\vs.length=len/\(∀ j u,vs[j]? = some u->w.cell? ((⟨B,o,none⟩:Addr).add j)=some u):=by
 obtain⟨B',S',c,elem,lo,hi,e',hw,hsz,hn,_,hcell⟩:=k.row hb hrow;rw[e] at e';cases e'
 let f:Nat->Value:=λj=>c.getD (o+j) undef
 have hf:∀ j,j<len->w.cell? ((⟨B,o,none⟩:Addr).add j)=some (f j):=λj hj=>by
  rw[yB,WH hw];obtain⟨_,v,hv,_⟩:=hcell (o+j) om;simp[f,hv]
 refine⟨(Qab len).map f,run_loadCells w _ len f hf,?_,by simp,?_⟩
 ·rw[qy];refine VRs.map_of _ λj hj=>?_;have hj':j<len:=by simpa using hj
  obtain⟨_,v,hv,hr⟩:=hcell (o+j) om;show VR ι _ (c.getD (o+j) undef);simpa[hv] using hr
 ·intro j u hu;simp only[Qbj,QbA] at hu;obtain⟨a,ha,rfl⟩:=hu;have:j<len/\a=j:=by
   rw[List.getElem?_eq_some_iff] at ha;obtain⟨h1,h2⟩:=ha;simp at h1 h2;exact⟨h1,h2.symm⟩
  rw[this.2];exact hf j this.1
theorem Qr {b:Nat}{n zl:Nat}{z:List AV}{cs:T AV}{o len:Nat}(k:Sim ι st.h st.nx w)(hb:ι b≠.unborn)(hrow:jx st.h b=some (.row n zl z cs))(hle:o+len<=n) :
  (jT zl z cs len o).all AV.cell=true/\(jT zl z cs len o).length=len:=by
 obtain⟨B',S',c,elem,lo,hi,e',hw,hsz,hn,_,hcell⟩:=k.row hb hrow;rw[qy];refine⟨?_,by simp⟩;rw[Qae];intro x hx;obtain⟨j,hj,rfl⟩:=QaL.1 hx;have hj':j<len:=by simpa using hj
 exact(hcell (o+j) om).1
theorem ul (s:List Nat)(bs:ByteArray)(h:bs.data.toList.map UInt8.toNat=s):(bs.data.map λ(b:UInt8)=>Value.int .u8 b.toNat).toList=s.map λ(n:Nat)=>Value.int .u8 (n:Int):=by
 rw[<-h];simp
theorem YE (need old:Nat)(e:TypeId)(t:Nat):need<=(Question.appendCap need old e).cut t:=by simp[Question.cut]
theorem Wj {x:Option AO}{f:Nat->Nat->List AV->T AV->ER}{res:Result Next}(h:∀ n zl z cs,x=some (.row n zl z cs)->Res ι w st (f n zl z cs) res):Res ι w st (yh x f) res:=by
 cases x with
 |none=>trivial
 |some ob=>
  cases ob<;>try trivial
  exact h _ _ _ _ rfl
theorem jbH {s d:TypeId}{x:Operand}(ho:o.op=.convert s d x)(k:Sim ι st.h st.nx w)(hx:VR ι ((op x).run env) (ρ x)) :
  Res ι w st ((jy P op (.convert s d x)).run env st) ((execOp ρ o).run P w):=by
 have hexec:(execOp ρ o).run P w=((Go.convert s d (ρ x)).run P w).andThen λv w'=>.ok (.value v) w':=by
  simp only[execOp,ho,Sem.run_bind];cases (Go.convert s d (ρ x)).run P w<;>simp[Result.andThen]
 rw[hexec];simp only[jy,JJ];split<;>try trivial
 ·rename_i k1 k2 h1 h2;try dsimp only
  generalize (op x).run env=vx at hx;cases vx<;>try trivial
  rename_i kk n;simp only[VR] at hx;refine Res.val k (x:=.int k2 (k2.wrap n)) ?_ (by rw[YO];rfl);simp[Go.convert,hx,run_underlying h1,run_underlying h2,Conv.intToInt]
 ·rename_i h1 h2;try dsimp only
  generalize (op x).run env=vx at hx;cases vx<;>try trivial
  rename_i cs;simp only[VR] at hx;obtain⟨bs,hpx,hbs⟩:=hx;refine Res.val k (x:=.string bs) ?_ (by simp only[VR];exact⟨bs,rfl,hbs⟩);simp[Go.convert,hpx,run_underlying h1,run_underlying h2]
 ·rename_i e h1 h2;split<;>try trivial
  rename_i he;try dsimp only
  generalize (op x).run env=vx at hx;cases vx<;>try trivial
  ·rename_i b off len cap sz ex;simp only[VR] at hx;obtain⟨hb,hlc,ad,C,hpx,hC,hex,had⟩:=hx;refine Wj λm zl z cs hg=>jN λhle=>?_;rw[qg] at hle;obtain⟨B,S,c,elem,lo,hi,e',hw,_⟩:=k.row hb hg;obtain⟨vs,hrun,hvs,hlen,hcells⟩:=vW (P:=P) k hb hg e' hle;have main:∀ bsA,YH (jT zl z cs len off)=some bsA->∃ bs:ByteArray,bs.data.toList.map UInt8.toNat=bsA /\
     ((Go.convert s d (ρ x)).run P w).andThen (λv w'=>.ok (Next.value v) w')=.ok (.value (.string bs)) w:=by
    intro bsA hbs;obtain⟨hv1,hv2⟩:=Hh _ _ _ hvs hbs;have hrun':(loadCells ad len).run P w=.ok vs.toArray w:=by
     rcases (had B S e').1 with h0|h0
     ·have:len=0:=om
      subst this;rw[QaY hlen];simp[loadCells,loadCellsFrom]
     ·rw[h0];exact hrun
    refine⟨(bsA.map (λ(n:Nat)=>(n:Int))).foldl (λr n=>r.push (UInt8.ofNat n.toNat)) ByteArray.empty,?_,?_⟩
    ·rw[KK _ _ hv2];simp
    ·rw[hpx,run_convert_bytes_string w s d e _ _ _ h1 he h2];rw[run_bytesToString w ad len C (bsA.map (λ(n:Nat)=>(n:Int)))]
     ·simp
     ·rw[hrun',hv1];simp[QaW,QbW]
   refine Q3 (λ_=>qV λbsA hbs=>?_) (λ_=>?_)
   ·obtain⟨bs,q1,q2⟩:=main bsA hbs;exact Res.val k (x:=.string bs) q2 (by simp only[VR];exact⟨bs,rfl,q1⟩)
   ·split<;>try trivial
    refine jN λhzl=>?_;rw[qH] at hzl;subst hzl;have hz:YH (jT 1 [.int .u8 (.ofNat 0)] .e len off)=some (List.replicate len 0):=by
     rw[qy];have:∀ (l:List Nat),YH (l.map λj=>qA 1 [.int .u8 (.ofNat 0)] .e (off+j))=some (List.replicate l.length 0):=by
      intro l;induction l with
      |nil=>rfl
      |cons j l ih=>
       have h1:qA 1 [.int .u8 (.ofNat 0)] .e (off+j)=.int .u8 (.ofNat 0):=by
        rw[yL,Xe];simp[Nat.mod_one]
       rw[ζ,h1];simp only[YH,ih];rfl
     have h2:=this (Qab len);rw[List.length_range] at h2;exact h2
    obtain⟨bs,q1,q2⟩:=main _ hz;refine Res.val k (x:=.string bs) q2 ?_;simp only[VR];refine⟨bs,rfl,?_⟩;have:=congrArg List.length q1;simpa using this
  ·simp only[VR] at hx;refine Res.val k (x:=.string .empty) ?_ (by simp only[VR];exact⟨_,rfl,by simp⟩);rw[hx,run_convert_bytes_string w s d e _ _ _ h1 he h2];simp[Conv.bytesToString]
 ·rename_i e h1 h2;split<;>try trivial
  rename_i he;try dsimp only
  generalize (op x).run env=vx at hx;cases vx<;>try trivial
  rename_i cs;simp only[VR] at hx;obtain⟨bs,hpx,hbs⟩:=hx;simp only[zM,jE,jO,yE];rw[St.alloc_eq];have hsz:=QK hbs;generalize hcut:(Question.appendCap bs.size 0 e).cut (w.tape w.drawn (.appendCap bs.size 0 e))=C;have hC:bs.size<=C:=by rw[<-hcut];exact YE _ _ _ _
  refine Res.drew (λ_ _ h=>by cases h) ?_;have hsize:((bs.data.map λ(b:UInt8)=>Value.int .u8 b.toNat) ++ QaF (C - bs.size) (Value.int .u8 0)).size=C:=by
   simp;show bs.size+(C - bs.size)=C;omega
  refine Res.alloc (w:=w.drew) k.drew (S:=C) (x:=.cells ((bs.data.map λ(b:UInt8)=>Value.int .u8 b.toNat) ++ QaF (C - bs.size) (Value.int .u8 0)) e (C,C+1)) ?_
   (J5 ι _ _ _ cs.length C 1 cs.length false (μ _) om (λh=>by cases h) (λ_=>by omega)) ?_
  ·simp only[OR];refine⟨_,e,C,C+1,rfl,hsize,om,om,λi hi=>?_⟩;have e1:qA cs.length (cs.map λc=>AV.int .u8 (.ofNat c)) .e i=.int .u8 (.ofNat (cs.getD i 0)):=by
    rw[yL,Xe,Qbm hi];simp[ω,hi]
   rw[e1];refine⟨rfl,.int .u8 (cs.getD i 0:Nat),?_,by simp only[VR];rfl⟩;have hi2:i<bs.data.size:=by have:bs.data.size=bs.size:=rfl;omega
   rw[Array.getElem?_append_left (by simpa using hi2)];have:(bs.data.map λ(b:UInt8)=>Value.int .u8 b.toNat)[i]? = (cs.map λ(n:Nat)=>Value.int .u8 (n:Int))[i]?:=by
    rw[<-ul cs bs hbs];simp
   rw[this];simp[ω,hi]
  ·have hrun:(Go.convert s d (.string bs)).run P w=(Conv.stringToBytes e bs).run P w:=by
    simp[Go.convert,run_underlying h1,run_underlying h2,run_underlying he]
   rw[hpx,hrun];have hfz:=jcd w.drew ((bs.data.map λ(b:UInt8)=>Value.int .u8 b.toNat) ++ QaF (C - bs.size) (Value.int .u8 0)) e C;have hsh:(w.drew.alloc (.cells ((bs.data.map λ(b:UInt8)=>Value.int .u8 b.toNat) ++ QaF (C - bs.size) (Value.int .u8 0)) e)).shape? w.drew.heap.size=some (e,C):=by
    simp only[World.shape?,Vn];rw[hsize]
   simp only[hsz] at hcut hsh hfz;simp only[hsz,Conv.stringToBytes,Sem.run_bind,run_choose_drew,Question.forced,QaK,if_false,Result.andThen_ok,hcut,Go.newRow,markStringish,run_newObj_alloc,Sem.run_pure,run_shape,hsh,run_freeze,hfz]
end
section
variable {P:Program} {ι:Inj} {w:World} {st:St}
variable {ρ:Operand->Value} {op:Operand->OF} {env:Env} {o:Oper}
theorem VR.plainCells {x:AV}{v:Value}(hp:x.plain=true)(h:VR ι x v):VRs ι x.cells v.cells.toList:=by
 have one:v.cells = #[v]->x.cells=[x]->VRs ι x.cells v.cells.toList:=by
  intro h1 h2;rw[h1,h2];simp only[VRs];exact⟨v,[],rfl,h,rfl⟩
 cases x<;>simp only[AV.plain] at hp<;>try(cases hp;done)
 case agg cs=>
  simp only[VR] at h;obtain⟨a,rfl,hc⟩:=h;exact hc
 all_goals
  refine one ?_ rfl;simp only[VR] at h
 case bool=>subst h;rfl
 case int=>subst h;rfl
 case str=>obtain⟨bs,rfl,_⟩:=h;rfl
 case zstr=>obtain⟨bs,rfl,_⟩:=h;rfl
 case ptr=>obtain⟨_,a,rfl,_⟩:=h;rfl
 case nilp=>subst h;rfl
 case slice=>obtain⟨_,_,a,C,rfl,_⟩:=h;rfl
 case nils=>subst h;rfl
 case map=>obtain⟨_,R,rfl,_⟩:=h;rfl
 case nilm=>subst h;rfl
 case fn=>obtain⟨cv,rfl,_⟩:=h;rfl
 case nilf=>subst h;rfl
 case iface=>obtain⟨y,rfl,_⟩:=h;rfl
 case nilif=>subst h;rfl
 case lst=>obtain⟨p,C,rfl,_⟩:=h;rfl
 case xlst=>obtain⟨p,rfl,_⟩:=h;rfl
 case lptr=>obtain⟨B,o,vs,rfl,_⟩:=h;rfl
theorem jbD (off:Nat):∀ (l:List Value) (k:Nat) (cs:Array Value),off+k+l.length<=cs.size->
  ((l.zipIdx k).foldl (λ(cs:Array Value) (p:Value×Nat)=>cs.setIfInBounds (off+p.2) p.1) cs).toList=cs.toList.take (off+k) ++ (l ++ cs.toList.drop (off+k+l.length))
 |[],k,cs,h=>by simp
 |v :: l,k,cs,h=>by
  simp only[ν] at h;rw[List.zipIdx_cons,List.foldl_cons,jbD off l (k+1) _ (by simp;omega)];simp only[Array.toList_setIfInBounds];have hlt:off+k<cs.toList.length:=by rw[Qak];omega
  have e1:(cs.toList.set (off+k) v).take (off+(k+1))=cs.toList.take (off+k) ++ [v]:=by
   rw[show off+(k+1)=(off+k)+1 by omega,QbO,List.take_set_of_le om];simp only[List.getElem?_set_self hlt,Option.toList]
  have e2:(cs.toList.set (off+k) v).drop (off+(k+1)+l.length)=cs.toList.drop (off+k+(l.length+1)):=by
   rw[List.drop_set_of_lt om]
   congr 1
   omega
  rw[e1,e2];simp
def PRs (ι:Inj):List (Nat×AV)->List (Nat×Value)->Prop
 |[],l=>l=[]
 |p :: ps,l=>∃ q qs,l=q :: qs/\p.1=q.1/\VR ι p.2 q.2/\PRs ι ps qs
theorem PRs.map_of {α:Type}{f:α->Nat×AV}{g:α->Nat×Value}:∀ l:List α,(∀ x∈l,(f x).1=(g x).1/\VR ι (f x).2 (g x).2)->PRs ι (l.map f) (l.map g)
 |[],_=>by simp[PRs]
 |x :: l,h=>by
  simp only[ζ,PRs];exact⟨_,_,rfl,(h x (by simp)).1,(h x (by simp)).2,PRs.map_of l λy hy=>h y (by simp[hy])⟩
theorem Uq (place:Nat->Option (Nat×Nat)):∀ (l:List (Nat×AV)) (l':List (Nat×Value)) (cells out:List AV) (vs:Array Value),
  PRs ι l l'->VRs ι cells vs.toList->wh cells place l=some out->
  ∃ vs',Instr.fill place vs l'=some vs'/\VRs ι out vs'.toList
 |[],l',cells,out,vs,hr,hc,h=>by
  simp only[PRs] at hr;subst hr;simp only[wh,Option.some.injEq] at h;subst h;exact⟨vs,rfl,hc⟩
 |(i,v) :: l,l0,cells,out,vs,hr,hc,h=>by
  simp only[PRs] at hr;obtain⟨⟨i',x⟩,l',rfl,h0,hv,hr'⟩:=hr;simp only at h0 hv;subst h0;unfold wh at h;try simp only at h
  cases hp:place i with
  |none=>rw[hp] at h;cases h
  |some q=>
   obtain⟨off,size⟩:=q;rw[hp] at h;simp only at h;generalize h1:v.plain=q1 at h;cases q1<;>try(cases h;done)
   simp only[cond] at h;generalize h2:Qci (jP v.cells) size=q2 at h;cases q2<;>try(cases h;done)
   simp only[cond] at h;generalize h3:Qck (Qcl off size) (jP cells)=q3 at h;cases q3<;>try(cases h;done)
   simp only[cond] at h;rw[qH,jO] at h2;rw[qg,jO] at h3;have h3':off+size<=cells.length:=h3;have hvc:=VR.plainCells h1 hv;have hsz:=hvc.length;rw[Qak] at hsz;have hcl:=hc.length;rw[Qak] at hcl;simp only[yv,qW,yR] at h;have ug:=jbD off x.cells.toList 0 vs (by rw[Qak];omega);rw[Qak] at ug;have hc':VRs ι (cells.take off ++ (v.cells ++ cells.drop (off+size))) (x.cells.zipIdx.foldl (λcs (c,j)=>cs.setIfInBounds (off+j) c) vs).toList:=by
    rw[<-Array.foldl_toList,Array.toList_zipIdx];have e:(off+0+x.cells.size)=off+size:=om
    rw[e] at ug;simp only[Qbf] at ug;rw[ug];exact(hc.take off).append (hvc.append (hc.drop (off+size)))
   obtain⟨vs',h5,h6⟩:=Uq place l l' _ out _ hr' hc' h;refine⟨vs',?_,h6⟩;unfold Instr.fill;simp only[hp];rw[if_neg (by simp;omega)];exact h5
theorem W8 {ps:Array (Nat×Operand)}(hx:∀ p∈ps.toList,VR ι ((op p.2).run env) (ρ p.2)) :
  PRs ι (Yv env (ye (λp=>(p.1,op p.2)) ps.toList)) (ps.map λ(p:Nat×Operand)=>(p.1,ρ p.2)).toList:=by
 have e:Yv env (ye (λp=>(p.1,op p.2)) ps.toList)=ps.toList.map λp=>(p.1,(op p.2).run env):=by
  simp only[Yv,yE,QaW];rfl
 rw[e,Qbn];exact PRs.map_of _ λp hp=>⟨rfl,hx p hp⟩
theorem jeu {fields:Array Field}(h:∀ f∈fields.toList,∃ i,P.info? f.type=some i) :
  (fields.mapM λf=>do pure (f.offset,<-Go.sizeOf f.type):Sem (Array (Nat×Nat))).run P w=.ok (fields.map λf=>(f.offset,(P.info? f.type).elim 0 (·.size))) w:=by
 rw[Array.mapM_eq_mapM_toList];have:∀ l:List Field,(∀ f∈l,∃ i,P.info? f.type=some i)->(l.mapM λf=>do pure (f.offset,<-Go.sizeOf f.type):Sem (List (Nat×Nat))).run P w=.ok (l.map λf=>(f.offset,(P.info? f.type).elim 0 (·.size))) w:=by
  intro l;induction l with
  |nil=>intro _;simp
  |cons f l ih=>
   intro hl;obtain⟨i,hi⟩:=hl f (by simp);rw[List.mapM_cons];simp only[Sem.run_bind,qb hi,Result.andThen_ok,Sem.run_pure,ih (λg hg=>hl g (by simp[hg]))];simp[hi]
 have h2:=this fields.toList h;simp only[Sem.run_bind,Sem.run_map,h2,Result.andThen_ok];try simp
 try(apply Array.ext';simp)
theorem jfb {t:TypeId}{ps:Array (Nat×Operand)}(ho:o.op=.build t ps)(k:Sim ι st.h st.nx w)(hx:∀ p∈ps.toList,VR ι ((op p.2).run env) (ρ p.2)) :
  Res ι w st ((jy P op (.build t ps)).run env st) ((execOp ρ o).run P w):=by
 have hexec:(execOp ρ o).run P w=((Instr.build t (ps.map λ(p:Nat×Operand)=>(p.1,ρ p.2))).run P w).andThen λv w'=>.ok (.value v) w':=by
  simp only[execOp,ho,Sem.run_bind];cases (Instr.build t (ps.map λ(p:Nat×Operand)=>(p.1,ρ p.2))).run P w<;>simp[Result.andThen]
 rw[hexec];simp only[jy,VB];split<;>try trivial
 ·rename_i z fields hz hu;obtain⟨i,zv,hi,hzv,hr⟩:=wy hz ι;generalize hq:(fields.toList.all λf=>(Ev.sizeOf P f.type).isSome)=q;cases q<;>try trivial
  have hall:∀ f∈fields.toList,∃ i,P.info? f.type=some i:=λf hf=>by
   have:=Qae.1 hq f hf;cases hs:Ev.sizeOf P f.type with
   |none=>simp[hs] at this
   |some n=>obtain⟨i,hi,_⟩:=zm hs;exact⟨i,hi⟩
  show Res ι w st (jR _ _) _;refine qV λcs hcs=>?_;have hpl:(k9 P fields)=λi=>(fields.map λf=>(f.offset,(P.info? f.type).elim 0 (·.size)))[i]?:=by
   funext j
   simp only[k9,Array.getElem?_map];cases hj:fields[j]? with
   |none=>rfl
   |some f=>
    have hf:f∈fields.toList:=by rw[Qav] at hj;obtain⟨hj1,hj2⟩:=hj;rw[<-hj2];simp
    obtain⟨i',hi'⟩:=hall f hf;simp[Ev.sizeOf,hi']
  rw[hpl] at hcs;obtain⟨vs',h5,h6⟩:=Uq _ _ _ z cs zv.cells (W8 (env:=env) hx) hr hcs;refine Res.val k (x:=.agg vs') ?_ (by simp only[VR];exact⟨vs',rfl,h6⟩);simp only[Instr.build,Sem.run_bind,Jl hi hzv,Result.andThen_ok,run_underlying hu,jeu hall,h5,Sem.run_pure]
 ·rename_i z n e hz hu;obtain⟨i,zv,hi,hzv,hr⟩:=wy hz ι;split<;>try trivial
  rename_i s hs;obtain⟨i',hi',hsi⟩:=zm hs;show Res ι w st (jR _ _) _;refine qV λcs hcs=>?_;obtain⟨vs',h5,h6⟩:=Uq _ _ _ z cs zv.cells (W8 (env:=env) hx) hr hcs;refine Res.val k (x:=.agg vs') ?_ (by simp only[VR];exact⟨vs',rfl,h6⟩);have h5':Instr.fill (λi=>some (i * s,s)) zv.cells (ps.map λ(p:Nat×Operand)=>(p.1,ρ p.2)).toList=some vs':=h5;simp only[Instr.build,Sem.run_bind,Jl hi hzv,Result.andThen_ok,run_underlying hu,qb hi',hsi,h5',Sem.run_pure]
theorem W6 {z:List AV}{zs:Array Value}(h:VRs ι z zs.toList):∀ n,VRs ι (qM z n) ((Qab n).flatMap λ_=>zs.toList)
 |0=>by simp[qM,VRs]
 |n+1=>by
  show VRs ι (yS z (qM z n)) _;rw[yv,List.range_succ_eq_map,QbX];refine h.append ?_;have:=W6 h n;rw[List.flatMap_map];exact this
theorem jaV (zs:Array Value)(n:Nat):(madeCells zs (n * zs.size)).toList=(Qab n).flatMap λ_=>zs.toList:=by
 induction n with
 |zero=>simp[madeCells]
 |succ n ih=>
  rw[List.range_succ,List.flatMap_append,<-ih];simp only[madeCells,Qbn,Array.toList_range,QaD,Nat.one_mul,QbX,List.flatMap_nil,QaO];rw[List.range_add,Qbd,QaW]
  congr 1
  apply Qbh
  ·simp
  ·intro i h1 h2;simp at h1;simp only[List.getElem_map,List.getElem_range,Function.comp];have:(n * zs.size+i) % zs.size=i:=by rw[Qbo,Nat.add_mul_mod_self_right,Qbm h1]
   rw[this];simp[h1]
theorem KQ {t:TypeId}{n:Nat}{ps:Array (Nat×Operand)}(ho:o.op=.buildSlice t n ps)(k:Sim ι st.h st.nx w)(hx:∀ p∈ps.toList,VR ι ((op p.2).run env) (ρ p.2)) :
  Res ι w st ((jy P op (.buildSlice t n ps)).run env st) ((execOp ρ o).run P w):=by
 have hexec:(execOp ρ o).run P w=((Instr.buildSlice t n (ps.map λ(p:Nat×Operand)=>(p.1,ρ p.2))).run P w).andThen λv w'=>.ok (.value v) w':=by
  simp only[execOp,ho,Sem.run_bind];cases (Instr.buildSlice t n (ps.map λ(p:Nat×Operand)=>(p.1,ρ p.2))).run P w<;>simp[Result.andThen]
 rw[hexec];simp only[jy,Zs];split<;>try trivial
 rename_i e he;have hu:=Us he;split<;>try trivial
 rename_i s z hs hz;obtain⟨i,hi,hsi⟩:=zm hs;obtain⟨i',zv,hi',hzv,hr⟩:=wy hz ι;rw[hi] at hi';cases hi';generalize hq:cond (Qck (Qcm n s) 16777216) (Qci (jP z) s) false=q;cases q<;>try trivial
 have hq':n * s<=16777216/\z.length=s:=by
  cases h1:Qck (Qcm n s) 16777216
  ·rw[h1] at hq;cases hq
  ·rw[h1] at hq;simp only[cond] at hq;rw[qH,jO] at hq;rw[qg] at h1;exact⟨h1,hq⟩
 show Res ι w st (jR _ _) _;refine qV λcells hcs=>jN λhall=>?_;rw[uJ] at hall;rw[jE,jO,St.alloc_eq];have hzs:zv.cells.size=s:=by have:=hr.length;rw[Qak] at this;omega
 have hrep:VRs ι (qM z n) (madeCells zv.cells (n * s)).toList:=by
  rw[<-hzs,jaV];exact W6 hr n
 obtain⟨vs',h5,h6⟩:=Uq _ _ _ _ cells _ (W8 (env:=env) hx) hrep hcs;have h5':Instr.fill (λi=>some (i * s,s)) (madeCells zv.cells (n * s)) (ps.map λ(p:Nat×Operand)=>(p.1,ρ p.2)).toList=some vs':=h5;have le:=Le.add (ι:=ι) k.born w.heap.size vs'.toList.length;refine Res.alloc k (S:=vs'.toList.length) (x:=.cells vs' e) ?_ (J5 ι _ _ _ n n s n true (μ _) (μ _) (λ_=>rfl) (λh=>by cases h)) ?_
 ·have:=jdM (VRs.mono le _ _ h6) hall e;simpa using this
 ·simp only[Instr.buildSlice,Sem.run_bind,run_underlying hu,Result.andThen_ok,qb hi,hsi];rw[if_neg (by show ¬ n * s > 2 ^ 24;omega)];by_cases h0:n * s=0
  ·have e0:madeCells zv.cells (n * s)=(Array.range (n * s)).map ((#[]:Array Value)[· % (#[]:Array Value).size]!):=by rw[h0];simp[madeCells]
   rw[e0] at h5';simp only[if_pos h0,Sem.run_pure,Result.andThen_ok,h5',Go.newRow,Sem.run_bind,run_newObj_alloc]
  ·have e0:madeCells zv.cells (n * s)=(Array.range (n * s)).map (zv.cells[· % zv.cells.size]!):=rfl;rw[e0] at h5';simp only[if_neg h0,Sem.run_bind,Jl hi hzv,Sem.run_pure,Result.andThen_ok,h5',Go.newRow,run_newObj_alloc]
end
section
variable {P:Program} {ι:Inj} {w:World} {st:St}
variable {ρ:Operand->Value} {op:Operand->OF} {env:Env} {o:Oper}
theorem jaj {t:TypeId}{z:AV}(h:kv P t=some z)(ι:Inj):∃ i zv,P.info? t=some i/\i.zero=some zv/\VR ι z zv:=by
 unfold kv at h;cases hi:P.info? t with
 |none=>simp[hi] at h
 |some i=>
  simp only[hi,QaT] at h;cases hz:i.zero with
  |none=>simp[hz] at h
  |some zv=>
   simp only[hz,Qaw,Option.some.injEq] at h;refine⟨i,zv,rfl,hz,?_⟩;subst h;unfold ofZ;split
   ·rename_i cs;simp only[VR];refine⟨cs,rfl,?_⟩;have:=VRs.map_of (ι:=ι) (f:=ofV) (g:=id) cs.toList (λx _=>uS ι x);simpa using this
   ·exact uS ι _
def ZP (P:Program)(w:World)(kt:TypeId)(u:Value)(ens:List MapEntry)(i:Nat)(rr:Option (Nat×Value)):Prop:=
 (Instr.findAsking kt u ens i).run P w=.ok rr w/\∀ kind,P.underlying kt=some kind->Instr.findNow kind u ens i=some rr\/Instr.findNow kind u ens i=none
theorem ke (kt:TypeId)(u:Value)(i:Nat):ZP P w kt u [] i none:=⟨by simp[Instr.findAsking],λ_ _=>.inl rfl⟩
theorem jb2 {kt:TypeId}{u:Value}{e:MapEntry}{ens:List MapEntry}{i:Nat}(h:(Op.equal kt u e.key).run P w=.ok true w)
  (hn:∀ kind,P.underlying kt=some kind->Instr.sameNow kind u e.key=some true\/Instr.sameNow kind u e.key=none):ZP P w kt u (e :: ens) i (some (i,e.val)):=by
 refine⟨by simp[Instr.findAsking,h],λkind hk=>?_⟩;rcases hn kind hk with h1|h1<;>simp[Instr.findNow,h1]
theorem Hi {kt:TypeId}{u:Value}{e:MapEntry}{ens:List MapEntry}{i:Nat}{rr:Option (Nat×Value)}(h:(Op.equal kt u e.key).run P w=.ok false w)
  (hn:∀ kind,P.underlying kt=some kind->Instr.sameNow kind u e.key=some false\/Instr.sameNow kind u e.key=none) (hr:ZP P w kt u ens (i+1) rr):ZP P w kt u (e :: ens) i rr:=by
 refine⟨by simp[Instr.findAsking,h,hr.1],λkind hk=>?_⟩;rcases hn kind hk with h1|h1
 ·simp only[Instr.findNow,h1];exact hr.2 kind hk
 ·simp[Instr.findNow,h1]
theorem WK {kt:TypeId}{kind:TypeDesc}(hk:P.underlying kt=some kind){u:Value}{ens:List MapEntry}{rr:Option (Nat×Value)}(h:ZP P w kt u ens 0 rr):(Instr.findKey kt u ens).run P w=.ok rr w:=by
 simp only[Instr.findKey,Sem.run_bind,run_underlying hk,Result.andThen_ok];rcases h.2 kind hk with h1|h1
 ·simp[h1]
 ·simp[h1,h.1]
theorem VV {d:Nat}{kt:TypeId}{x y:AV}{u v:Value}{b:Bool}(hx:VR ι x u)(hy:VR ι y v)(h:(eqF P d kt).run x y=some b) :
  ∀ kind,P.underlying kt=some kind->Instr.sameNow kind u v=some b\/Instr.sameNow kind u v=none:=by
 intro kind hk;cases d with
 |zero=>simp[eqF,NOQ] at h
 |succ d=>
  cases kind;case bool=>
   simp only[eqF,hk] at h;split at h<;>try(cases h;done)
   simp only[VR] at hx hy;subst hx;subst hy;rename_i a c;simp only[Option.some.injEq] at h;left;simp only[Instr.sameNow,<-h];cases a<;>cases c<;>rfl
  case int k0=>
   simp only[eqF,hk] at h;split at h<;>try(cases h;done)
   rename_i k a k' c;generalize hkk:eqK k k'=kk at h;cases kk
   ·cases h
   ·have:=vn hkk;subst this;simp only[cond,Option.some.injEq,Xw] at h;simp only[VR] at hx hy;subst hx;subst hy;left;simp only[Instr.sameNow,if_true,<-h]
    congr 1
  case string=>
   simp only[eqF,hk] at h;split at h<;>try(cases h;done)
   simp only[VR] at hx hy;obtain⟨bx,rfl,hbx⟩:=hx;obtain⟨by',rfl,hby⟩:=hy;simp only[Option.some.injEq,JH] at h;left;simp only[Instr.sameNow,<-h]
   congr 1
   rw[beq_toListBytes,Qay,decide_eq_true_iff,beq_iff_eq,ByteArray.toList_eq,ByteArray.toList_eq,<-hbx,<-hby,JT]
  all_goals
   right;rfl
theorem WD {t:TypeId}{x y:AV}{u v:Value}{q:Bool}(hx:VR ι x u)(hy:VR ι y v)(h:(eqF P 20 t).run x y=some q):(Op.equal t u v).run P w=.ok q w:=
 jad 20 t x y u v q hx hy h 10000 om
theorem jds {kt:TypeId}{kA:AV}{u:Value}(hu:VR ι kA u):∀ (es:List (AV×AV)) (ens:List MapEntry) (i:Nat) (r:Option AV),MR ι es ens->Wy (eqF P 20 kt) kA es=some r->
  ∃ rr,ZP P w kt u ens i rr/\(r=none/\rr=none\/∃ v j x,r=some v/\rr=some (j,x)/\VR ι v x)
 |[],ens,i,r,hm,h=>by
  simp only[MR] at hm;subst hm;have:r=none:=by
   have h':some (none:Option AV)=some r:=h;cases h';rfl
  subst this;exact⟨none,ke _ _ _,.inl ⟨rfl,rfl⟩⟩
 |e :: es,ens0,i,r,hm,h=>by
  simp only[MR] at hm;obtain⟨x,ens,rfl,h1,h2,h3⟩:=hm;change (match (eqF P 20 kt).run kA e.1 with|some b=>cond b (some (some e.2)) (Wy (eqF P 20 kt) kA es)|none=>none)=some r at h;cases hq:(eqF P 20 kt).run kA e.1 with
  |none=>rw[hq] at h;cases h
  |some b=>
   rw[hq] at h;cases b
   ·obtain⟨rr,h4,h5⟩:=jds hu es ens (i+1) r h3 h;exact⟨rr,Hi (WD hu h1 hq) (VV hu h1 hq) h4,h5⟩
   ·simp only[cond,Option.some.injEq] at h;subst h;exact⟨_,jb2 (WD hu h1 hq) (VV hu h1 hq),.inr ⟨_,_,_,rfl,rfl,h2⟩⟩
theorem U9 {kt:TypeId}{kA:AV}{u:Value}(hu:VR ι kA u)(h:(ZK P kt).run kA=true)(emp:Bool)(D:Nat):(Instr.checkKey emp (D+2) kt u).run P w=.ok () w:=by
 unfold ZK at h;split at h
 ·rename_i hk;simp[Instr.checkKey,run_underlying hk]
 ·rename_i hk;simp[Instr.checkKey,run_underlying hk]
 ·rename_i hk;simp[Instr.checkKey,run_underlying hk]
 ·rename_i len e hk;split at h
  ·rename_i kk he hs;obtain⟨i,hi,hsi⟩:=zm hs;simp only at h;split at h<;>try(cases h;done)
   rename_i cs;rw[qH,jO] at h;simp only[VR] at hu;obtain⟨a,rfl,ha⟩:=hu;have hl:=ha.length;rw[Qak] at hl;have hag:Ev.isAgg P e=some false:=by simp[Ev.isAgg,he]
   have key:∀ (k s:Nat),s+k<=len->(do
    for i in Qac s k do
     Instr.checkKey emp (D+1) e (<-part e a (i * (<-Go.sizeOf e))):Sem Unit).run P w=.ok () w:=by
    intro k;induction k with
    |zero=>intro s _;simp
    |succ k ih=>
     intro s hs;obtain⟨x,hx,_⟩:=Y2 (P:=P) (w:=w) ha (t:=e) (off:=s) (u:=cs.getD s .bad) (by
      have hb:Qck (Qcj s) (jP cs)=true:=by rw[qg,jO];omega
      simp only[zp,hag,QaT,cond,hb,zC])
     have hc:(Instr.checkKey emp (D+1) e x).run P w=.ok () w:=by simp[Instr.checkKey,run_underlying he]
     have hx':(part e a (s * i.size)).run P w=.ok x w:=by rw[hsi,QaB];exact hx
     have:=ih (s+1) om;simp only[Sem.run_bind] at this;simp only[Qbc,List.forIn_cons,Sem.run_bind,qb hi,hx',hc,Result.andThen_ok,Sem.run_pure];exact this
   have:=key len 0 om;unfold Instr.checkKey;simp only[Sem.run_bind,run_underlying hk,Result.andThen_ok];rw[<-this];simp only[Std.Legacy.Range.forIn_eq_forIn_range',Std.Legacy.Range.size,Sem.run_bind,QaG,QbY,Nat.div_one]
  ·cases h
 ·cases h
theorem ZZ {r:Nat}{x:Obj}(h:w.heap[r]? = some x)(hn:∀ c e f,x≠.cells c e f):(getObj r).run P w=.ok x w:=by
 cases x<;>first|exact absurd rfl (hn _ _ _)|(simp only[getObj,Sem.run,h])
theorem Hb {x y:AV}{u v:Value}(h:uM x y=true)(hx:VR ι x u)(hy:VR ι y v):u=v/\∀ D,Instr.sameBits D v v=true:=by
 unfold uM at h;split at h
 ·split at h<;>try(cases h;done)
  rename_i a _ b;simp only[VR] at hx hy;subst hx;subst hy;have:a=b:=by cases a<;>cases b<;>first|rfl|cases h
  subst this;exact⟨rfl,λD=>by cases D<;>simp[Instr.sameBits]⟩
 ·split at h<;>try(cases h;done)
  rename_i k a _ k' b;generalize hk:eqK k k'=kk at h;cases kk
  ·cases h
  ·have:=vn hk;subst this;simp only[cond,Xw,decide_eq_true_iff] at h;subst h;simp only[VR] at hx hy;subst hx;subst hy;exact⟨rfl,λD=>by cases D<;>simp[Instr.sameBits]⟩
 ·split at h<;>try(cases h;done)
  rename_i a _ b;rw[JH,decide_eq_true_iff] at h;subst h;simp only[VR] at hx hy;obtain⟨bx,rfl,hbx⟩:=hx;obtain⟨by',rfl,hby⟩:=hy;have:bx=by':=by
   rw[<-hby] at hbx;have:=JT.1 hbx;cases bx;cases by';simp at this;rw[this]
  subst this;exact⟨rfl,λD=>by
   have hb:(bx == bx)=true:=by rw[beq_toListBytes];exact beq_self_eq_true _
   cases D<;>simpa[Instr.sameBits] using hb⟩
 ·cases h
theorem Ha:∀ (l r:List AV) (us vs:List Value),jbL l r=true->VRs ι l us->VRs ι r vs->us=vs/\∀ D,(vs.zip vs).all (λ(x,y)=>Instr.sameBits D x y)=true
 |[],r,us,vs,h,hl,hr=>by
  cases r with
  |nil=>simp only[VRs] at hl hr;subst hl;subst hr;exact⟨rfl,λ_=>rfl⟩
  |cons y r=>cases h
 |x :: l,r,us,vs,h,hl,hr=>by
  cases r with
  |nil=>cases h
  |cons y r=>
   change cond (uM x y) (jbL l r) false=true at h;generalize hq:uM x y=q at h;cases q
   ·cases h
   ·simp only[VRs] at hl hr;obtain⟨u,us',rfl,hu,hus⟩:=hl;obtain⟨v,vs',rfl,hv,hvs⟩:=hr;obtain⟨h1,h2⟩:=Hb hq hu hv;obtain⟨h3,h4⟩:=Ha l r us' vs' h hus hvs;refine⟨by rw[h1,h3],λD=>?_⟩;have:=h4 D;simp only[List.zip_cons_cons,Qaz,h2 D,Bool.true_and];exact this
theorem jkm {x y:AV}{u v:Value}(h:Ur x y=true)(hx:VR ι x u)(hy:VR ι y v):u=v/\Instr.sameBits 10000 v v=true:=by
 unfold Ur at h;split at h
 ·split at h<;>try(cases h;done)
  simp only[VR] at hx hy;obtain⟨a,rfl,ha⟩:=hx;obtain⟨b,rfl,hb⟩:=hy;obtain⟨h1,h2⟩:=Ha _ _ _ _ h ha hb;have:a=b:=Array.ext' h1;subst this;refine⟨rfl,?_⟩;have key:∀ D,Instr.sameBits (D+1) (.agg a) (.agg a)=true:=λD=>by
   have:=h2 D;simp only[Instr.sameBits,BEq.rfl,Bool.true_and];exact this
  exact key 9999
 ·obtain⟨h1,h2⟩:=Hb h hx hy;exact⟨h1,h2 10000⟩
theorem jgl {kt:TypeId}{kA vA:AV}{u x:Value}(hu:VR ι kA u)(hx:VR ι vA x)(clock:Nat):∀ (es es':List (AV×AV)) (ens:List MapEntry) (i:Nat),MR ι es ens->WW (eqF P 20 kt) kA vA es=some es'->
  (ZP P w kt u ens i none/\∀ b,MR ι es' (ens ++ [{ key:=u,val:=x,born:=b }])) \/
  (∃ j e0 old,ZP P w kt u ens i (some (i+j,old))/\ens[j]? = some e0/\e0.key=u/\Instr.sameBits 10000 u u=true/\MR ι es' (ens.modify j λe=>{ e with key:=u,val:=x }))
 |[],es',ens,i,hm,h=>by
  simp only[MR] at hm;subst hm;have h':some [(kA,vA)]=some es':=h;cases h';exact .inl ⟨ke _ _ _,λb=>by simp only[MR,Qaj];exact⟨_,[],rfl,hu,hx,rfl⟩⟩
 |e :: es,es',ens0,i,hm,h=>by
  simp only[MR] at hm;obtain⟨y,ens,rfl,h1,h2,h3⟩:=hm;change (match (eqF P 20 kt).run kA e.1 with
   |some b=>cond b (cond (Ur kA e.1) (some (Qal (kA,vA) es)) none) (match WW (eqF P 20 kt) kA vA es with|some l=>some (Qal e l)|none=>none)
   |none=>none)=some es' at h
  cases hq:(eqF P 20 kt).run kA e.1 with
  |none=>rw[hq] at h;cases h
  |some b=>
   rw[hq] at h;cases b
   ·simp only[cond] at h;cases hr:WW (eqF P 20 kt) kA vA es with
    |none=>rw[hr] at h;cases h
    |some l=>
     rw[hr] at h;simp only[Option.some.injEq] at h;subst h;have hmiss:=λrr (hb:ZP P w kt u ens (i+1) rr)=>Hi (WD hu h1 hq) (VV hu h1 hq) hb;rcases jgl hu hx clock es l ens (i+1) h3 hr with ⟨h4,h5⟩|⟨j,e0,old,h4,h5,h6,h7,h8⟩
     ·refine .inl ⟨hmiss _ h4,λb=>?_⟩;simp only[Qad,MR];exact⟨_,_,rfl,h1,h2,h5 b⟩
     ·refine .inr ⟨j+1,e0,old,?_,by simpa using h5,h6,h7,?_⟩
      ·have:=hmiss _ h4;rw[show i+1+j=i+(j+1) by omega] at this;exact this
      ·simp only[List.modify_succ_cons,MR];exact⟨_,_,rfl,h1,h2,h8⟩
   ·simp only[cond] at h;generalize hk:Ur kA e.1=kk at h;cases kk
    ·cases h
    ·simp only[Option.some.injEq] at h;subst h;obtain⟨h4,h5⟩:=jkm hk hu h1;refine .inr ⟨0,y,y.val,jb2 (WD hu h1 hq) (VV hu h1 hq),by simp,h4.symm,by rw[h4];exact h5,?_⟩;simp only[List.modify_zero_cons,MR];exact⟨_,_,rfl,hu,hx,h3⟩
theorem jcv {t:TypeId}{m x:Operand}{ok:Bool}(ho:o.op=.lookup t m x ok)(k:Sim ι st.h st.nx w)(hm:VR ι ((op m).run env) (ρ m))(hx:VR ι ((op x).run env) (ρ x)) :
  Res ι w st ((jy P op (.lookup t m x ok)).run env st) ((execOp ρ o).run P w):=by
 have hexec:(execOp ρ o).run P w=((Instr.lookup t (ρ m) (ρ x) ok).run P w).andThen λv w'=>.ok (.value v) w':=by
  simp only[execOp,ho,Sem.run_bind];cases (Instr.lookup t (ρ m) (ρ x) ok).run P w<;>simp[Result.andThen]
 rw[hexec];simp only[jy,Q9];split<;>try trivial
 rename_i kt e hu;split<;>try trivial
 rename_i zero hz;obtain⟨i,zv,hi,hzv,hzr⟩:=jaj hz ι;try dsimp only
 generalize hvx:(op m).run env=vm at hm;cases vm<;>try trivial
 ·rename_i r;simp only[VR] at hm;obtain⟨hb,R,hpm,hR⟩:=hm;refine jN λhk=>?_;cases hg:jx st.h r with
  |none=>trivial
  |some ob=>
   cases ob<;>try trivial
   rename_i es;simp only[Zh];refine qV λfr hfr=>?_;obtain⟨B,S,ens,clock,e1,hw,hmr⟩:=k.map hb hg;have hRB:=hR B S e1;subst hRB;obtain⟨rr,h4,h5⟩:=jds (P:=P) (w:=w) hx es ens.toList 0 fr hmr hfr;cases hkd:P.underlying kt with
   |none=>
    simp[ZK,hkd] at hk
   |some kind=>
    have hrun:=WK hkd h4;have hchk:=U9 (P:=P) (w:=w) hx hk ens.isEmpty 9998;have jx:=ZZ (P:=P) hw (λ_ _ _ h=>by cases h);rcases h5 with ⟨rfl,rfl⟩|⟨v,j,y,rfl,rfl,hv⟩
    ·refine Res.val k (x:=if ok then .tuple #[zv,.bool false] else zv) ?_ ?_
     ·simp only[Instr.lookup,Sem.run_bind,run_underlying hu,Result.andThen_ok,hpm,jx,Sem.run_pure,hchk,hrun,Jl hi hzv]
     ·cases ok
      ·exact hzr
      ·simp only[cond,VR,if_true];exact⟨_,rfl,by simp[VRs,VR];exact hzr⟩
    ·refine Res.val k (x:=if ok then .tuple #[y,.bool true] else y) ?_ ?_
     ·simp only[Instr.lookup,Sem.run_bind,run_underlying hu,Result.andThen_ok,hpm,jx,Sem.run_pure,hchk,hrun]
     ·cases ok
      ·exact hv
      ·simp only[cond,VR,if_true];exact⟨_,rfl,by simp[VRs,VR];exact hv⟩
 ·simp only[VR] at hm;refine jN λhk=>?_;cases hkd:P.underlying kt with
  |none=>simp[ZK,hkd] at hk
  |some kind=>
   have hrun:=WK (P:=P) (w:=w) hkd (ke kt (ρ x) 0);have hchk:=U9 (P:=P) (w:=w) hx hk true 9998;refine Res.val k (x:=if ok then .tuple #[zv,.bool false] else zv) ?_ ?_
   ·have he:(#[]:Array MapEntry).isEmpty=true:=rfl;simp only[Instr.lookup,Sem.run_bind,run_underlying hu,Result.andThen_ok,hm,Sem.run_pure,he,hchk,hrun,Jl hi hzv]
   ·cases ok
    ·exact hzr
    ·simp only[cond,VR,if_true];exact⟨_,rfl,by simp[VRs,VR];exact hzr⟩
theorem gZ {t:TypeId}{m x y:Operand}(ho:o.op=.mapUpdate t m x y)(k:Sim ι st.h st.nx w)(hm:VR ι ((op m).run env) (ρ m))(hx:VR ι ((op x).run env) (ρ x))(hy:VR ι ((op y).run env) (ρ y)) :
  Res ι w st ((jy P op (.mapUpdate t m x y)).run env st) ((execOp ρ o).run P w):=by
 have hexec:(execOp ρ o).run P w=((Instr.mapUpdate t (ρ m) (ρ x) (ρ y)).run P w).andThen λv w'=>.ok .skip w':=by
  simp only[execOp,ho,Sem.run_bind];cases (Instr.mapUpdate t (ρ m) (ρ x) (ρ y)).run P w<;>simp[Result.andThen]
 rw[hexec];simp only[jy,Jb];split<;>try trivial
 rename_i kt e hu;try dsimp only
 generalize hvx:(op m).run env=vm at hm;cases vm<;>try trivial
 rename_i r;simp only[VR] at hm;obtain⟨hb,R,hpm,hR⟩:=hm;refine jN λhk=>?_;cases hg:jx st.h r with
 |none=>trivial
 |some ob=>
  cases ob<;>try trivial
  rename_i es;simp only[Zh];refine qV λes' hes=>?_;rw[St.put_eq];obtain⟨B,S,ens,clock,e1,hw,hmr⟩:=k.map hb hg;have hRB:=hR B S e1;subst hRB;cases hkd:P.underlying kt with
  |none=>simp[ZK,hkd] at hk
  |some kind=>
   have hchk:=U9 (P:=P) (w:=w) hx hk false 9998;have jx:=ZZ (P:=P) hw (λ_ _ _ h=>by cases h);have ug:∀ ob,(setObj R ob).run P w=.ok () { w with heap:=w.heap.setIfInBounds R ob }:=λob=>by
    simp only[setObj,Sem.run,hw]
   have hfin:∀ ens' clock',MR ι es' ens'.toList->Sim ι ((j1 (jK r)).run (.map es') st.h) st.nx { w with heap:=w.heap.setIfInBounds R (.map ens' clock') }/\Grew ι w ι { w with heap:=w.heap.setIfInBounds R (.map ens' clock') }:=λens' clock' hm'=>by
    have hlt:=k.lt e1;refine k.write e1 (.map es') (.map ens' clock') (by simp only[OR];exact⟨ens',clock',rfl,hm'⟩) ?_ ?_ rfl rfl rfl ?_
    ·simp[hlt]
    ·intro j hj;simp[Qch (λe=>hj e.symm)]
    ·simp
   rcases jgl (P:=P) (w:=w) hx hy clock es es' ens.toList 0 hmr hes with ⟨h4,h5⟩|⟨j,e0,old,h4,h5,h6,h7,h8⟩
   ·obtain⟨h9,h10⟩:=hfin (ens.push { key:=ρ x,val:=ρ y,born:=clock }) (clock+1) (by simpa using h5 clock);refine⟨ι,undef,_,.inr ⟨?_,rfl⟩,Le.refl ι,?_,h9,h10,Cleanly.put ι st r _ (k.born r hb),rfl⟩
    ·have hrun:=WK hkd h4;simp only[Instr.mapUpdate,Sem.run_bind,run_underlying hu,Result.andThen_ok,hpm,jx,hchk,hrun,ug]
    ·show VR ι qd undef;simp only[qd,undef,VR];exact⟨#[],rfl,by simp[VRs]⟩
   ·obtain⟨h9,h10⟩:=hfin (ens.modify j λe=>{ e with key:=ρ x,val:=ρ y }) clock (by simpa using h8);refine⟨ι,undef,_,.inr ⟨?_,rfl⟩,Le.refl ι,?_,h9,h10,Cleanly.put ι st r _ (k.born r hb),rfl⟩
    ·have hrun:=WK hkd h4;have hkey:((ens[0+j]?).map (·.key)).getD (ρ x)=ρ x:=by
      rw[Qag];have:ens[j]? = some e0:=by simpa using h5
      simp[this,h6]
     simp only[Instr.mapUpdate,Sem.run_bind,run_underlying hu,Result.andThen_ok,hpm,jx,hchk,hrun,hkey,Instr.keyThatStays,h7,if_true,Sem.run_pure,ug];simp
    ·show VR ι qd undef;simp only[qd,undef,VR];exact⟨#[],rfl,by simp[VRs]⟩
end
section
variable {P:Program} {ι:Inj} {w:World} {st:St}
variable {ρ:Operand->Value} {op:Operand->OF} {env:Env} {o:Oper}
theorem je7 {t:TypeId}{x:Operand}(ho:o.op=.range t x)(k:Sim ι st.h st.nx w)(hx:VR ι ((op x).run env) (ρ x)) :
  Res ι w st ((jy P op (.range t x)).run env st) ((execOp ρ o).run P w):=by
 simp only[jy];split<;>try trivial
 rename_i hu;try dsimp only
 generalize (op x).run env=vx at hx;cases vx<;>try trivial
 rename_i s;simp only[VR] at hx;obtain⟨bs,hpx,hbs⟩:=hx;simp only[zM];rw[St.alloc_eq];refine Res.alloc k (S:=0) (x:=.stringIter bs 0) (y:=.pointer (some ⟨w.heap.size,0,none⟩)) (by simp only[OR];exact⟨bs,rfl,hbs⟩) (gf _ _ _ _) ?_;simp[execOp,ho,Instr.range,run_underlying hu,hpx]
theorem Sim.iter {nx:Nat}{h:T AO}(k:Sim ι h nx w){b pos:Nat}{s:List Nat}(hb:ι b≠.unborn)(e:jx h b=some (.iter s pos)) :
  ∃ B S bs,ι b=.at B S/\w.heap[B]? = some (.stringIter bs pos)/\bs.data.toList.map UInt8.toNat=s:=by
 cases hι:ι b with
 |unborn=>exact absurd hι hb
 |dead=>have:=k.gone b hι _ e;cases this
 |«at» B S=>
  obtain⟨o,x,ho,hx,hr⟩:=k.obj b B S hι;rw[e] at ho;cases ho;simp only[OR] at hr;obtain⟨bs,rfl,hm⟩:=hr;exact⟨B,S,bs,rfl,hx,hm⟩
theorem jes {r:Nat}{x y:Obj}(h:w.heap[r]? = some x)(hn:∀ c e f,x≠.cells c e f):(setObj r y).run P w=.ok () { w with heap:=w.heap.setIfInBounds r y }:=by
 cases x<;>first|exact absurd rfl (hn _ _ _)|(simp only[setObj,Sem.run,h])
theorem Sim.set {nx:Nat}{h:T AO}(k:Sim ι h nx w){b B S:Nat}(e:ι b=.at B S)(o:AO)(x:Obj)(hx:OR ι S o x) :
  Sim ι ((j1 (jK b)).run o h) nx { w with heap:=w.heap.setIfInBounds B x }/\Grew ι w ι { w with heap:=w.heap.setIfInBounds B x }:=by
 have hlt:=k.lt e;refine k.write e o x hx ?_ ?_ rfl rfl rfl ?_
 ·simp[hlt]
 ·intro j hj;simp[Qch (λe=>hj e.symm)]
 ·simp
theorem jhB {it:Operand}(ho:o.op=.next it true)(k:Sim ι st.h st.nx w)(hx:VR ι ((op it).run env) (ρ it)) :
  Res ι w st ((jy P op (.next it true)).run env st) ((execOp ρ o).run P w):=by
 simp only[jy,V6];generalize (op it).run env=vx at hx;cases vx<;>try trivial
 rename_i b off;simp only[VR] at hx;obtain⟨hb,ad,hpx,had⟩:=hx;simp only[q7];refine jN λh0=>?_;rw[qH] at h0;subst h0;split<;>try trivial
 rename_i s pos hg;obtain⟨B,S,bs,e,hw,hbs⟩:=k.iter hb hg;rw[had B S e] at hpx;have hsz:=QK hbs;have jx:=ZZ (P:=P) hw (λ_ _ _ h=>by cases h);refine Q3 (λh1=>?_) (λh1=>?_)
 ·rw[qg,jO] at h1;refine Res.val k (x:=.tuple #[.bool false]) ?_ ?_
  ·simp[execOp,ho,hpx,Instr.next,jx,show ¬ pos<bs.size by omega]
  ·simp only[VR];exact⟨_,rfl,by simp[VRs,VR]⟩
 ·have h1':pos<s.length:=by
   have:¬ Qck (jP s) pos=true:=by rw[h1];simp
   rw[qg,jO] at this;omega
  rw[jE,zC];refine jN λh2=>?_;rw[qg] at h2;rw[St.put_eq];have hp:pos<bs.size:=om
  have hc:s.getD pos 0=(bs[pos]'hp).toNat:=by
   rw[<-hbs];have:pos<bs.data.toList.length:=by rw[Qak];exact hp
   simp only[ω,Qbj,Qai this,Qaw,QaH];rfl
  have hdec:=decode_ascii bs pos hp om;obtain⟨h3,h4⟩:=k.set e (.iter s (pos+1)) (.stringIter bs (pos+1)) (by simp only[OR];exact⟨bs,rfl,hbs⟩);refine⟨ι,.tuple #[.bool true,.int .i64 pos,.int .i32 (bs[pos]'hp).toNat],_,.inl ?_,Le.refl ι,?_,h3,h4,Cleanly.put ι st b _ (k.born b hb),rfl⟩
  ·simp[execOp,ho,hpx,Instr.next,jx,hp,hdec,jes hw (λ_ _ _ h=>by cases h),goInt]
  ·simp only[VR];refine⟨_,rfl,?_⟩;rw[hc];simp[VRs,VR]
theorem je8 {x:Operand}(ho:o.op=.panic x)(k:Sim ι st.h st.nx w)(hx:VR ι ((op x).run env) (ρ x)) :
  Res ι w st ((jy P op (.panic x)).run env st) ((execOp ρ o).run P w):=by
 simp only[jy];try dsimp only
 generalize (op x).run env=vx at hx;cases vx<;>try trivial
 rename_i t v;refine⟨rfl,ρ x,?_,hx⟩;simp only[VR] at hx;obtain⟨y,hy,_⟩:=hx;simp[execOp,ho,hy,Instr.panic,goPanic]
theorem KP {x:Operand}{s t:TypeId}(ho:o.op=.typeAssert x s t true)(k:Sim ι st.h st.nx w)(hx:VR ι ((op x).run env) (ρ x)) :
  Res ι w st ((jy P op (.typeAssert x s t true)).run env st) ((execOp ρ o).run P w):=by
 simp only[jy,Yg];split<;>try trivial
 rename_i z hz;obtain⟨i,zv,hi,hzv,hzr⟩:=jaj hz ι;split<;>try trivial
 ·rename_i want hu;try dsimp only
  generalize (op x).run env=vx at hx;cases vx<;>try trivial
  ·rename_i tt v;refine qV λb hb=>?_;unfold jlF at hb;rw[QbA] at hb;obtain⟨it,hit,hb⟩:=hb;have hx':=hx;simp only[VR] at hx;obtain⟨y,hy,_⟩:=hx;refine Q3 (λh=>?_) (λh=>?_)
   ·subst h;cases hm:Instr.missingMethod want it.methods with
    |none=>simp[hm] at hb
    |some m=>
     refine Res.val k (x:=.tuple #[zv,.bool false]) ?_ ?_
     ·simp[execOp,ho,hy,Instr.typeAssert,run_underlying hu,Yu hit,hm,Jl hi hzv]
     ·simp only[VR];exact⟨_,rfl,by simp[VRs,VR];exact hzr⟩
   ·subst h;cases hm:Instr.missingMethod want it.methods with
    |some m=>simp[hm] at hb
    |none=>
     refine Res.val k (x:=.tuple #[.iface tt y,.bool true]) ?_ ?_
     ·simp[execOp,ho,hy,Instr.typeAssert,run_underlying hu,Yu hit,hm]
     ·rw[hy] at hx';simp only[VR] at hx';obtain⟨y',e,hy'⟩:=hx';cases e;simp only[VR];refine⟨_,rfl,?_⟩;simp only[VRs,VR];exact⟨_,_,rfl,⟨_,rfl,hy'⟩,_,_,rfl,rfl,rfl⟩
  ·simp only[VR] at hx;refine Res.val k (x:=.tuple #[zv,.bool false]) ?_ ?_
   ·simp[execOp,ho,hx,Instr.typeAssert,run_underlying hu,Jl hi hzv]
   ·simp only[VR];exact⟨_,rfl,by simp[VRs,VR];exact hzr⟩
 ·rename_i d hni hu;try dsimp only
  generalize (op x).run env=vx at hx;cases vx<;>try trivial
  ·rename_i tt v;simp only[VR] at hx;obtain⟨y,hy,hv⟩:=hx;refine Q3 (λh=>?_) (λh=>?_)
   ·rw[qH] at h;subst h;refine Res.val k (x:=.tuple #[y,.bool true]) ?_ ?_
    ·cases d<;>first|(exact absurd rfl (hni _))|(simp[execOp,ho,hy,Instr.typeAssert,run_underlying hu])
    ·simp only[VR];exact⟨_,rfl,by simp[VRs,VR];exact hv⟩
   ·have h':¬ tt=t:=λe=>by rw[<-qH,h] at e;cases e
    refine Res.val k (x:=.tuple #[zv,.bool false]) ?_ ?_
    ·cases d<;>first|(exact absurd rfl (hni _))|(simp[execOp,ho,hy,Instr.typeAssert,run_underlying hu,h',Jl hi hzv])
    ·simp only[VR];exact⟨_,rfl,by simp[VRs,VR];exact hzr⟩
  ·simp only[VR] at hx;refine Res.val k (x:=.tuple #[zv,.bool false]) ?_ ?_
   ·cases d<;>first|(exact absurd rfl (hni _))|(simp[execOp,ho,hx,Instr.typeAssert,run_underlying hu,Jl hi hzv])
   ·simp only[VR];exact⟨_,rfl,by simp[VRs,VR];exact hzr⟩
end
section
variable {P:Program} {ι:Inj} {w:World} {st:St}
variable {ρ:Operand->Value} {op:Operand->OF} {env:Env} {o:Oper}
theorem MR.length {ι:Inj}:∀ {es:List (AV×AV)} {l:List MapEntry},MR ι es l->l.length=es.length
 |[],l,h=>by simp only[MR] at h;simp[h]
 |e :: es,l,h=>by
  simp only[MR] at h;obtain⟨x,xs,rfl,_,_,h3⟩:=h;simp[MR.length h3]
theorem jbZ {c:Call}(ho:o.op=.call c){b:Builtin}(hc:c.callee=.builtin b) :
  (execOp ρ o).run P w=(builtin b c.argTypes o.type (c.args.map λ| .const _=>true|_=>false) (c.args.map ρ)).run P w:=by
 simp only[execOp,ho,resolve,hc,invoke,Sem.run_bind,Sem.run_pure,Result.andThen_ok];try rfl
theorem jjY {x:Option AO}{f:List (AV×AV)->ER}{res:Result Next}(h:∀ es,x=some (.map es)->Res ι w st (f es) res):Res ι w st (Zh x f) res:=by
 cases x with
 |none=>trivial
 |some ob=>
  cases ob<;>try trivial
  exact h _ rfl
theorem jpC {t:TypeId}{x:Operand}{l:List TypeId}{ty:TypeId}(k:Sim ι st.h st.nx w)(hx:VR ι ((op x).run env) (ρ x)) :
  Res ι w st ((ZI P t (op x)).run env st) (((Builtin.len_ (t :: l).toArray ty #[ρ x]).run P w).andThen λv w'=>.ok (.value v) w'):=by
 unfold ZI;split<;>try trivial
 ·rename_i hu;try dsimp only
  generalize (op x).run env=vx at hx;cases vx<;>try trivial
  ·rename_i s;simp only[VR] at hx;obtain⟨bs,hpx,hbs⟩:=hx;simp only[jE,jO];refine Res.val k (x:=.int .i64 s.length) ?_ (by simp only[VR];rfl);simp[Builtin.len_,run_underlying hu,hpx,goInt,QK hbs]
  ·rename_i n;simp only[VR] at hx;obtain⟨bs,hpx,hbs⟩:=hx;refine Res.val k (x:=.int .i64 n) ?_ (by simp only[VR];rfl);simp[Builtin.len_,run_underlying hu,hpx,goInt,hbs]
 ·rename_i n e hu;refine Res.val k (x:=.int .i64 n) ?_ (by simp only[VR];rfl);simp[Builtin.len_,run_underlying hu,goInt]
 ·rename_i e hu;try dsimp only
  generalize (op x).run env=vx at hx;cases vx<;>try trivial
  ·rename_i b off len cap sz ex;simp only[VR] at hx;obtain⟨hb,hlc,ad,C,hpx,hC,hex,had⟩:=hx;refine Res.val k (x:=.int .i64 len) ?_ (by simp only[VR];rfl);simp[Builtin.len_,run_underlying hu,hpx,goInt]
  ·simp only[VR] at hx;refine Res.val k (x:=.int .i64 (0:Nat)) ?_ (by simp only[VR];rfl);simp[Builtin.len_,run_underlying hu,hx,goInt]
  ·rename_i n cs;simp only[VR] at hx;obtain⟨p,C,hpx,hC,_⟩:=hx;refine Res.val k (x:=.int .i64 n) ?_ (by simp only[VR];rfl);simp[Builtin.len_,run_underlying hu,hpx,goInt]
 ·rename_i kt e hu;try dsimp only
  generalize (op x).run env=vx at hx;cases vx<;>try trivial
  ·rename_i r;simp only[VR] at hx;obtain⟨hb,R,hpx,hR⟩:=hx;refine jjY λes hg=>?_
   ·simp only[jE,jO];obtain⟨B,S,ens,clock,e1,hw,hmr⟩:=k.map hb hg;have hRB:=hR B S e1;subst hRB;refine Res.val k (x:=.int .i64 es.length) ?_ (by simp only[VR];rfl);have hlen:=hmr.length;rw[Qak] at hlen;simp[Builtin.len_,run_underlying hu,hpx,goInt,ZZ hw (λ_ _ _ h=>by cases h),hlen]
  ·simp only[VR] at hx;refine Res.val k (x:=.int .i64 (0:Nat)) ?_ (by simp only[VR];rfl);simp[Builtin.len_,run_underlying hu,hx,goInt]
theorem jqq {t:TypeId}{x:Operand}{l:List TypeId}{ty:TypeId}(k:Sim ι st.h st.nx w)(hx:VR ι ((op x).run env) (ρ x)) :
  Res ι w st ((Vz P t (op x)).run env st) (((Builtin.cap_ (t :: l).toArray ty #[ρ x]).run P w).andThen λv w'=>.ok (.value v) w'):=by
 unfold Vz;split<;>try trivial
 rename_i e hu;try dsimp only
 generalize (op x).run env=vx at hx;cases vx<;>try trivial
 ·rename_i b off len cap sz ex;cases ex<;>try trivial
  simp only[VR] at hx;obtain⟨hb,hlc,ad,C,hpx,hC,hex,had⟩:=hx;have:=hex (by simp);subst this;refine Res.val k (x:=.int .i64 C) ?_ (by simp only[VR];rfl);simp[Builtin.cap_,run_underlying hu,hpx,goInt]
 ·simp only[VR] at hx;refine Res.val k (x:=.int .i64 (0:Nat)) ?_ (by simp only[VR];rfl);simp[Builtin.cap_,run_underlying hu,hx,goInt]
theorem jmF {x y z:AV}{u v:Value}(hx:VR ι x u)(hy:VR ι y v)(h:Ev.min2 x y=some z):∃ r,(Builtin.min2 u v).run P w=.ok r w/\VR ι z r:=by
 unfold Ev.min2 at h;split at h<;>try(cases h;done)
 rename_i k a k' b;generalize hk:eqK k k'=kk at h;cases kk
 ·cases h
 ·have:=vn hk;subst this;simp only[cond,Option.some.injEq,Xu] at h;simp only[VR] at hx hy;subst hx;subst hy;subst h;refine⟨.int k (if b<a then b else a),by simp[Builtin.min2],?_⟩;simp only[VR];by_cases hb:b<a<;>simp[hb]
theorem jmI {x y z:AV}{u v:Value}(hx:VR ι x u)(hy:VR ι y v)(h:Ev.max2 x y=some z):∃ r,(Builtin.max2 u v).run P w=.ok r w/\VR ι z r:=by
 unfold Ev.max2 at h;split at h<;>try(cases h;done)
 rename_i k a k' b;generalize hk:eqK k k'=kk at h;cases kk
 ·cases h
 ·have:=vn hk;subst this;simp only[cond,Option.some.injEq,Xu] at h;simp only[VR] at hx hy;subst hx;subst hy;subst h;refine⟨.int k (if b > a then b else a),by simp[Builtin.max2],?_⟩;simp only[VR];by_cases hb:a<b<;>simp[hb]
theorem gX {f:AV->AV->Option AV}{g:Value->Value->Sem Value}(hfg:∀ x y z u v,VR ι x u->VR ι y v->f x y=some z->∃ r,(g u v).run P w=.ok r w/\VR ι z r) :
  ∀ (l:List AV) (l':List Value) (x z:AV) (u:Value),VR ι x u->VRs ι l l'->QH f x l=some z->∃ r,(l'.foldlM g u).run P w=.ok r w/\VR ι z r
 |[],l',x,z,u,hx,hl,h=>by
  simp only[VRs] at hl;subst hl;simp only[QH,Option.some.injEq] at h;subst h;exact⟨u,by simp,hx⟩
 |y :: l,l0,x,z,u,hx,hl,h=>by
  simp only[VRs] at hl;obtain⟨v,l',rfl,hy,hl'⟩:=hl;simp only[QH] at h;cases hf:f x y with
  |none=>simp[hf] at h
  |some q=>
   simp only[hf,QaT] at h;obtain⟨r,h1,h2⟩:=hfg x y q u v hx hy hf;obtain⟨r',h3,h4⟩:=gX hfg l l' q z r h2 hl' h;exact⟨r',by simp[List.foldlM_cons,h1,h3],h4⟩
theorem UV {v:AV}{x:Value}(hv:VR ι v x){f:Nat->ER}{res:Result Next}(h:∀ n,(∀ w',(Builtin.lenOf x).run P w'=.ok n w')->Res ι w st (f n) res):Res ι w st (JN v f) res:=by
 unfold JN;split<;>try trivial
 ·simp only[VR] at hv;obtain⟨hb,hlc,ad,C,rfl,hC,hex,had⟩:=hv;exact h _ λw'=>by simp[Builtin.lenOf]
 ·simp only[VR] at hv;subst hv;exact h _ λw'=>by simp[Builtin.lenOf]
 ·simp only[VR] at hv;obtain⟨p,C,rfl,_⟩:=hv;exact h _ λw'=>by simp[Builtin.lenOf]
 ·simp only[VR] at hv;obtain⟨bs,rfl,hbs⟩:=hv;rw[jE,jO];exact h _ λw'=>by simp[Builtin.lenOf,QK hbs]
theorem ZN (k:Sim ι st.h st.nx w){v:AV}{x:Value}(hv:VR ι v x){size n:Nat}{f:List AV->ER}{res:Result Next}(hn:∃ m,(Builtin.lenOf x).run P w=.ok m w/\n<=m)
  (h:∀ cells (vs:Array Value),(Builtin.firstCells size n x).run P w=.ok vs w->(Builtin.firstCells size n x).run P w.drew=.ok vs w.drew->VRs ι cells vs.toList->cells.all AV.cell=true->(n=0->vs = #[])->Res ι w st (f cells) res) :
  Res ι w st (Ev.firstCells st size n v f) res:=by
 obtain⟨m0,hm0,hnm⟩:=hn;unfold Ev.firstCells;split<;>try trivial
 ·rename_i b off len cap sz ex;simp only[VR] at hv;obtain⟨hb,hlc,ad,C,rfl,hC,hex,had⟩:=hv;refine Wj λm zl z cs hg=>?_;rw[jE];refine jN λhle=>?_;rw[qg] at hle;obtain⟨B,S,c,elem,lo,hi,e',hw,_⟩:=k.row hb hg;obtain⟨vs,hrun,hvs,hlen,hcells⟩:=vW (P:=P) k hb hg e' hle;obtain⟨vs2,hrun2,hvs2,hlen2,hcells2⟩:=vW (P:=P) (w:=w.drew) k.drew hb hg e' hle;have e12:vs2=vs:=by
   apply List.ext_getElem?;intro j;cases h1:vs[j]? with
   |none=>
    rw[List.getElem?_eq_none_iff] at h1 ⊢;omega
   |some u=>
    have hj:j<vs2.length:=by rw[List.getElem?_eq_some_iff] at h1;obtain⟨h2,_⟩:=h1;omega
    have h3:=hcells2 j _ (Qai hj);have h4:=hcells j u h1;have h5:w.drew.cell? ((⟨B,off,none⟩:Addr).add j)=w.cell? ((⟨B,off,none⟩:Addr).add j):=rfl;rw[h5,h4] at h3;rw[Qai hj];exact h3.symm
  subst e12;have hall:=(Qr k hb hg hle).1;have hadr:(loadCells ad (Qcm n size)).run P w=.ok vs2.toArray w/\(loadCells ad (Qcm n size)).run P w.drew=.ok vs2.toArray w.drew:=by
   rcases (had B S e').1 with h0|h0
   ·have hn0:n=0:=by
     simp only[Builtin.lenOf,Sem.run_pure,Result.ok.injEq] at hm0;omega
    subst hn0;have:Qcm 0 size=0:=QaP size;rw[this] at hlen ⊢;rw[QaY hlen];constructor<;>simp[loadCells,loadCellsFrom]
   ·rw[h0];exact⟨hrun,hrun2⟩
  exact h _ vs2.toArray (by simpa[Builtin.firstCells] using hadr.1) (by simpa[Builtin.firstCells] using hadr.2) hvs hall (λh0=>by subst h0;have:Qcm 0 size=0:=QaP size;rw[this] at hlen;rw[QaY hlen])
 ·simp only[VR] at hv;subst hv;exact h [] #[] (by simp[Builtin.firstCells]) (by simp[Builtin.firstCells]) (by simp[VRs]) rfl (λ_=>rfl)
 ·rename_i len cs;simp only[VR] at hv;obtain⟨p,C,rfl,hC,e0,hl⟩:=hv;refine jN λhle=>?_;rw[qg,jO] at hle;have hle':n * size<=cs.length:=hle;rw[qW];simp only[Builtin.lenOf,Sem.run_pure,Result.ok.injEq] at hm0;rcases Nat.eq_zero_or_pos n with h0|h0
  ·subst h0;have h1:Qcm 0 size=0:=QaP size;rw[h1,QaC];refine h [] #[] ?_ ?_ (by simp[VRs]) rfl (λ_=>rfl)<;>(cases p<;>simp[Builtin.firstCells,loadCells,loadCellsFrom])
  ·obtain⟨B,o,vs,rfl,e2,e3,e4⟩:=hl om;have hF:=k.glob.2 B vs e2;have hr1:=Ww (P:=P) (o:=o) (n:=n * size) hF om;have hr2:=Ww (P:=P) (o:=o) (n:=n * size) (k.drew.glob.2 B vs e2) om;refine h _ ((vs.drop o).take (n * size)).toArray (by simpa[Builtin.firstCells] using hr1) (by simpa[Builtin.firstCells] using hr2) ?_ (WN e0 _) (λh1=>by omega);have:=e4.back.take (n * size);rw[QbK,Qby hle'] at this;exact this
 ·rename_i s;simp only[VR] at hv;obtain⟨bs,rfl,hbs⟩:=hv;have he:=WQ hbs 0 n;refine h _ ((bs.extract 0 n).data.map λ(b:UInt8)=>Value.int .u8 b.toNat) (by simp[Builtin.firstCells]) (by simp[Builtin.firstCells]) ?_ ?_ ?_
  ·rw[ul _ _ he,yE,qW];simp only[Qba,QaG];exact jcB _
  ·rw[yE,List.all_map,Qae];intro _ _;rfl
  ·intro h0;subst h0;apply Array.ext';rw[ul _ _ he];simp
theorem wU (ι:Inj):VR ι qd undef:=by
 simp only[qd,undef,VR];exact⟨#[],rfl,by simp[VRs]⟩
theorem je0 {x:Value}{m:Nat}(size:Nat)(h:(Builtin.lenOf x).run P w=.ok m w):∃ vs,(Builtin.firstCells size 0 x).run P w=.ok vs w:=by
 cases x;case string bs=>exact⟨_,by simp only[Builtin.firstCells,Sem.run_pure];rfl⟩
 case slice a l c=>
  cases a with
  |none=>exact⟨#[],by simp[Builtin.firstCells]⟩
  |some a=>exact⟨#[],by simp[Builtin.firstCells,loadCells,loadCellsFrom]⟩
 all_goals
  simp[Builtin.lenOf,stuck,Sem.run] at h
theorem jmZ {t:TypeId}{d x:Operand}{l:List TypeId}{ty:TypeId}(k:Sim ι st.h st.nx w)(hd:VR ι ((op d).run env) (ρ d))(hx:VR ι ((op x).run env) (ρ x)) :
  Res ι w st ((WE P t (op d) (op x)).run env st) (((Builtin.copy_ (t :: l).toArray ty #[ρ d,ρ x]).run P w).andThen λv w'=>.ok (.value v) w'):=by
 unfold WE;split<;>try trivial
 rename_i e he;have hu:=Us he;split<;>try trivial
 rename_i size hs;obtain⟨i,hi,hsi⟩:=zm hs;try dsimp only
 refine UV (P:=P) hx λn0 hn0=>?_;generalize hvd:(op d).run env=vd at hd;cases vd<;>try trivial
 ·rename_i b off dl cap sz ex;simp only[VR] at hd;obtain⟨hb,hlc,ad,C,hpd,hC,hex,had⟩:=hd;simp only[jE];have hmin:(cond (Qck n0 dl) n0 dl)=Nat.min n0 dl:=by
   show _=min n0 dl;rw[Nat.min_def];cases h:Qck n0 dl
   ·have:¬ n0<=dl:=λe=>by rw[<-qg,h] at e;cases e
    rw[if_neg this];rfl
   ·rw[qg] at h;rw[if_pos h];rfl
  rw[hmin];refine ZN (P:=P) k hx ⟨n0,hn0 w,Nat.min_le_left _ _⟩ λcells vs hf _ hvs hall hv0=>Wj λm zl z cs hg=>jN λhle=>?_;rw[qg,jO] at hle;have hle':off+cells.length<=m:=hle;rw[St.put_eq];obtain⟨B,S,c,elem,lo,hi',e1,hw,_⟩:=k.row hb hg;obtain⟨w',hr,hs',hf'⟩:=UO (P:=P) (o:=off) k hb hg e1 hvs hall hle';have hst:(storeCells ad vs.toList).run P w=.ok () w':=by
   rcases (had B S e1).1 with h0|h0
   ·have hn:Nat.min n0 dl=0:=by have:Nat.min n0 dl<=dl:=Nat.min_le_right _ _;omega
    have hz:vs = #[]:=hv0 hn;subst hz;simp[storeCells] at hr ⊢;exact hr
   ·rw[h0];exact hr
  refine⟨ι,.int .i64 (Nat.min n0 dl:Nat),w',.inl ?_,Le.refl ι,(by simp only[VR];rfl),hs',hf',Cleanly.put ι st b _ (k.born b hb),rfl⟩;simp only[Builtin.copy_];simp[run_underlying hu,hpd,hn0,qb hi,hsi,hf,hst,goInt]
 ·simp only[VR] at hd;refine Res.val k (x:=.int .i64 (0:Nat)) ?_ (by simp only[VR];rfl);obtain⟨vs,hv⟩:=je0 (P:=P) (w:=w) size (hn0 w);have hmin:n0.min 0=0:=Nat.min_zero n0;simp only[Builtin.copy_];simp[run_underlying hu,hd,hn0,qb hi,hsi,hmin,hv,goInt]
end
section
variable {P:Program} {ι:Inj} {w:World} {st:St}
variable {ρ:Operand->Value} {op:Operand->OF} {env:Env} {o:Oper}
def jfJ (P:Program)(w:World)(i:TypeInfo)(zv:Value)(u:TypeId)(x:Value)(n:Nat)(vs:Array Value):Prop:=
 (∃ d,P.underlying u=some d/\(d=.string\/∃ e,d=.slice e)/\(∀ w',(Builtin.lenOf x).run P w'=.ok n w')/\(Builtin.firstCells i.size n x).run P w=.ok vs w/\(Builtin.firstCells i.size n x).run P w.drew=.ok vs w.drew) \/
 (∃ k kk,P.underlying u=some (.int k)/\x=.int kk (Qas n)/\n<=9223372036854775807/\n * i.bytes<=281474976710656/\vs=if n * i.size=0 then #[] else Builtin.zeroCells zv.cells n)
theorem YK {t e u ty:TypeId}{l:List TypeId}{i:TypeInfo}{zv:Value}(ht:P.underlying t=some (.slice e))(hi:P.info? e=some i)(hz:i.zero=some zv)
  {x:Value} {n:Nat} {vs:Array Value} (ha:jfJ P w i zv u x n vs) (base:Option Addr) (sLen sCap:Nat) (hroom:sLen+n<=sCap) :
  (Builtin.append_ (t :: u :: l).toArray ty #[.slice base sLen sCap,x]).run P w =
   ((match base with|some a=>(storeCells (a.add (sLen * i.size)) vs.toList)|none=>pure ()).run P w).andThen λ_ w'=>.ok (.slice base (sLen+n) sCap) w':=by
 rcases ha with ⟨d,hd,hnd,hlen,hf,_⟩|⟨k,kk,hd,rfl,h63,h48,rfl⟩
 ·rcases hnd with rfl|⟨e',rfl⟩
  all_goals
   simp[Builtin.append_,run_underlying ht,run_underlying hd,qb hi,hlen,hroom,hf];cases base<;>simp
 ·have hw:IntKind.i64.wrap (n:Int)=n:=by rw[IntKind.wrap_i64];omega
  have h48':¬ (281474976710656:Int)<(n:Int) * (i.bytes:Int):=by
   have:((n * i.bytes:Nat):Int)<=281474976710656:=Int.ofNat_le.2 h48;rw[Int.natCast_mul] at this;omega
  have hneg:¬ (n:Int)<0:=om
  by_cases h0:n * i.size=0
  ·simp[Builtin.append_,run_underlying ht,run_underlying hd,qb hi,Yu hi,asInt,asIntOf,hw,hneg,h48',hroom,h0];cases base<;>simp
  ·simp[Builtin.append_,run_underlying ht,run_underlying hd,qb hi,Yu hi,asInt,asIntOf,hw,hneg,h48',hroom,h0,Jl hi hz];cases base<;>simp
theorem uo {t e u ty:TypeId}{l:List TypeId}{i:TypeInfo}{zv:Value}(ht:P.underlying t=some (.slice e))(hi:P.info? e=some i)(hz:i.zero=some zv)
  {x:Value} {n:Nat} {vs old:Array Value} (ha:jfJ P w i zv u x n vs) (base:Option Addr) (sLen sCap:Nat) (hroom:¬ sLen+n<=sCap) (hc:sLen<=sCap)
  (h47:(sLen+n) * i.bytes<=140737488355328) (h63:sLen+n<=9223372036854775807) (hold:(Builtin.firstCells i.size sLen (.slice base sLen sCap)).run P w.drew=.ok old w.drew)
  {C:Nat} (hC:(Question.appendCap (sLen+n) sCap e).cut (w.tape w.drawn (.appendCap (sLen+n) sCap e))=C) :
  (Builtin.append_ (t :: u :: l).toArray ty #[.slice base sLen sCap,x]).run P w =
   .ok (.slice (some ⟨w.heap.size,0,none⟩) (sLen+n) C) (w.drew.alloc (.cells (old ++ vs ++ Builtin.zeroCells zv.cells (C - (sLen+n))) e)):=by
 have hfit:Builtin.nextslicecap (sLen+n) sCap * i.bytes<=281474976710656:=growslice_fits om h47;have hfit':¬ 281474976710656<Builtin.nextslicecap (sLen+n) sCap * i.bytes:=om
 have h63':¬ (9223372036854775807<((sLen:Int)+(n:Int))):=om
 rcases ha with ⟨d,hd,hnd,hlen,_,hf⟩|⟨k,kk,hd,rfl,hn63,h48,rfl⟩
 ·rcases hnd with rfl|⟨e',rfl⟩
  all_goals
   simp[Builtin.append_,run_underlying ht,run_underlying hd,Go.sizeOf,typeInfo,zeroValue,hi,hz,hlen,hroom,h63',hfit',Question.forced,hf,hold,Go.newRow,hC]
 ·have hw:IntKind.i64.wrap (n:Int)=n:=by rw[IntKind.wrap_i64];omega
  have h48':¬ (281474976710656:Int)<(n:Int) * (i.bytes:Int):=by
   have:((n * i.bytes:Nat):Int)<=281474976710656:=Int.ofNat_le.2 h48;rw[Int.natCast_mul] at this;omega
  have hneg:¬ (n:Int)<0:=om
  by_cases h0:n * i.size=0
  ·simp[Builtin.append_,run_underlying ht,run_underlying hd,Go.sizeOf,typeInfo,zeroValue,hi,hz,asInt,asIntOf,hw,hneg,h48',hroom,h63',hfit',Question.forced,hold,Go.newRow,hC,h0]
  ·simp[Builtin.append_,run_underlying ht,run_underlying hd,Go.sizeOf,typeInfo,zeroValue,hi,hz,asInt,asIntOf,hw,hneg,h48',hroom,h63',hfit',Question.forced,hold,Go.newRow,hC,h0]
end
section
variable {P:Program} {ι:Inj} {w:World} {st:St}
variable {ρ:Operand->Value} {op:Operand->OF} {env:Env} {o:Oper}
def Inj.kill (ι:Inj)(b:Nat):Inj:=⟨λc=>if c=b then .dead else ι c,ι.g⟩
theorem Le.kill (ι:Inj)(b:Nat):Le ι (ι.kill b):=⟨λc hc=>by
 by_cases h:c=b
 ·right;simp[Inj.kill,h]
 ·left;simp[Inj.kill,h],λ_ _ h=>h⟩
theorem wJ {ι:Inj}{b c B S:Nat}(h:(ι.kill b) c=.at B S):ι c=.at B S/\c≠b:=by
 by_cases hc:c=b
 ·simp[Inj.kill,hc] at h
 ·exact⟨by simpa[Inj.kill,hc] using h,hc⟩
theorem Sim.kill {nx:Nat}{h:T AO}(k:Sim ι h nx w){b:Nat}(hb:b<nx):Sim (ι.kill b) ((j1 (jK b)).run .dead h) nx w/\Grew ι w (ι.kill b) w:=by
 have gr:Grew ι w (ι.kill b) w:=⟨rfl,rfl,rfl,μ _,λ_ _ _=>rfl,λc B S e=>.inl ⟨c,S,(wJ e).1⟩,λ_ _ h=>.inl h⟩;refine⟨⟨?_,?_,?_,?_,k.glob.grew gr⟩,gr⟩
 ·intro c B S e;obtain⟨e1,hc⟩:=wJ e;obtain⟨o',x',h1,h2,h3⟩:=k.obj c B S e1;exact⟨o',x',by rw[jX,if_neg hc];exact h1,h2,OR.mono (Le.kill ι b) _ _ h3⟩
 ·intro c e o' ho;by_cases hc:c=b
  ·rw[jX,if_pos hc] at ho;cases ho;rfl
  ·rw[jX,if_neg hc] at ho;exact k.gone c (by simpa[Inj.kill,hc] using e) o' ho
 ·intro c c' B S S' e e';exact k.inj c c' B S S' (wJ e).1 (wJ e').1
 ·intro c e;by_cases hc:c=b
  ·rw[hc];exact hb
  ·exact k.born c (by simpa[Inj.kill,hc] using e)
theorem Cleanly.kill {ι:Inj}{st:St}{b:Nat}(hb:ι b≠.unborn)(hlt:b<st.nx):Cleanly ι (ι.kill b) st ⟨st.nx,(j1 (jK b)).run .dead st.h,min st.dirty b,st.fr⟩:=by
 have h:=Cleanly.put ι st b .dead hlt;refine⟨h.nx,h.dirty,h.keep,h.above,λc _ hu=>?_,λc hu=>?_,λc h1 h2=>absurd h2 (Nat.not_lt.2 h1)⟩
 ·have:c≠b:=λe=>hb (by rw[<-e];exact hu);simp only[Inj.kill,if_neg this];exact hu
 ·simp only[Inj.kill];split<;>simp_all
theorem Sim.adopt {nx:Nat}{h:T AO}{w':World}(k:Sim ι h nx w){B S:Nat}(hfree:∀ c S',ι c≠.at B S')(hlt:B<w.heap.size)(o:AO)(x:Obj)(hx:OR (ι.add nx B S) S o x)
  (hB:w'.heap[B]? = some x) (hne:∀ j,j≠B->w'.heap[j]? = w.heap[j]?) (hgl:Gl (ι.add nx B S) w') :
  Sim (ι.add nx B S) ((j1 (jK nx)).run o h) (nx+1) w':=by
 have le:=Le.add (ι:=ι) k.born B S;refine⟨?_,?_,?_,?_,hgl⟩
 ·intro b B' T e;by_cases hb:b=nx
  ·subst hb;simp only[Inj.add,if_true] at e;cases e;exact⟨o,x,by rw[jX,if_pos rfl],hB,hx⟩
  ·have e':ι b=.at B' T:=by simpa[Inj.add,hb] using e
   obtain⟨o',x',h1,h2,h3⟩:=k.obj b B' T e';have:B'≠B:=λe=>hfree b T (by rw[<-e];exact e');exact⟨o',x',by rw[jX,if_neg hb];exact h1,by rw[hne B' this];exact h2,OR.mono le _ _ h3⟩
 ·intro b e o' ho;by_cases hb:b=nx
  ·subst hb;simp[Inj.add] at e
  ·have e':ι b=.dead:=by simpa[Inj.add,hb] using e
   rw[jX,if_neg hb] at ho;exact k.gone b e' o' ho
 ·intro b c B' S1 S2 e1 e2;by_cases hb:b=nx<;>by_cases hc:c=nx
  ·rw[hb,hc]
  ·subst hb;simp only[Inj.add,if_true] at e1;cases e1;exact absurd (by simpa[Inj.add,hc] using e2:ι c=.at B S2) (hfree c S2)
  ·subst hc;simp only[Inj.add,if_true] at e2;cases e2;exact absurd (by simpa[Inj.add,hb] using e1:ι b=.at B S1) (hfree b S1)
  ·exact k.inj b c B' S1 S2 (by simpa[Inj.add,hb] using e1) (by simpa[Inj.add,hc] using e2)
 ·intro b e;by_cases hb:b=nx
  ·omega
  ·have:=k.born b (by simpa[Inj.add,hb] using e);omega
theorem jcl {cells:List AV}{vs rest:List Value}(h:VRs ι cells vs)(hc:cells.all AV.cell=true)(elem:TypeId){S:Nat}(hS:S=vs.length+rest.length)
  {n zl:Nat} {z:List AV} {cs:T AV} (hn:n=cells.length) (hcell:∀ i,i<n->qA zl z cs i=cells.getD i .bad) :
  OR ι S (.row n zl z cs) (.cells (vs.toArray ++ rest.toArray) elem (0,0)):=by
 simp only[OR];have hl:=h.length;refine⟨_,elem,0,0,rfl,by simp[hS],om,om,λi hi=>?_⟩;have hi':i<cells.length:=om
 rw[hcell i hi];refine⟨vt hc hi',vs.getD i undef,?_,h.get i hi'⟩;have:i<vs.length:=om
 rw[Array.getElem?_append_left (by simpa using this)];simp[ω,Qai this]
theorem jkG {cells:List AV}{vs rest:List Value}(h:VRs ι cells vs)(hc:cells.all AV.cell=true)(elem:TypeId){S:Nat}(hS:S=vs.length+rest.length) :
  OR ι S (.row cells.length cells.length cells .e) (.cells (vs.toArray ++ rest.toArray) elem (0,0)):=
 jcl h hc elem hS rfl λi hi=>by rw[yL,Xe,Qbm hi];rfl
theorem Res.after {ι1:Inj}{st1:St}{r:ER}{res:Result Next}(hp:∀ v s,r≠.pn v s)(hl:Le ι ι1)(hg:Grew ι w ι1 w)(hc:Cleanly ι ι1 st st1)(hf:st1.fr=st.fr)(h:Res ι1 w st1 r res):Res ι w st r res:=by
 cases r with
 |no=>trivial
 |ok v st'=>
  obtain⟨ι',x,w',h1,h2,h3,h4,h5,h6,h7⟩:=h;exact⟨ι',x,w',h1,hl.trans h2,h3,h4,hg.trans h5,hc.trans h6,h7.trans hf⟩
 |pn v s=>exact absurd rfl (hp v s)
theorem YN (z:Array Value)(n:Nat):(Builtin.zeroCells z n).size=n * z.size:=by simp[Builtin.zeroCells]
theorem U0 (k:Sim ι st.h st.nx w){cells:List AV}{vs:Array Value}{zs:Array Value}{e:TypeId}{need C size:Nat}{res:Result Next}(hvs:VRs ι cells vs.toList)(hall:cells.all AV.cell=true)
  (hlen:cells.length=need * size) (hzs:zs.size=size) (hC:need<=C)
  (hr:res=.ok (.value (.slice (some ⟨w.heap.size,0,none⟩) need C)) (w.drew.alloc (.cells (vs ++ Builtin.zeroCells zs (C - need)) e))) :
  Res ι w st (.ok (.slice st.nx 0 need need size false) ⟨st.nx+1,(j1 (jK st.nx)).run (.row cells.length cells.length cells .e) st.h,st.dirty,st.fr⟩) res:=by
 refine Res.drew (λ_ _ h=>by cases h) ?_;have hl:=hvs.length;rw[Qak] at hl;have hS:C * size=vs.toList.length+(Builtin.zeroCells zs (C - need)).toList.length:=by
  rw[Qak,Qak,YN,hl,hlen,hzs,<-QaD]
  congr 1
  omega
 refine Res.alloc (w:=w.drew) k.drew (S:=C * size) (x:=.cells (vs ++ Builtin.zeroCells zs (C - need)) e) ?_
  (J5 ι _ _ _ need C size need false (μ _) hC (λh=>by cases h) (λ_=>μ _)) hr
 have le:=Le.add (ι:=ι) k.born w.drew.heap.size (C * size);have:=jkG (rest:=(Builtin.zeroCells zs (C - need)).toList) (VRs.mono le _ _ hvs) hall e hS;simpa using this
theorem VG {t e u ty:TypeId}{l:List TypeId}{i:TypeInfo}{zv:Value}(ht:P.underlying t=some (.slice e))(hi:P.info? e=some i)(hz:i.zero=some zv)(hzs:zv.cells.size=i.size)
  (k:Sim ι st.h st.nx w) {s:AV} {sv x:Value} (hs:VR ι s sv) {n:Nat} {news:List AV} {vs:Array Value} (ha:jfJ P w i zv u x n vs) (hvs:VRs ι news vs.toList) (hall:news.all AV.cell=true) :
  Res ι w st (qS st i.size i.bytes s n news) (((Builtin.append_ (t :: u :: l).toArray ty #[sv,x]).run P w).andThen λv w'=>.ok (.value v) w'):=by
 unfold qS;refine jN λhlen=>?_;rw[qH,jO] at hlen;have hlen':news.length=n * i.size:=hlen;split<;>try trivial
 ·
  simp only[VR] at hs;subst hs;refine Q3 (λh0=>?_) (λh0=>?_)
  ·rw[qH] at h0;subst h0;refine Res.val k (x:=.slice none 0 0) ?_ (by simp only[VR]);rw[YK ht hi hz ha none 0 0 (μ _)];simp
  ·have h0':n≠0:=λe=>by rw[<-qH,h0] at e;cases e
   refine jN λh1=>jN λh2=>?_;rw[qg] at h1 h2;have h1':n * i.bytes<=140737488355328:=h1;rw[jE,St.alloc_eq];have hC:n<=(Question.appendCap (0+n) 0 e).cut (w.tape w.drawn (.appendCap (0+n) 0 e)):=by have:=YE (0+n) 0 e (w.tape w.drawn (.appendCap (0+n) 0 e));omega
   have:=uo (ty:=ty) (l:=l) ht hi hz ha none 0 0 om (μ _) (by rw[Qag];exact h1') om (old:=#[]) (by simp[Builtin.firstCells]) rfl;have hg:=U0 (size:=i.size) (e:=e) k hvs hall hlen' hzs hC (res:=_) rfl;rw[hlen'] at hg;rw[this];simpa using hg
 ·rename_i b off sl cap sz ex;have hs0:=hs;simp only[VR] at hs;obtain⟨hb,hlc,ad,C,rfl,hC,hex,had⟩:=hs;rw[jE];refine Wj λm zl zz cs hg=>?_;obtain⟨B,S,c,elem,lo,hi',e1,hw,hcs,hmS,hfr,hcell⟩:=k.row hb hg;obtain⟨had1,had2⟩:=had B S e1;refine Q3 (λhroom=>?_) (λhroom=>?_)
  ·
   rw[qg] at hroom;have hroom':sl+n<=cap:=hroom;refine Q3 (λh0=>?_) (λh0=>?_)
   ·rw[qH] at h0;subst h0;refine Res.val k (x:=.slice (some ad) sl C) ?_ hs0;have hv0:vs = #[]:=by
     have:=hvs.length;rw[hlen',QaP] at this;exact Array.toList_eq_nil_iff.1 (QaY this)
    rw[YK ht hi hz ha (some ad) sl C om];simp[hv0,storeCells]
   ·have h0':n≠0:=λe=>by rw[<-qH,h0] at e;cases e
    refine jN λh1=>?_;rw[qg] at h1;have h1':off+(sl+n) * i.size<=m:=h1;rw[St.put_eq];have had1':ad=⟨B,off,none⟩:=by
     rcases had1 with h|h
     ·omega
     ·exact h
    have hsum:(sl+n) * i.size=sl * i.size+n * i.size:=QaD _ _ _;obtain⟨w',hr,hs',hf'⟩:=UO (P:=P) (o:=off+sl * i.size) k hb hg e1 hvs hall om;refine⟨ι,.slice (some ad) (sl+n) C,w',.inl ?_,Le.refl ι,?_,hs',hf',Cleanly.put ι st b _ (k.born b hb),rfl⟩
    ·rw[YK ht hi hz ha (some ad) sl C om];simp only[had1',yB];rw[hr];simp
    ·simp only[VR];refine⟨hb,hroom',ad,C,rfl,hC,hex,λB' S' e2=>?_⟩;rw[e1] at e2;cases e2;exact⟨had1,had2⟩
  ·have hroom':¬ sl+n<=cap:=λh=>by
    have:Qck (Qcl sl n) cap=true:=by rw[qg];exact h
    rw[this] at hroom;cases hroom
   refine jN λh47=>jN λh63=>?_;rw[qg] at h47 h63;have h47':(sl+n) * i.bytes<=140737488355328:=h47;have h63':sl+n<=9223372036854775807:=h63;have growth:∀ (kk:Sim ι st.h st.nx w),¬ sl+n<=C->off+sl * i.size<=m->
     ∃ olds:List Value,VRs ι (jT zl zz cs (sl * i.size) off) olds/\(jT zl zz cs (sl * i.size) off).all AV.cell=true/\(jT zl zz cs (sl * i.size) off).length=sl * i.size /\
      ((Builtin.append_ (t :: u :: l).toArray ty #[.slice (some ad) sl C,x]).run P w).andThen (λv w'=>.ok (.value v) w') =
       .ok (Next.value (.slice (some ⟨w.heap.size,0,none⟩) (sl+n) ((Question.appendCap (sl+n) C e).cut (w.tape w.drawn (.appendCap (sl+n) C e)))))
        (w.drew.alloc (.cells ((olds.toArray ++ vs) ++ Builtin.zeroCells zv.cells ((Question.appendCap (sl+n) C e).cut (w.tape w.drawn (.appendCap (sl+n) C e)) - (sl+n))) e)):=by
    intro _ hno hle;obtain⟨olds,hrun,hol,hlo,_⟩:=vW (P:=P) (w:=w.drew) k.drew hb hg e1 hle;obtain⟨hall',hlen''⟩:=Qr k hb hg hle;refine⟨olds,hol,hall',hlen'',?_⟩;have hold:(Builtin.firstCells i.size sl (.slice (some ad) sl C)).run P w.drew=.ok olds.toArray w.drew:=by
     rcases had1 with h|h
     ·have:sl=0:=om
      subst this;have h2:olds=[]:=by rw[QaP] at hlo;exact QaY hlo
      subst h2;simp[Builtin.firstCells,loadCells,loadCellsFrom]
     ·rw[h];simpa[Builtin.firstCells] using hrun
    have:=uo (ty:=ty) (l:=l) ht hi hz ha (some ad) sl C hno om h47' h63' hold rfl;rw[this];simp
   cases ex
   ·
    simp only[cond];refine jN λhsz=>jN λho0=>jN λhm=>?_;rw[qH] at hsz ho0 hm;subst hsz;subst ho0;have hm':sl * i.size=m:=hm;have hbn:b<st.nx:=k.born b hb;obtain⟨k1,g1⟩:=k.kill hbn;rw[St.put_eq,jE,St.alloc_eq];have hnew:∀ j,j<(sl+n) * i.size->qA zl zz (qj news cs m) j=if j<m then qA zl zz cs j else news.getD (j - m) .bad:=by
     intro j hj;rw[yQ];have hsum:(sl+n) * i.size=sl * i.size+n * i.size:=QaD _ _ _;by_cases hjm:j<m
     ·rw[if_pos hjm,if_neg om]
     ·rw[if_neg hjm,if_pos om]
    by_cases hroomC:sl+n<=C
    ·have had1':ad=⟨B,0,none⟩:=by
      rcases had1 with h|h
      ·omega
      ·exact h
     have hS:=had2 rfl;have hle2:(sl+n) * i.size<=C * i.size:=Qax _ hroomC;have hsum:(sl+n) * i.size=sl * i.size+n * i.size:=QaD _ _ _;have hvl:=hvs.length;have h1:∀ v∈vs.toList,v.oneCell'=true:=by
      intro v hv;obtain⟨q,hq,rfl⟩:=Qbz.1 hv;have:=hvs.get q om;have h3:=VR.cell (vt hall om) this;simpa[ω,Qai hq] using h3
     obtain⟨w',c',hr,hB',hs',hc',hne,hos,htp,hou,hsz'⟩:=YV (P:=P) (o:=sl * i.size) vs.toList 0 w c hw om om h1;have hfree:∀ c S',(ι.kill b) c≠.at B S':=λc2 S' e2=>by
      obtain⟨e3,e4⟩:=wJ e2;exact e4 (k.inj c2 b B S' S e3 e1)
     have le:=(Le.kill ι b).trans (Le.add (ι:=ι.kill b) k1.born B S);have gr:Grew ι w ((ι.kill b).add st.nx B S) w':=by
      refine⟨hos,htp,hou,om,λj _ hn=>hne j (λej=>hn b S (by rw[ej];exact e1)),λc2 B2 S2 e2=>?_,λ_ _ h=>.inl h⟩;by_cases hc2:c2=st.nx
      ·subst hc2;rw[XX] at e2;cases e2;exact .inl ⟨b,S,e1⟩
      ·have:(ι.kill b) c2=.at B2 S2:=by simpa[Inj.add,hc2] using e2
       exact .inl ⟨c2,S2,(wJ this).1⟩
     have hsim:=k1.adopt (w':=w') (S:=S) hfree (k.lt e1) (.row ((sl+n) * i.size) zl zz (qj news cs m)) (.cells c' elem (lo,hi')) (by
      simp only[OR];refine⟨c',elem,lo,hi',rfl,om,om,om,λj hj=>?_⟩;rw[hnew j hj,hc' j];by_cases hjm:j<m
      ·rw[if_pos hjm,if_neg om];obtain⟨q1,v,q2,q3⟩:=hcell j hjm;exact⟨q1,v,q2,VR.mono le _ _ q3⟩
      ·rw[if_neg hjm,if_pos om];refine⟨vt hall om,vs.toList.getD (j - m) undef,?_,VR.mono le _ _ (hvs.get (j - m) om)⟩;have:j - m<vs.toList.length:=om
       rw[show j - (sl * i.size+0)=j - m by omega];simp[ω,Qai this]) hB' hne (k.glob.grew gr)
     refine⟨(ι.kill b).add st.nx B S,.slice (some ad) (sl+n) C,w',.inl ?_,le,?_,hsim,?_,(Cleanly.kill hb hbn).trans (Cleanly.alloc (ι.kill b) ⟨st.nx,(j1 (jK b)).run .dead st.h,min st.dirty b,st.fr⟩ _ B S),rfl⟩
     ·rw[YK ht hi hz ha (some ad) sl C hroomC];simp only[had1',yB,Qag];rw[hr];simp
     ·rw[had1'];exact J5 (ι.kill b) st.nx B S (sl+n) C i.size (sl+n) false (μ _) hroomC (λh=>by cases h) (λ_=>by omega)
     ·exact gr
    ·obtain⟨olds,hol,hall',hlen'',hrun⟩:=growth k hroomC om;rw[hrun];refine Res.after (λ_ _ h=>by cases h) (Le.kill ι b) g1 (Cleanly.kill hb hbn) rfl ?_;refine Res.drew (λ_ _ h=>by cases h) ?_;have le:=Le.kill ι b;have hCC:=YE (sl+n) C e (w.tape w.drawn (.appendCap (sl+n) C e));generalize (Question.appendCap (sl+n) C e).cut (w.tape w.drawn (.appendCap (sl+n) C e))=D at hCC hrun ⊢;have hvl:=hvs.length;have hol':=hol.length;have hsum:(sl+n) * i.size=sl * i.size+n * i.size:=QaD _ _ _;have hS:D * i.size=(olds ++ vs.toList).length+(Builtin.zeroCells zv.cells (D - (sl+n))).toList.length:=by
      rw[υ,Qak (xs:=Builtin.zeroCells zv.cells (D - (sl+n))),YN,hol',hvl,hlen'',hlen',hzs,<-QaD,<-QaD]
      congr 1
      omega
     have le2:=Le.add (ι:=ι.kill b) k1.born w.drew.heap.size (D * i.size);refine Res.alloc (w:=w.drew) (st:=⟨st.nx,_,_,st.fr⟩) k1.drew (S:=D * i.size) (x:=.cells ((olds.toArray ++ vs) ++ Builtin.zeroCells zv.cells (D - (sl+n))) e) ?_
      (J5 (ι.kill b) _ _ _ (sl+n) D i.size (sl+n) false (μ _) hCC (λh=>by cases h) (λ_=>μ _)) rfl
     have hcells:VRs ((ι.kill b).add st.nx w.drew.heap.size (D * i.size)) (jT zl zz cs (sl * i.size) 0 ++ news) (olds ++ vs.toList):=VRs.mono (le.trans le2) _ _ (hol.append hvs);have:=jcl (rest:=(Builtin.zeroCells zv.cells (D - (sl+n))).toList) hcells (by rw[QaM,hall',hall];rfl) e hS (n:=(sl+n) * i.size) (zl:=zl) (z:=zz) (cs:=qj news cs m)
      (by rw[υ,hlen'',hlen',hsum]) (λj hj=>by
       rw[hnew j hj];by_cases hjm:j<m
       ·rw[if_pos hjm];simp only[qy,Qag,ω];rw[QbB (by simp;omega)];simp[show j<sl * i.size by omega]
       ·rw[if_neg hjm];simp only[ω];rw[QbP (by rw[hlen''];omega),hlen'',hm'])
     have e2:(olds ++ vs.toList).toArray=olds.toArray ++ vs:=by apply Array.ext';simp
     rw[e2] at this;simpa using this
   ·simp only[cond];have hCe:=hex (by simp);subst hCe;rw[jE];refine jN λhle=>?_;rw[qg] at hle;have hle':off+sl * i.size<=m:=hle;rw[jE,St.alloc_eq];obtain⟨olds,hol,hall',hlen'',hrun⟩:=growth k hroom' hle';rw[hrun];have hl3:(jT zl zz cs (sl * i.size) off ++ news).length=(sl+n) * i.size:=by rw[υ,hlen'',hlen',QaD]
    have hg2:=U0 (w:=w) (size:=i.size) (e:=e) k (cells:=jT zl zz cs (sl * i.size) off ++ news) (vs:=olds.toArray ++ vs) (zs:=zv.cells) (need:=sl+n)
     (by simpa using hol.append hvs) (by rw[QaM,hall',hall];rfl) hl3 hzs (YE (sl+n) C e (w.tape w.drawn (.appendCap (sl+n) C e))) rfl
    rw[hl3] at hg2;rw[yv];exact hg2
 ·
  rename_i sl cs;simp only[VR] at hs;obtain⟨p,rfl,e0,hl⟩:=hs;refine Q3 (λ_=>trivial) (λh0=>?_);have h0':n≠0:=λe=>by rw[<-qH,h0] at e;cases e
  rw[jE];refine jN λh1=>jN λh2=>jN λh3=>?_;rw[qg] at h1 h2 h3;rw[jO] at h3;have h1':(sl+n) * i.bytes<=140737488355328:=h1;have h2':sl+n<=9223372036854775807:=h2;have h3':sl * i.size<=cs.length:=h3;rw[jE,St.alloc_eq,yv,qW];have hold:∃ olds:List Value,VRs ι (cs.take (sl * i.size)) olds/\(Builtin.firstCells i.size sl (.slice p sl sl)).run P w.drew=.ok olds.toArray w.drew:=by
   rcases Nat.eq_zero_or_pos sl with h4|h4
   ·subst h4;refine⟨[],by rw[QaP,QaC];simp[VRs],?_⟩;cases p<;>simp[Builtin.firstCells,loadCells,loadCellsFrom]
   ·obtain⟨B,o,vs',rfl,e2,e3,e4⟩:=hl h4;clear hl;have hr2:=Ww (P:=P) (o:=o) (n:=sl * i.size) (k.drew.glob.2 B vs' e2) om;refine⟨_,?_,by simpa[Builtin.firstCells] using hr2⟩;have:=e4.back.take (sl * i.size);rw[QbK,Qby h3'] at this;exact this
  obtain⟨olds,hol,hrun⟩:=hold;have hC:=YE (sl+n) sl e (w.tape w.drawn (.appendCap (sl+n) sl e));have hg:=uo (ty:=ty) (l:=l) ht hi hz ha p sl sl om (μ _) h1' h2' hrun rfl;have hlen2:(cs.take (sl * i.size) ++ news).length=(sl+n) * i.size:=by
   rw[υ,Qam,hlen',Qby h3',QaD]
  have h9:=U0 (size:=i.size) (e:=e) k (cells:=cs.take (sl * i.size) ++ news) (vs:=olds.toArray ++ vs) (by simpa using hol.append hvs) (by rw[QaM,WN e0,hall];rfl) hlen2 hzs hC (res:=_) rfl;rw[hlen2] at h9;rw[hg];simpa using h9
end
section
variable {P:Program} {ι:Inj} {w:World} {st:St}
variable {ρ:Operand->Value} {op:Operand->OF} {env:Env} {o:Oper}
theorem kW {z:List AV}(h:z.all AV.cell=true):∀ n,(qM z n).all AV.cell=true
 |0=>rfl
 |n+1=>by
  show(yS z (qM z n)).all AV.cell=true;rw[yv,QaM,h,kW h n];rfl
theorem jfC {t u ty:TypeId}{l:List TypeId}{s x:Operand}(k:Sim ι st.h st.nx w)(hs:VR ι ((op s).run env) (ρ s))(hx:VR ι ((op x).run env) (ρ x)) :
  Res ι w st ((Qx P t u (op s) (op x)).run env st) (((Builtin.append_ (t :: u :: l).toArray ty #[ρ s,ρ x]).run P w).andThen λv w'=>.ok (.value v) w'):=by
 unfold Qx;split<;>try trivial
 rename_i e he;have ht:=Us he;split<;>try trivial
 rename_i i z hi hz;obtain⟨i',zv,hi',hzv,hr⟩:=wy hz ι;rw[hi] at hi';cases hi';generalize hcc:cond (lall AV.cell z) (Qci (jP z) i.size) false=cc;cases cc<;>try trivial
 have hcell:z.all AV.cell=true/\z.length=i.size:=by
  cases hh:lall AV.cell z
  ·rw[hh] at hcc;cases hcc
  ·rw[hh] at hcc;simp only[cond] at hcc;rw[qH,jO] at hcc;rw[uJ] at hh;exact⟨hh,hcc⟩
 have hzs:zv.cells.size=i.size:=by have:=hr.length;rw[Qak] at this;omega
 simp only[cond];split<;>try trivial
 ·rename_i k0 hu;refine zy hx λkk n hn=>jN λh1=>jN λh2=>?_;rw[qg] at h1 h2;have hrep:VRs ι (qM z n) (Builtin.zeroCells zv.cells n).toList:=by
   have:Builtin.zeroCells zv.cells n=madeCells zv.cells (n * zv.cells.size):=rfl;rw[this,jaV];exact W6 hr n
  refine VG ht hi hzv hzs k hs (vs:=if n * i.size=0 then #[] else Builtin.zeroCells zv.cells n) (.inr ⟨k0,kk,hu,hn,h2,h1,rfl⟩) ?_ (kW hcell.1 n);by_cases h0:n * i.size=0
  ·rw[if_pos h0];have h3:=hrep.length;rw[Qak,YN,hzs,h0] at h3;have h4:qM z n=[]:=QaY h3.symm;rw[h4];simp[VRs]
  ·rw[if_neg h0];exact hrep
 ·rename_i e' hu;refine UV (P:=P) hx λn hn=>ZN (P:=P) k hx ⟨n,hn w,μ _⟩ λcells vs hf hf' hvs hall _=>?_;exact VG ht hi hzv hzs k hs (.inl ⟨_,hu,.inr ⟨_,rfl⟩,hn,hf,hf'⟩) hvs hall
 ·rename_i hu;refine UV (P:=P) hx λn hn=>ZN (P:=P) k hx ⟨n,hn w,μ _⟩ λcells vs hf hf' hvs hall _=>?_;exact VG ht hi hzv hzs k hs (.inl ⟨_,hu,.inl rfl,hn,hf,hf'⟩) hvs hall
def HT (b:Builtin):Bool:=match b with | .recover=>false|_=>true
theorem jlT (x:Operand)(l:List Operand)(hx:∀ y∈l,VR ι ((op y).run env) (ρ y)):VRs ι (ye (λx:OF=>x.run env) (l.map op)) (l.map ρ):=by
 rw[yE,QaW];exact VRs.map_of l hx
theorem jfu {b:Builtin}(hb:HT b=true){ts:Array TypeId}{ty:TypeId}{cs:Array Bool}{args:Array Operand}(k:Sim ι st.h st.nx w)(hx:∀ x∈args.toList,VR ι ((op x).run env) (ρ x)) :
  Res ι w st ((qE P b ts (ye op args.toList)).run env st) ((Go.builtin b ts ty cs (args.map ρ)).run P w):=by
 rw[yE];obtain⟨args⟩:=args;obtain⟨ts⟩:=ts;simp only at hx;unfold qE;split
 all_goals try trivial
 ·rename_i x t _ heq ht
  match args,heq with
  |[y],heq=>
   simp only[ζ,η,List.cons.injEq,and_true] at heq;subst heq;simp only at ht;subst ht;simp only[Go.builtin,Sem.run_bind,Sem.run_pure,QbC,ζ,η];exact jpC k (hx y (by simp))
 ·rename_i x t _ heq ht
  match args,heq with
  |[y],heq=>
   simp only[ζ,η,List.cons.injEq,and_true] at heq;subst heq;simp only at ht;subst ht;simp only[Go.builtin,Sem.run_bind,Sem.run_pure,QbC,ζ,η];exact jqq k (hx y (by simp))
 ·rename_i s x t u _ heq ht
  match args,heq with
  |[y,y'],heq=>
   simp only[ζ,η,List.cons.injEq,and_true] at heq;obtain⟨rfl,rfl⟩:=heq;simp only at ht;subst ht;simp only[Go.builtin,Sem.run_bind,Sem.run_pure,QbC,ζ,η];exact jfC k (hx y (by simp)) (hx y' (by simp))
 ·rename_i d x t _ heq ht
  match args,heq with
  |[y,y'],heq=>
   simp only[ζ,η,List.cons.injEq,and_true] at heq;obtain⟨rfl,rfl⟩:=heq;simp only at ht;subst ht;simp only[Go.builtin,Sem.run_bind,Sem.run_pure,QbC,ζ,η];exact jmZ k (hx y (by simp)) (hx y' (by simp))
 ·rename_i x l heq
  match args,heq with
  |y :: l',heq=>
   simp only[ζ,List.cons.injEq] at heq;obtain⟨rfl,rfl⟩:=heq;refine qV λv hv=>?_;obtain⟨r,h1,h2⟩:=gX (P:=P) (w:=w) (f:=Ev.min2) (g:=Builtin.min2) (λx y z u v=>jmF) _ _ _ _ _ (hx y (by simp)) (jlT (env:=env) (op:=op) (ρ:=ρ) y l' (λq hq=>hx q (by simp[hq]))) hv;refine Res.val k (x:=r) ?_ h2;simp only[Go.builtin,Sem.run_bind,Sem.run_pure,QbC,ζ,Builtin.min_,h1,Result.andThen_ok]
 ·rename_i x l heq
  match args,heq with
  |y :: l',heq=>
   simp only[ζ,List.cons.injEq] at heq;obtain⟨rfl,rfl⟩:=heq;refine qV λv hv=>?_;obtain⟨r,h1,h2⟩:=gX (P:=P) (w:=w) (f:=Ev.max2) (g:=Builtin.max2) (λx y z u v=>jmI) _ _ _ _ _ (hx y (by simp)) (jlT (env:=env) (op:=op) (ρ:=ρ) y l' (λq hq=>hx q (by simp[hq]))) hv;refine Res.val k (x:=r) ?_ h2;simp only[Go.builtin,Sem.run_bind,Sem.run_pure,QbC,ζ,Builtin.max_,h1,Result.andThen_ok]
def vu (o:Op):Bool:=
 match o with
 |.defer _=>false
 |.call c=>match c.callee with
  |.builtin b=>HT b
  |_=>false
 |_=>true
theorem jdt (hc:vu o.op=true)(k:Sim ι st.h st.nx w)(hx:∀ x∈o.op.operands.toList,VR ι ((op x).run env) (ρ x)) :
  Res ι w st ((jy P op o.op).run env st) ((execOp ρ o).run P w):=by
 cases ho:o.op<;>rw[ho] at hc hx<;>simp only[Op.operands] at hx;case move x=>exact G8 (.inl ho) k (hx x (by simp))
 case assign x=>exact G8 (.inr ho) k (hx x (by simp))
 case pick c a b=>exact jhA ho k (hx c (by simp)) (hx a (by simp)) (hx b (by simp))
 case alloc t=>exact jfd ho k
 case box t x=>exact jkk ho k (hx x (by simp))
 case build t ps=>exact jfb ho k (λp hp=>hx p.2 (by simp;exact⟨p.1,by simpa using hp⟩))
 case buildSlice t n ps=>exact KQ ho k (λp hp=>hx p.2 (by simp;exact⟨p.1,by simpa using hp⟩))
 case load t a=>exact jhC ho k (hx a (by simp))
 case store t a x=>exact je5 ho k (hx a (by simp)) (hx x (by simp))
 case nilCheck x=>exact Hs ho k (hx x (by simp))
 case binOp b t x y s=>exact jfc ho k (hx x (by simp)) (hx y (by simp))
 case unOp b t x=>exact jhz ho k (hx x (by simp))
 case convert s d x=>exact jbH ho k (hx x (by simp))
 case makeInterface t x=>exact Vl ho k (hx x (by simp))
 case makeFunc f first caps=>
  cases f<;>try trivial
  exact Ht ho k (λx hxm=>hx x (by simp;right;exact hxm))
 case makeMap t r=>
  cases r<;>try trivial
  exact jbF ho k
 case makeSlice t l c=>exact hH ho k (hx l (by simp)) (hx c (by simp))
 case slice t x lo hi mx=>exact je6 ho k (hx x (by simp)) (λa ha=>hx a (by simp[ha])) (λa ha=>hx a (by simp[ha])) (λa ha=>hx a (by simp[ha]))
 case fieldAddr s x f=>exact hZ ho k (hx x (by simp))
 case field s x f=>exact jfa ho k (hx x (by simp))
 case indexAddr t x i=>exact hY ho k (hx x (by simp)) (hx i (by simp))
 case index t x i=>exact je9 ho k (hx x (by simp)) (hx i (by simp))
 case lookup t m x ok=>exact jcv ho k (hx m (by simp)) (hx x (by simp))
 case mapUpdate t m x y=>exact gZ ho k (hx m (by simp)) (hx x (by simp)) (hx y (by simp))
 case range t x=>exact je7 ho k (hx x (by simp))
 case next it s=>
  cases s<;>try trivial
  exact jhB ho k (hx it (by simp))
 case typeAssert x s t ok=>
  cases ok<;>try trivial
  exact KP ho k (hx x (by simp))
 case panic x=>exact je8 ho k (hx x (by simp))
 case extract x i=>exact jbG ho k (hx x (by simp))
 case call c=>
  simp only[vu] at hc;split at hc
  ·rename_i b hb;have:(jy P op (.call c))=qE P b c.argTypes (ye op c.args.toList):=by simp only[jy,hb]
   rw[this,jbZ ho hb];exact jfu hc k (λx hxm=>hx x (by simp[Call.operands,hb];simpa using hxm))
  ·cases hc
 case defer c=>cases hc
 all_goals trivial
end
def zw (t:T AV)(x:Nat):AV:=((QA (jK x)).run t).getD qd
def idx (x:Nat):List Nat->Option Nat
 |[]=>none
 |n :: ns=>if n=x then some 0 else(idx x ns).map (· + 1)
theorem Gs (x:Nat):∀ (ns:List Nat) (k:Nat),
  (List.rec (motive:=λ_=>(Nat->Option OF)) (λ_=>none) (λn _ ih i=>cond (Qci n x) (some ⟨λenv=>ym .bad env.rs i⟩) (ih (Qcj i))) ns k:Option OF)
   = (idx x ns).map λi=>⟨λenv=>ym .bad env.rs (k+i)⟩
 |[],k=>rfl
 |n :: ns,k=>by
  show cond (Qci n x) _ _=_;simp only[idx];cases h:Qci n x
  ·have:n≠x:=λe=>by rw[<-qH,h] at e;cases e
   rw[if_neg this];refine(Gs x ns (Qcj k)).trans ?_;rw[Option.map_map]
   congr 1
   funext i
   simp only[Function.comp]
   congr 2
   funext env
   congr 1
   omega
  ·rw[qH] at h;rw[if_pos h];rfl
theorem gG (x:Nat)(ns:List Nat):jjP x ns=(idx x ns).map λi=>⟨λenv=>ym .bad env.rs i⟩:=by
 unfold jjP;rw[Gs]
 congr 1
 funext i
 rw[Qag]
def DRs (ι:Inj):List (FuncId×List AV)->List Deferred->Prop
 |[],l=>l=[]
 |p :: ps,l=>∃ cap dargs ds,l={ target:=.fn (.func p.1) cap,args:=dargs } :: ds/\VRs ι p.2 (dargs ++ cap).toList/\DRs ι ps ds
theorem DRs.mono {ι ι':Inj}(h:Le ι ι'):∀ (ps:List (FuncId×List AV)) (l:List Deferred),DRs ι ps l->DRs ι' ps l
 |[],_,k=>k
 |p :: ps,l,k=>by
  simp only[DRs] at k ⊢;obtain⟨cap,dargs,ds,rfl,h1,h2⟩:=k;exact⟨cap,dargs,ds,rfl,VRs.mono h _ _ h1,DRs.mono h ps ds h2⟩
structure Rel (ι:Inj)(U N:Nat)(t:T AV)(ns:List Nat)(rs:List AV)(st:St)(a:Act)(w:World):Prop where
 sim:Sim ι st.h st.nx w
 size:N<=a.tmps.size
 env:∀ x,inU U x=true->idx x ns=none->VR ι (zw t x) (a.tmps.getD x undef)
 recs:∀ x i,idx x ns=some i->VR ι (rs.getD i .bad) (a.tmps.getD x undef)
 len:ns.length=rs.length
 ds:DRs ι st.fr a.defers
section
variable {P:Program} {ι:Inj} {w:World} {st:St} {U N:Nat} {t:T AV} {ns:List Nat} {rs:List AV} {a:Act}
theorem Rel.opd (r:Rel ι U N t ns rs st a w)(x:Operand):VR ι ((jQ U ns x).run ⟨t,rs⟩) (a.eval x):=by
 cases x with
 |tmp x=>
  simp only[jQ,gG];cases h:idx x ns with
  |some i=>
   simp only[Qaw,zC];exact r.recs x i h
  |none=>
   simp only[QaZ];cases hu:inU U x
   ·simp[VR]
   ·have:=r.env x hu h;simp only[cond,zw] at this ⊢;cases hg:(QA (jK x)).run t<;>rw[hg] at this<;>exact this
 |const v=>exact uS ι v
 |global g=>simp[jQ,VR]
 |func f=>simp only[jQ,VR,Act.eval];exact⟨#[],rfl,by simp[VRs]⟩
theorem Rel.mono (r:Rel ι U N t ns rs st a w){ι':Inj}(h:Le ι ι'){st':St}{w':World}(hs:Sim ι' st'.h st'.nx w')(hf:st'.fr=st.fr):Rel ι' U N t ns rs st' a w':=
 ⟨hs,r.size,λx hu hx=>VR.mono h _ _ (r.env x hu hx),λx i hx=>VR.mono h _ _ (r.recs x i hx),r.len,by rw[hf];exact DRs.mono h _ _ r.ds⟩
theorem VZ (a:Act)(d:Nat)(v:Value)(x:Nat)(hd:d<a.tmps.size):(a.put (some d) v).tmps.getD x undef=if d=x then v else a.tmps.getD x undef:=by
 simp only[Act.put,QbQ,Array.getElem?_setIfInBounds];by_cases h:d=x
 ·subst h;simp[hd]
 ·simp[h]
theorem jaY (a:Act)(d:Option Nat)(v:Value):(a.put d v).tmps.size=a.tmps.size:=by
 cases d<;>simp[Act.put]
theorem kY (a:Act)(d:Option Nat)(v:Value):(a.put d v).defers=a.defers:=by cases d<;>rfl
theorem Rel.put (r:Rel ι U N t ns rs st a w){d:Option Nat}(hd:∀ x,d=some x->x<N){v:AV}{y:Value}(hv:VR ι v y) :
  Rel ι U N t (qv d ns) ((yM d).run v rs) st (a.put d y) w:=by
 cases d with
 |none=>exact r
 |some d=>
  have hlt:d<a.tmps.size:=Qat (hd d rfl) r.size;refine⟨r.sim,by rw[jaY];exact r.size,λx hu hx=>?_,λx i hx=>?_,by simp[qv,yM,r.len],by rw[kY];exact r.ds⟩
  ·rw[VZ a d y x hlt];simp only[qv,idx] at hx;split at hx
   ·cases hx
   ·rename_i hne;rw[if_neg hne];exact r.env x hu (by simpa using hx)
  ·rw[VZ a d y x hlt];simp only[qv,idx] at hx;split at hx
   ·rename_i he;rw[if_pos he];simp only[Option.some.injEq] at hx;subst hx;exact hv
   ·rename_i hne;rw[if_neg hne,QbA] at *;obtain⟨j,hj,rfl⟩:=hx;exact r.recs x j hj
theorem Vk (U:Nat):∀ (ns:List Nat) (rs:List AV) (t:T AV),ns.length=rs.length->∀ x,inU U x=true->
  zw ((zP U ns).run rs t) x=match idx x ns with|some i=>rs.getD i .bad|none=>zw t x
 |[],rs,t,_,x,_=>rfl
 |n :: ns,[],t,h,x,_=>by simp at h
 |n :: ns,v :: rs,t,h,x,hx=>by
  have ih:=Vk U ns rs t (by simpa using h) x hx;have e:(zP U (n :: ns)).run (v :: rs) t=cond (inU U n) ((j1 (jK n)).run v ((zP U ns).run rs t)) ((zP U ns).run rs t):=by
   show(LF.run (cond (inU U n) _ _)) _ _=_;cases inU U n<;>rfl
  rw[e];simp only[idx];by_cases hn:n=x
  ·subst hn;rw[hx,if_pos rfl];simp only[cond,zw,Yd,if_true,QaH];rfl
  ·rw[if_neg hn];have h2:zw (cond (inU U n) ((j1 (jK n)).run v ((zP U ns).run rs t)) ((zP U ns).run rs t)) x=zw ((zP U ns).run rs t) x:=by
    cases inU U n
    ·rfl
    ·simp only[cond,zw,Yd,if_neg (λe=>hn e.symm:¬ x=n)]
   rw[h2,ih];cases idx x ns<;>rfl
theorem Rel.flush (r:Rel ι U N t ns rs st a w):Rel ι U N ((zP U ns).run rs t) [] [] st a w:=by
 refine⟨r.sim,r.size,λx hu _=>?_,λx i hx=>by simp[idx] at hx,rfl,r.ds⟩;rw[Vk U ns rs t r.len x hu];cases h:idx x ns with
 |none=>exact r.env x hu h
 |some i=>exact r.recs x i h
def wpO (P:Program)(ops:Array Oper)(Q:Exit->Act->World->Prop):List Nat->Act->World->Prop
 |[],a,w=>Q .normal a w
 |i :: rest,a,w=>
  match ops[i]? with
  |none=>wpO P ops Q rest a w
  |some o=>if Region.wanted o (yielded ops a.tmps) then o.wp P a w (wpO P ops Q rest) Q else wpO P ops Q rest (a.put o.dst undef) w
theorem uX {ops:Array Oper}{Q:Exit->Act->World->Prop}:∀ (l:List Nat) (a:Act) (w:World),wpO P ops Q l a w->wpOps P ops Q l a w
 |[],a,w,h=>h
 |i :: l,a,w,h=>by
  simp only[wpO] at h;simp only[wpOps];split
  ·rename_i ho;rw[ho] at h;exact uX l a w h
  ·rename_i o ho;simp only[ho] at h;split
   ·rename_i hw;simp only[hw,if_true] at h;exact .inl (Oper.wp_mono (λa w=>uX l a w) h)
   ·rename_i hw;simp only[hw,if_false] at h;exact uX l _ w h
def Enters (P : Program) (f : FuncId) : Prop := ∃ fn, P.funcs[f]? = some fn ∧ fn.body.isSome = true ∧ (fn.name == "runtime.NumGoroutine") = false
def Jf (ι:Inj)(w:World)(st st':St)(v:AV)(x:Value)(w':World):Prop:=
 ∃ ι',Le ι ι'/\VR ι' v x/\Sim ι' st'.h st'.nx w'/\Grew ι w ι' w'/\Cleanly ι ι' st st'
def Jq (P:Program)(call:qF):Prop:=
 ∀ (f:FuncId) (args:List AV) (st:St) (ι:Inj) (w:World) (vs:Array Value),Sim ι st.h st.nx w->VRs ι args vs.toList->
  match call f args st with
  |.no=>True
  |.ok v st'=>Enters P f/\Calls P f vs w λe w'=>∃ x,e=.returned x/\Jf ι w st st' v x w'
  |.pn v st'=>Enters P f/\Calls P f vs w λe w'=>∃ x,e=.panicked [{ v:=x,recovered:=false }]/\Jf ι w st st' v x w'
def Post (ι:Inj)(U N:Nat)(w:World)(st:St)(r:R)(Q:Exit->Act->World->Prop):Prop:=
 match r with
 |.no=>False
 |.go t' st'=>∀ ι' a' w',Le ι ι'->Rel ι' U N t' [] [] st' a' w'->Grew ι w ι' w'->Cleanly ι ι' st st'->Q .normal a' w'
 |.ex id t' st'=>∀ ι' a' w',Le ι ι'->Rel ι' U N t' [] [] st' a' w'->Grew ι w ι' w'->Cleanly ι ι' st st'->Q (.exit id) a' w'
 |.rt t' st'=>∀ ι' a' w',Le ι ι'->Rel ι' U N t' [] [] st' a' w'->Grew ι w ι' w'->Cleanly ι ι' st st'->Q .ret a' w'
 |.pn v t' st'=>∀ ι' a' w' x,Le ι ι'->Rel ι' U N t' [] [] st' a' w'->Grew ι w ι' w'->Cleanly ι ι' st st'->VR ι' v x->Q (.panic [{ v:=x,recovered:=false }]) a' w'
theorem Post.step {ι':Inj}{w':World}{st':St}{r:R}{Q:Exit->Act->World->Prop}(hl:Le ι ι')(hg:Grew ι w ι' w')(hc:Cleanly ι ι' st st')(h:Post ι U N w st r Q):Post ι' U N w' st' r Q:=by
 cases r with
 |no=>exact h
 |go t s=>exact λι2 a2 w2 l2 r2 g2 c2=>h ι2 a2 w2 (hl.trans l2) r2 (hg.trans g2) (hc.trans c2)
 |ex i t s=>exact λι2 a2 w2 l2 r2 g2 c2=>h ι2 a2 w2 (hl.trans l2) r2 (hg.trans g2) (hc.trans c2)
 |rt t s=>exact λι2 a2 w2 l2 r2 g2 c2=>h ι2 a2 w2 (hl.trans l2) r2 (hg.trans g2) (hc.trans c2)
 |pn v t s=>exact λι2 a2 w2 x l2 r2 g2 c2 hv=>h ι2 a2 w2 x (hl.trans l2) r2 (hg.trans g2) (hc.trans c2) hv
theorem WJ {o:Oper}{c:Call}{ff:Operand}(ho:o.op=.call c)(hc:c.callee=.value ff){f:FuncId}{cv:Array Value}(hf:a.eval ff=.func (.func f) #[] cv)(he:Enters P f) :
  (execOp a.eval o).run P w=.ok (.enter f ((c.args.map a.eval) ++ cv)) w:=by
 obtain⟨fn,h1,h2,h3⟩:=he;have h2':fn.body.isNone=false:=by cases hb:fn.body<;>simp[hb] at h2 ⊢
 simp only[execOp,ho,resolve,hc,hf,Deferred.ofValue,Sem.run_bind,Sem.run_pure,Result.andThen_ok,invoke,callFunc,run_program,h1,h3,h2'];simp
theorem jhL {o:Oper}{c:Call}{ff:Operand}(ho:o.op=.defer c)(hc:c.callee=.value ff){f:FuncId}{cv:Array Value}(hf:a.eval ff=.func (.func f) #[] cv) :
  (execOp a.eval o).run P w=.ok (.defer { target:=.fn (.func f) cv,args:=c.args.map a.eval }) w:=by
 simp only[execOp,ho,resolve,hc,hf,Deferred.ofValue,Sem.run_bind,Sem.run_pure,Result.andThen_ok];simp
theorem jmk {call:qF}(hcall:Jq P call)(r:Rel ι U N t ns rs st a w){o:Oper}(hd:∀ x,o.dst=some x->x<N){next:RF}{n:Nat}{K:Act->World->Prop}{Q:Exit->Act->World->Prop}
  (hp:Post ι U N w st ((Za P (jQ U ns) (zP U ns) o next).run call n t rs st) Q)
  (hk:∀ ι' rs' st' a' w',Le ι ι'->Grew ι w ι' w'->Cleanly ι ι' st st'->Rel ι' U N t (qv o.dst ns) rs' st' a' w'->
   Post ι' U N w' st' (next.run call n t rs' st') Q->K a' w') :
  o.wp P a w K Q:=by
 unfold Za at hp;unfold Oper.wp;split at hp
 ·
  rename_i f args hco;have hcs:∃ c,o.op=.call c/\c.callee=.value f/\args=c.args.toList:=by
   unfold qu at hco;split at hco
   ·rename_i c hoc;split at hco
    ·rename_i f' hf';cases hco;exact⟨c,hoc,hf',rfl⟩
    ·cases hco
   ·cases hco
  obtain⟨c,hoc,hcf,rfl⟩:=hcs;have hvf:=r.opd f;try dsimp only at hp
  generalize hfv:(jQ U ns f).run ⟨t,rs⟩=fv at hp hvf;cases fv<;>try(exact hp.elim)
  rename_i fid caps;simp only[VR] at hvf;obtain⟨cv,hcv,hcaps⟩:=hvf;simp only[yv,yE] at hp;have hargs:VRs ι (c.args.toList.map (λx=>(jQ U ns x).run ⟨t,rs⟩) ++ caps) ((c.args.map a.eval) ++ cv).toList:=by
   rw[QbZ,Qbn];exact(VRs.map_of _ λx _=>r.opd x).append hcaps
  have hC:=hcall fid _ st ι w ((c.args.map a.eval) ++ cv) r.sim hargs;generalize call fid (c.args.toList.map (λx=>(jQ U ns x).run ⟨t,rs⟩) ++ caps) st=er at hp hC;cases er with
  |no=>exact hp.elim
  |ok v st'=>
   obtain⟨hen,hcs⟩:=hC;rw[WJ hoc hcf hcv hen];simp only[Oper.upon];refine Calls.mono hcs λe w' he=>?_;obtain⟨x,rfl,ι',hl,hv,hs,hg,hcl⟩:=he;have hcl':Cleanly ι ι' st (back st st'):=⟨hcl.nx,hcl.dirty,hcl.keep,hcl.above,hcl.u,hcl.le,hcl.n⟩;have r':=(r.mono hl (st':=back st st') hs rfl).put hd hv;exact hk ι' _ _ _ _ hl hg hcl' r' (Post.step hl hg hcl' hp)
  |pn v st'=>
   obtain⟨hen,hcs⟩:=hC;rw[WJ hoc hcf hcv hen];simp only[Oper.upon];refine Calls.mono hcs λe w' he=>?_;obtain⟨x,rfl,ι',hl,hv,hs,hg,hcl⟩:=he;have hcl':Cleanly ι ι' st (back st st'):=⟨hcl.nx,hcl.dirty,hcl.keep,hcl.above,hcl.u,hcl.le,hcl.n⟩;have r':=(r.mono hl (st':=back st st') hs rfl).flush;exact hp ι' _ _ x hl r' hg hcl' hv
 ·rename_i hco;try dsimp only at hp
  cases hcalm:vu o.op
  ·
   cases ho:o.op<;>rw[ho] at hcalm hp hco<;>simp only[vu] at hcalm<;>try(cases hcalm;done)
   case call c=>
    exfalso;simp only[jy] at hp;split at hcalm
    ·rename_i b hb;simp only[hb] at hp;cases b<;>simp only[HT] at hcalm<;>try(cases hcalm;done)
     have:qE P .recover c.argTypes (ye (jQ U ns) c.args.toList)=NOE:=by
      unfold qE;split<;>first|rfl|contradiction|simp_all
     rw[this] at hp;exact hp
    ·rename_i hnb;cases hcc:c.callee with
     |builtin b=>exact hnb b hcc
     |value f=>simp[qu,hcc] at hco
     |invoke r m=>rw[hcc] at hp;exact hp
   case defer c=>
    simp only[jy] at hp;cases hf:c.callee<;>rw[hf] at hp<;>try(exact hp.elim)
    ·rename_i f;have hvf:=r.opd f;try dsimp only at hp
     generalize hfv:(jQ U ns f).run ⟨t,rs⟩=fv at hp hvf;cases fv<;>try(exact hp.elim)
     rename_i fid caps;simp only[VR] at hvf;obtain⟨cv,hcv,hcaps⟩:=hvf;rw[jhL ho hf hcv];simp only[Oper.upon];simp only[yv,yE] at hp;have hargs:VRs ι (c.args.toList.map (λx=>(jQ U ns x).run ⟨t,rs⟩) ++ caps) ((c.args.map a.eval) ++ cv).toList:=by
      rw[QbZ,Qbn];exact(VRs.map_of _ λx _=>r.opd x).append hcaps
     have hcl:Cleanly ι ι st ⟨st.nx,st.h,st.dirty,Qal (fid,c.args.toList.map (λx=>(jQ U ns x).run ⟨t,rs⟩) ++ caps) st.fr⟩:=⟨μ _,μ _,λ_ _ _=>rfl,λ_ _=>rfl,λ_ _ h=>h,λ_ h=>h,λ_ h1 h2=>absurd h2 (Nat.not_lt.2 h1)⟩;have r1:Rel ι U N t ns rs ⟨st.nx,st.h,st.dirty,Qal (fid,c.args.toList.map (λx=>(jQ U ns x).run ⟨t,rs⟩) ++ caps) st.fr⟩
       { a with defers:={ target:=.fn (.func fid) cv,args:=c.args.map a.eval } :: a.defers } w:=
      ⟨r.sim,r.size,r.env,r.recs,r.len,by simp only[DRs];exact⟨cv,_,_,rfl,hargs,r.ds⟩⟩
     exact hk ι _ _ _ _ (Le.refl ι) (Grew.refl ι w) hcl (r1.put hd (wU ι)) (Post.step (Le.refl ι) (Grew.refl ι w) hcl hp)
  ·have hres:=jdt (P:=P) (ρ:=a.eval) (op:=jQ U ns) (env:=⟨t,rs⟩) hcalm r.sim (λx _=>r.opd x);generalize (jy P (jQ U ns) o.op).run ⟨t,rs⟩ st=er at hp hres;cases er with
   |no=>exact hp.elim
   |ok v st'=>
    obtain⟨ι',x,w',hr,hl,hv,hs,hg,hcl,hfr⟩:=hres;have r':=(r.mono hl hs hfr).put hd hv;rcases hr with hr|⟨hr,rfl⟩
    ·rw[hr];exact hk ι' _ _ _ _ hl hg hcl r' (Post.step hl hg hcl hp)
    ·rw[hr];exact hk ι' _ _ _ _ hl hg hcl r' (Post.step hl hg hcl hp)
   |pn v st'=>
    obtain⟨rfl,x,hr,hv⟩:=hres;rw[hr];exact hp ι a w x (Le.refl ι) r.flush (Grew.refl ι w) (Cleanly.refl ι st') hv
end
section
variable {P:Program} {ι:Inj} {w:World} {st:St} {U N:Nat} {t:T AV} {ns:List Nat} {rs:List AV} {a:Act}
theorem jc8 {v:AV}{x:Value}(h:VR ι v x)(h1:∀ b,v≠.bool b)(h2:v≠.bad)(b:Bool):x≠.bool b:=by
 intro e;subst e;cases v<;>simp only[VR] at h;case bool c=>exact h1 c rfl
 case bad=>exact h2 rfl
 case lptr=>obtain⟨_,_,_,h,_⟩:=h;cases h
 all_goals
  first
  |(cases h;done)
  |(obtain⟨_,h,_⟩:=h;cases h;done)
  |(obtain⟨_,_,h,_⟩:=h;cases h;done)
  |(obtain⟨_,_,_,_,h,_⟩:=h;cases h;done)
theorem jfT (r:Rel ι U N t ns rs st a w)(ops:Array Oper)(o:Oper) :
  match yf (jQ U ns) ops o with
  |none=>Region.wanted o (yielded ops a.tmps)=true
  |some wf=>∀ b,wf.run ⟨t,rs⟩=some b->Region.wanted o (yielded ops a.tmps)=b:=by
 unfold yf Region.wanted;cases hg:o.guard with
 |none=>rfl
 |some jw=>
  obtain⟨j,want⟩:=jw;simp only;cases hd:(ops[j]?).bind (·.dst) with
  |none=>simp
  |some d=>
   simp only;intro b hb;have hv:=r.opd (.tmp d);simp only[Act.eval] at hv;generalize (jQ U ns (.tmp d)).run ⟨t,rs⟩=v at hb hv;have hy:yielded ops a.tmps j=match a.tmps[d]? with|some (.bool b)=>some b|_=>none:=by
    unfold yielded;rw[hd];rfl
   rw[hy];have jx:a.tmps.getD d undef=(a.tmps[d]?).getD undef:=by simp[QbQ]
   rw[jx] at hv;split at hb
   ·rename_i c;simp only[Option.some.injEq] at hb;simp only[VR] at hv;cases hq:a.tmps[d]? with
    |none=>rw[hq] at hv;simp[undef] at hv
    |some x=>
     rw[hq] at hv;simp only[QaH] at hv;subst hv;simp only;subst hb;cases c<;>cases want<;>rfl
   ·cases hb
   ·rename_i h1 h2;simp only[Option.some.injEq] at hb;subst hb;have hn:=jc8 hv (λb e=>h1 b e) (λe=>h2 e);cases hq:a.tmps[d]? with
    |none=>rfl
    |some x=>
     rw[hq] at hn;simp only[QaH] at hn;cases x<;>first|rfl|(exact absurd rfl (hn _))
theorem Vy (U:Nat)(ops:Array Oper)(o:Oper)(l:List Oper)(ns:List Nat) :
 yX P U ops (o :: l) ns=Vg (yf (jQ U ns) ops o) o.dst (Za P (jQ U ns) (zP U ns) o (yX P U ops l (qv o.dst ns))) (yX P U ops l (qv o.dst ns)):=rfl
theorem Ka {call:qF}(hcall:Jq P call){n:Nat}(ops:Array Oper){Q:Exit->Act->World->Prop}:∀ (l:List Oper) (il:List Nat),il.map (λi=>ops[i]?)=l.map some->(∀ o∈l,∀ x,o.dst=some x->x<N)->
  ∀ (ι:Inj) (ns:List Nat) (t:T AV) (rs:List AV) (st:St) (a:Act) (w:World),Rel ι U N t ns rs st a w->Post ι U N w st ((yX P U ops l ns).run call n t rs st) Q->wpO P ops Q il a w
 |[],il,hil,_,ι,ns,t,rs,st,a,w,r,hp=>by
  have:il=[]:=by simpa using hil
  subst this;exact hp ι a w (Le.refl ι) r.flush (Grew.refl ι w) (Cleanly.refl ι st)
 |o :: l,[],hil,_,ι,ns,t,rs,st,a,w,r,hp=>by simp at hil
 |o :: l,i :: il,hil,hd,ι,ns,t,rs,st,a,w,r,hp=>by
  simp only[ζ,List.cons.injEq] at hil;obtain⟨hi,hil⟩:=hil;have ih:=Ka (Q:=Q) hcall (n:=n) ops l il hil (λo ho=>hd o (by simp[ho]));rw[Vy] at hp;simp only[wpO,hi];have hw:=jfT r ops o;have hstep:Post ι U N w st ((Za P (jQ U ns) (zP U ns) o (yX P U ops l (qv o.dst ns))).run call n t rs st) Q->o.wp P a w (wpO P ops Q il) Q:=λhp=>
   jmk hcall r (hd o (by simp)) hp λι' rs' st' a' w' _ _ _ r' hp'=>ih ι' _ t rs' st' a' w' r' hp'
  unfold Vg at hp;generalize yf (jQ U ns) ops o=wf at hp hw;cases wf with
  |none=>
   simp only at hw;rw[if_pos hw];exact hstep hp
  |some wf=>
   simp only at hw;try dsimp only at hp
   cases hb:wf.run ⟨t,rs⟩ with
   |none=>rw[hb] at hp;exact hp.elim
   |some b=>
    rw[hb] at hp;have hwb:=hw b hb;cases b
    ·rw[if_neg (by rw[hwb];simp)];exact ih ι _ t _ st _ w (r.put (hd o (by simp)) (wU ι)) hp
    ·rw[if_pos hwb];exact hstep hp
theorem jfS {c:Code}{Q:Exit->Act->World->Prop}(J:Nat->Act->World->Prop)(hz:∀ a w,¬ J 0 a w)
  (round:∀ k a w,J (k+1) a w->c.wp P (Exit.then (λa' w'=>J k a' w') Q) a w) {k0:Nat} (h:J k0 a w):(Code.loop c).wp P Q a w:=by
 intro b k cs;have key:∀ n a w,J n a w->∃ e a' w',Q e a' w'/\Arrives P (lone (b.at a (.code c :: .inLoop c :: k)) cs w) b k cs e a' w':=by
  intro n;induction n with
  |zero=>intro a w hJ;exact absurd hJ (hz a w)
  |succ n ih=>
   intro a w hJ;obtain⟨e,a₁,w₁,hq,harr⟩:=round n a w hJ b (.inLoop c :: k) cs;cases e with
   |normal=>
    obtain⟨e₂,a₂,w₂,hq₂,harr₂⟩:=ih a₁ w₁ hq;exact⟨e₂,a₂,w₂,hq₂,.of_steps (Steps.trans harr (.one step_inLoop)) harr₂⟩
   |exit id=>exact⟨_,a₁,w₁,hq,.pass (x:=.inLoop c) rfl (λ_ _=>.inl (by simp)) harr⟩
   |goto l=>exact⟨_,a₁,w₁,hq,.pass (x:=.inLoop c) rfl (λ_ _=>.inl (by simp)) harr⟩
   |ret=>exact⟨_,a₁,w₁,hq,.pass (x:=.inLoop c) rfl (λ_ _=>.inl (by simp)) harr⟩
   |panic ch=>exact⟨_,a₁,w₁,hq,.pass (x:=.inLoop c) rfl (λ_ _=>.inl (by simp)) harr⟩
   |outgrown=>exact⟨_,a₁,w₁,hq,.pass (x:=.inLoop c) rfl (λ_ _=>.inl (by simp)) harr⟩
 obtain⟨e,a',w',hq,harr⟩:=key _ a w h;exact⟨e,a',w',hq,.of_steps (.one step_loop) harr⟩
def YM (P:Program):Prop:=
 ∀ (call:qF),Jq P call->∀ (n:Nat) (U N:Nat) (ops:Array Oper),Ji P ops=true->(∀ o∈ops.toList,∀ x,o.dst=some x->x<N)->
  ∀ (ι:Inj) (t:T AV) (st:St) (a:Act) (w:World) (Q:Exit->Act->World->Prop) (id:Nat),Rel ι U N t [] [] st a w->Post ι U N w st ((wj P U ops).run call n t [] [] st) Q->(Code.region id ops true).wp P Q a w
theorem jbu {α:Type}(p:α->Bool)(l:List α):Kt p l=l.all p:=by
 induction l with
 |nil=>rfl
 |cons a l ih=>show cond (p a) (Kt p l) false=_;rw[ih];cases h:p a<;>simp[h]
theorem uj {id:Nat}{ops:Array Oper}{d:Bool}(h:Q0 N (.region id ops d)=true):∀ o∈ops.toList,∀ x,o.dst=some x->x<N:=by
 change Kt _ ops.toList=true at h;rw[jbu,Qae] at h;intro o ho x hx;have:=h o ho;rw[hx] at this;simp only at this;rw[qg] at this;exact this
theorem jgD (ops:Array Oper):(Qab ops.size).map (λi=>ops[i]?)=ops.toList.map some:=by
 apply Qbh
 ·simp
 ·intro i h1 h2;simp at h1;simp[h1]
theorem qL {a b:Bool}(h:cond a b false=true):a=true/\b=true:=by
 cases a
 ·cases h
 ·exact⟨rfl,h⟩
theorem jdB {call:qF}(hcall:Jq P call)(hdraw:YM P){n:Nat}:∀ (c:Code),Q0 N c=true->∀ (ι:Inj) (t:T AV) (st:St) (a:Act) (w:World) (Q:Exit->Act->World->Prop),
  Rel ι U N t [] [] st a w->Post ι U N w st ((comp P U c).run call n t st) Q->c.wp P Q a w:=by
 intro c;induction c with
 |skip=>exact λ_ ι t st a w Q r hp=>wp_skip (hp ι a w (Le.refl ι) r (Grew.refl ι w) (Cleanly.refl ι st))
 |region id ops d=>
  intro hd ι t st a w Q r hp;have hdst:=uj hd;cases d with
  |false=>
   refine wp_region (uX _ _ _ ?_);exact Ka hcall (n:=n) ops ops.toList (Qab ops.size) (jgD ops) hdst ι [] t [] st a w r hp
  |true=>
   change Post ι U N w st ((cond (Ji P ops) (⟨λcall n t st=>(wj P U ops).run call n t [] [] st⟩:CF) NOC).run call n t st) Q at hp;cases ho:Ji P ops
   ·rw[ho] at hp;exact hp.elim
   ·rw[ho] at hp;exact hdraw call hcall n U N ops ho hdst ι t st a w Q id r hp
 |seq x y ihx ihy=>
  intro hd ι t st a w Q r hp;obtain⟨hdx,hdy⟩:=qL (show cond (Q0 N x) (Q0 N y) false=true from hd);change Post ι U N w st (match (comp P U x).run call n t st with | .go env st=>(comp P U y).run call n env st|r=>r) Q at hp;refine wp_seq (ihx hdx ι t st a w _ r ?_);generalize (comp P U x).run call n t st=rx at hp;cases rx with
  |no=>exact hp
  |go t' st'=>exact λι' a' w' hl r' hg hc=>ihy hdy ι' t' st' a' w' Q r' (Post.step hl hg hc hp)
  |ex i t' st'=>exact hp
  |rt t' st'=>exact hp
  |pn v t' st'=>exact hp
 |cond x a1 b1 iha ihb=>
  intro hd ι t st a w Q r hp;obtain⟨hda,hdb⟩:=qL (show cond (Q0 N a1) (Q0 N b1) false=true from hd);change Post ι U N w st (match (jQ U [] x).run ⟨t,[]⟩ with | .bool q=>_root_.cond q ((comp P U a1).run call n t st) ((comp P U b1).run call n t st)|_=>.no) Q at hp;have hv:=r.opd x;generalize (jQ U [] x).run ⟨t,[]⟩=v at hp hv;cases v<;>try(exact hp.elim)
  rename_i q;simp only[VR] at hv;refine wp_cond hv ?_;cases q
  ·exact ihb hdb ι t st a w Q r hp
  ·exact iha hda ι t st a w Q r hp
 |block id x ih=>
  intro hd ι t st a w Q r hp;change Post ι U N w st (match (comp P U x).run call n t st with | .ex id' env st=>_root_.cond (Qci id' id) (.go env st) (.ex id' env st)|r=>r) Q at hp;refine wp_block (ih hd ι t st a w _ r ?_);generalize (comp P U x).run call n t st=rx at hp;cases rx with
  |no=>exact hp
  |go t' st'=>exact hp
  |ex i t' st'=>
   intro ι' a' w' hl r' hg hc;simp only at hp;cases hb:Qci i id
   ·rw[hb] at hp;have hne:¬ i=id:=λe=>by rw[<-qH,hb] at e;cases e
    simp only[Exit.inBlock,if_neg hne];exact hp ι' a' w' hl r' hg hc
   ·rw[hb] at hp;rw[qH] at hb;simp only[Exit.inBlock,if_pos hb];exact hp ι' a' w' hl r' hg hc
  |rt t' st'=>exact hp
  |pn v t' st'=>exact hp
 |loop x ih=>
  intro hd ι t st a w Q r hp;change Post ι U N w st (vO (comp P U x) call n n t st) Q at hp;refine jfS (λk a w=>∃ ι t st,Rel ι U N t [] [] st a w/\Post ι U N w st (vO (comp P U x) call n k t st) Q) (λa w h=>?_) (λk a w h=>?_) ⟨ι,t,st,r,hp⟩
  ·obtain⟨ι,t,st,r,hp⟩:=h;exact hp
  ·obtain⟨ι,t,st,r,hp⟩:=h;refine ih hd ι t st a w _ r ?_;change Post ι U N w st (match (comp P U x).run call n t st with | .go env st=>vO (comp P U x) call n k env st|r=>r) Q at hp;generalize (comp P U x).run call n t st=rx at hp;cases rx with
   |no=>exact hp
   |go t' st'=>exact λι' a' w' hl r' hg hc=>⟨ι',t',st',r',Post.step hl hg hc hp⟩
   |ex i t' st'=>exact hp
   |rt t' st'=>exact hp
   |pn v t' st'=>exact hp
 |rangeFunc f ps a1 b1=>exact λ_ ι t st a w Q r hp=>hp.elim
 |exit id=>exact λ_ ι t st a w Q r hp=>wp_exit (hp ι a w (Le.refl ι) r (Grew.refl ι w) (Cleanly.refl ι st))
 |scope x=>exact λ_ ι t st a w Q r hp=>hp.elim
 |label l=>exact λ_ ι t st a w Q r hp=>hp.elim
 |goto l=>exact λ_ ι t st a w Q r hp=>hp.elim
 |ret=>exact λ_ ι t st a w Q r hp=>wp_ret (hp ι a w (Le.refl ι) r (Grew.refl ι w) (Cleanly.refl ι st))
 |_=>exact λ_ ι t st a w Q r hp=>hp.elim
end
section
variable {P:Program} {ι:Inj} {w:World} {st:St} {U N:Nat} {t:T AV} {a:Act}
def kV (tmps:Array Value):ResultVar->Sem Value
 |.tmp t=>pure (tmps.getD t undef)
 |.cell b t=>do loadVar t (<-asAddr (tmps.getD b undef))
theorem jet {r:ResultVar}(h:Rel ι U N t [] [] st a w){v:AV}(hv:(Qv P U r).run ⟨t,[]⟩ st=some v) :
  ∃ x,(kV a.tmps r).run P w=.ok x w/\VR ι v x:=by
 cases r with
 |tmp x=>
  simp only[Qv,Option.some.injEq] at hv;subst hv;exact⟨a.tmps.getD x undef,by simp[kV],h.opd (.tmp x)⟩
 |cell b ty=>
  simp only[Qv] at hv;have hop:=h.opd (.tmp b);obtain⟨x,hx,hvx⟩:=jdd h.sim hop hv;refine⟨x,?_,hvx⟩;have hptr:(∃ bb o,(jQ U [] (.tmp b)).run ⟨t,[]⟩=.ptr bb o)\/∃ cs o,(jQ U [] (.tmp b)).run ⟨t,[]⟩=.lptr cs o:=by
   generalize (jQ U [] (.tmp b)).run ⟨t,[]⟩=q at hv;unfold qQ at hv;split at hv
   ·cases q<;>first|(cases hv;done)|exact .inl ⟨_,_,rfl⟩|exact .inr ⟨_,_,rfl⟩
   ·cases q<;>first|(cases hv;done)|exact .inl ⟨_,_,rfl⟩|exact .inr ⟨_,_,rfl⟩
   ·cases hv
  obtain⟨ad,had⟩:∃ ad,a.eval (.tmp b)=.pointer (some ad):=by
   rcases hptr with ⟨bb,o,hp⟩|⟨cs,o,hp⟩<;>(rw[hp] at hop;simp only[VR] at hop)
   ·obtain⟨_,ad,had,_⟩:=hop;exact⟨ad,had⟩
   ·obtain⟨_,_,_,had,_⟩:=hop;exact⟨_,had⟩
  simp only[Act.eval] at had hx;rw[had] at hx;simp only[Instr.loadAt,Instr.sureAddr,Sem.run_bind,Sem.run_pure,Result.andThen_ok] at hx;simp only[kV,had,asAddr,Sem.run_bind,Sem.run_pure,Result.andThen_ok];exact hx
theorem W5 (h:Rel ι U N t [] [] st a w):∀ (l:List ResultVar) (vs:List AV),yA P U l ⟨t,[]⟩ st=some vs->
  ∃ xs:List Value,(l.mapM (kV a.tmps)).run P w=.ok xs w/\VRs ι vs xs
 |[],vs,hv=>by
  have:some ([]:List AV)=some vs:=hv;cases this;exact⟨[],by simp,by simp[VRs]⟩
 |r :: l,vs,hv=>by
  change (match (Qv P U r).run ⟨t,[]⟩ st,yA P U l ⟨t,[]⟩ st with|some v,some vs=>some (Qal v vs)|_,_=>none)=some vs at hv;cases h1:(Qv P U r).run ⟨t,[]⟩ st with
  |none=>rw[h1] at hv;cases hv
  |some v=>
   cases h2:yA P U l ⟨t,[]⟩ st with
   |none=>rw[h1,h2] at hv;cases hv
   |some vs'=>
    rw[h1,h2] at hv;simp only[Option.some.injEq] at hv;subst hv;obtain⟨x,hx,hvx⟩:=jet h h1;obtain⟨xs,hxs,hvxs⟩:=W5 h l vs' h2;refine⟨x :: xs,?_,by simp only[VRs];exact⟨x,xs,rfl,hvx,hvxs⟩⟩;rw[List.mapM_cons];simp only[Sem.run_bind,hx,hxs,Result.andThen_ok,Sem.run_pure]
theorem jcq (fn:Func)(tmps:Array Value):results fn tmps=(do let vs <-fn.results.mapM (kV tmps);pure (if h:vs.size=1 then vs[0] else .tuple vs)):=by
 unfold results
 congr 2
theorem kU (h:Rel ι U N t [] [] st a w){fn:Func}{vs:List AV}(hv:yA P U fn.results.toList ⟨t,[]⟩ st=some vs) :
  ∃ x,(results fn a.tmps).run P w=.ok x w/\VR ι (zq vs) x:=by
 obtain⟨xs,hxs,hvxs⟩:=W5 h _ _ hv;refine⟨if h:xs.toArray.size=1 then xs.toArray[0] else .tuple xs.toArray,?_,?_⟩
 ·rw[jcq,Array.mapM_eq_mapM_toList];simp only[Sem.run_bind,Sem.run_map];rw[hxs];simp
 ·unfold zq;split
  ·rename_i v;simp only[VRs] at hvxs;obtain⟨x,xs',rfl,hx,rfl⟩:=hvxs;simpa using hx
  ·rename_i vs' hne;have hl:=hvxs.length;have:¬ xs.toArray.size=1:=by
    intro e;rw[List.size_toArray,hl] at e
    match vs,e with
    |[v],_=>exact hne v rfl
   rw[dif_neg this];simp only[VR];exact⟨_,rfl,by simpa using hvxs⟩
theorem ZG:∀ (l:List AV) (i:Nat) (t:T AV) (x:Nat),zw (zV l i t) x=if i<=x/\x<i+l.length then l.getD (x - i) .bad else zw t x
 |[],i,t,x=>by
  have:¬ (i<=x/\x<i+([]:List AV).length):=by simp
  rw[if_neg this];rfl
 |v :: l,i,t,x=>by
  have e:zV (v :: l) i t=zV l (i+1) ((j1 (jK i)).run v t):=rfl;rw[e,ZG l (i+1)];by_cases h:x=i
  ·subst h;rw[if_neg om,if_pos (by simp)];simp[zw,Yd]
  ·by_cases h2:i+1<=x/\x<i+1+l.length
   ·rw[if_pos h2,if_pos (by simp;omega)];obtain⟨k,hk⟩:∃ k,x - i=k+1:=⟨x - i - 1,om⟩;have hk':x - (i+1)=k:=om
    rw[hk,hk'];simp
   ·rw[if_neg h2,if_neg (by simp;omega)];simp only[zw,Yd,if_neg h]
theorem Hd {args:List AV}{vs:Array Value}(hs:Sim ι st.h st.nx w)(hargs:VRs ι args vs.toList)(hfr:st.fr=[]) :
  Rel ι U N (zV args 0 .e) [] [] st { tmps:=vs ++ QaF (N - vs.size) undef,defers:=[] } w:=by
 have hl:=hargs.length;rw[Qak] at hl;refine⟨hs,by simp;omega,λx hu _=>?_,λx i hx=>by simp[idx] at hx,rfl,by rw[hfr];simp[DRs]⟩;rw[ZG];by_cases h:0<=x/\x<0+args.length
 ·rw[if_pos h,QaG];have hx:x<vs.size:=om
  have:=hargs.get x om;have e:(vs ++ QaF (N - vs.size) undef).getD x undef=vs.toList.getD x undef:=by
   simp[QbQ,Array.getElem?_append,hx,ω]
  rw[e];exact this
 ·rw[if_neg h];have hx:¬ x<vs.size:=om
  have e:(vs ++ QaF (N - vs.size) undef).getD x undef=undef:=by
   simp only[QbQ,Array.getElem?_append,if_neg hx];by_cases h2:x - vs.size<N - vs.size
   ·simp[h2]
   ·simp[h2]
  have e2:zw (.e:T AV) x=qd:=by simp[zw,Xe]
  rw[e,e2];exact wU ι
def MdR (ι:Inj):Md->FrameMode->Prop
 |.calm,u=>u=.returning
 |.pan v,u=>∃ x,u=.panicking [{ v:=x,recovered:=false }]/\VR ι v x
 |.done,u=>∃ x,u=.panicking [{ v:=x,recovered:=true }]
theorem MdR.mono {ι ι':Inj}(h:Le ι ι'){m:Md}{u:FrameMode}(k:MdR ι m u):MdR ι' m u:=by
 cases m with
 |calm=>exact k
 |pan v=>obtain⟨x,e,hv⟩:=k;exact⟨x,e,VR.mono h _ _ hv⟩
 |done=>exact k
def Fin (ι:Inj)(w:World)(st:St)(r:ER)(R:Ending->World->Prop):Prop:=
 match r with
 |.no=>False
 |.ok v st'=>∀ x w',Jf ι w st st' v x w'->R (.returned x) w'
 |.pn v st'=>∀ x w',Jf ι w st st' v x w'->R (.panicked [{ v:=x,recovered:=false }]) w'
theorem Fin.step {ι':Inj}{w':World}{st':St}{r:ER}{R:Ending->World->Prop}(hl:Le ι ι')(hg:Grew ι w ι' w')(hc:Cleanly ι ι' st st')(h:Fin ι w st r R):Fin ι' w' st' r R:=by
 cases r with
 |no=>exact h
 |ok v s=>exact λx w2 ⟨ι2,l2,v2,s2,g2,c2⟩=>h x w2 ⟨ι2,hl.trans l2,v2,s2,hg.trans g2,hc.trans c2⟩
 |pn v s=>exact λx w2 ⟨ι2,l2,v2,s2,g2,c2⟩=>h x w2 ⟨ι2,hl.trans l2,v2,s2,hg.trans g2,hc.trans c2⟩
def jl4 (P:Program)(D:DF):Prop:=
 ∀ (f:FuncId) (args:List AV) (m:Md) (st:St) (ι:Inj) (w:World) (vs:Array Value) (u:FrameMode),st.fr=[]->Sim ι st.h st.nx w->VRs ι args vs.toList->MdR ι m u->
  match D.run f args m st with
  |.no=>True
  |.ok m' st'=>Enters P f/\CallsD P f vs u w λe u' w'=>∃ y ι',e=.returned y/\Le ι ι'/\MdR ι' m' u'/\Sim ι' st'.h st'.nx w'/\Grew ι w ι' w'/\Cleanly ι ι' st st'
theorem w9 {D:DF}(hD:jl4 P D){fn:Func}{tmps:Array Value}{R:Ending->World->Prop}:∀ (ds:List (FuncId×List AV)) (dl:List Deferred) (ι:Inj) (st:St) (w:World) (m:Md) (u:FrameMode),
  Rel ι U N t [] [] st ⟨tmps,[]⟩ w->st.fr=[]->DRs ι ds dl->MdR ι m u->Fin ι w st (zi P U D fn.results.toList ds t st m) R->Leaves P fn tmps R dl u w
 |[],dl,ι,st,w,m,u,r,hfr,hd,hm,hf=>by
  simp only[DRs] at hd;subst hd;cases m with
  |calm=>
   simp only[MdR] at hm;subst hm;change Fin ι w st (match yA P U fn.results.toList ⟨t,[]⟩ st with|some vs=>.ok (zq vs) st|none=>.no) R at hf;cases hv:yA P U fn.results.toList ⟨t,[]⟩ st with
   |none=>rw[hv] at hf;exact hf.elim
   |some vs=>
    rw[hv] at hf;obtain⟨x,hx,hvx⟩:=kU r hv;exact⟨x,hx,hf x w ⟨ι,Le.refl ι,hvx,r.sim,Grew.refl ι w,Cleanly.refl ι st⟩⟩
  |pan v=>
   obtain⟨x,rfl,hvx⟩:=hm;exact hf x w ⟨ι,Le.refl ι,hvx,r.sim,Grew.refl ι w,Cleanly.refl ι st⟩
  |done=>exact hf.elim
 |d :: ds,dl,ι,st,w,m,u,r,hfr,hd,hm,hf=>by
  simp only[DRs] at hd;obtain⟨cap,dargs,dl',rfl,hargs,hd'⟩:=hd;change Fin ι w st (match D.run d.1 d.2 m st.bare with
   |.ok m' st'=>(match m' with
    |.calm=>zi P U D fn.results.toList ds t st'.bare .calm
    |.pan v=>zi P U D fn.results.toList ds t st'.bare (.pan v)
    |.done=>zi P U D fn.results.toList ds t st'.bare .calm)
   |.no=>.no) R at hf
  have h1:=hD d.1 d.2 m st.bare ι w (dargs ++ cap) u rfl r.sim hargs hm;generalize D.run d.1 d.2 m st.bare=dr at hf h1;cases dr with
  |no=>exact hf.elim
  |ok m' st'=>
   obtain⟨hen,hcall⟩:=h1;have hu:u≠.run:=by
    cases m with
    |calm=>simp only[MdR] at hm;rw[hm];simp
    |pan v=>obtain⟨x,rfl,_⟩:=hm;simp
    |done=>obtain⟨x,rfl⟩:=hm;simp
   refine⟨hu,.func d.1,cap,d.1,dargs ++ cap,rfl,?_,?_⟩
   ·obtain⟨fn',h1,h2,h3⟩:=hen;have h2':fn'.body.isNone=false:=by cases hb:fn'.body<;>simp[hb] at h2 ⊢
    simp only[invoke,callFunc,Sem.run_bind,run_program,Result.andThen_ok,h1,h3,h2'];simp
   ·refine CallsD.mono hcall λe u' w' he=>?_;obtain⟨y,ι',rfl,hl,hm',hs,hg,hcl⟩:=he;have hcl':Cleanly ι ι' st st'.bare:=⟨hcl.nx,hcl.dirty,hcl.keep,hcl.above,hcl.u,hcl.le,hcl.n⟩;have r':Rel ι' U N t [] [] st'.bare ⟨tmps,[]⟩ w':=r.mono hl (st':=st'.bare) hs (by rw[hfr];rfl);have hf':=Fin.step hl hg hcl' hf;have ug:∃ m2,MdR ι' m2 (settle u')/\Fin ι' w' st'.bare (zi P U D fn.results.toList ds t st'.bare m2) R:=by
     cases m' with
     |calm=>
      simp only[MdR] at hm';subst hm';exact⟨.calm,rfl,hf'⟩
     |pan v=>
      obtain⟨x,rfl,hv⟩:=hm';exact⟨.pan v,⟨x,rfl,hv⟩,hf'⟩
     |done=>
      obtain⟨x,rfl⟩:=hm';exact⟨.calm,rfl,hf'⟩
    obtain⟨m2,hm2,hf2⟩:=ug;exact w9 hD ds dl' ι' st'.bare w' m2 (settle u') r' rfl (DRs.mono hl _ _ hd') hm2 hf2
end
section
variable {P:Program} {ι:Inj} {w:World} {st:St} {U N:Nat} {t:T AV} {a:Act}
theorem Jx {ops:Array Oper}{Q:Exit->Act->List Frame->World->Prop}{cs:List Frame}:∀ (l:List Nat) (a:Act) (w:World),
  wpO P ops (λe a w=>Q e a cs w) l a w->wpOpsS P ops Q l a cs w
 |[],a,w,h=>h
 |i :: l,a,w,h=>by
  simp only[wpO] at h;simp only[wpOpsS];split
  ·rename_i ho;rw[ho] at h;exact Jx l a w h
  ·rename_i o ho;simp only[ho] at h;split
   ·rename_i hw;rw[if_pos hw] at h;unfold Oper.wp at h;generalize (execOp a.eval o).run P w=r at h ⊢;cases r with
    |halt x w'=>cases x<;>exact h
    |ok n w'=>
     cases n<;>simp only[Oper.upon] at h ⊢;case value v=>exact Jx l _ _ h
     case skip=>exact Jx l _ _ h
     case defer d=>exact Jx l _ _ h
     case enter f args=>
      refine Calls.mono h λe w'' he=>?_;cases e with
      |returned v=>exact Jx l _ _ he
      |panicked c=>exact he
      |outgrown=>exact he
     case row row args=>exact Rows.mono h λ_ _ he=>Jx l _ _ he
   ·rename_i hw;rw[if_neg hw] at h;exact Jx l _ _ h
theorem jph {o:Oper}(h:vP o=true):o.guard=none/\∀ (ρ:Operand->Value) (w:World),(execOp ρ o).run P w=.ok .recover w:=by
 unfold vP at h;split at h
 ·rename_i c hc;split at h
  ·rename_i hb;split at h
   ·rename_i hg;refine⟨hg,λρ w=>?_⟩;simp[execOp,hc,resolve,hb,invoke,builtin]
   ·cases h
  ·cases h
 ·cases h
theorem jjO {m:Md}{u:FrameMode}(hm:MdR ι m u)(c:Frame)(cs:List Frame)(hc:c.mode=u) :
  ∃ x u',VR ι (QN m) x/\MdR ι (Xl m) u' /\
   (recoverD (c :: cs)=some (x,{ c with mode:=u' } :: cs)\/(recoverD (c :: cs)=none/\x=.nilIface/\{ c with mode:=u' }=c)):=by
 cases m with
 |calm=>
  simp only[MdR] at hm;subst hm;exact⟨.nilIface,c.mode,by simp[QN,VR],hc,.inr ⟨by simp[recoverD,hc],rfl,rfl⟩⟩
 |pan v=>
  obtain⟨x,rfl,hv⟩:=hm;exact⟨x,.panicking [{ v:=x,recovered:=true }],hv,⟨x,rfl⟩,.inl (by simp[recoverD,hc])⟩
 |done=>
  obtain⟨x,rfl⟩:=hm;exact⟨.nilIface,c.mode,by simp[QN,VR],⟨x,hc⟩,.inr ⟨by simp[recoverD,hc],rfl,rfl⟩⟩
def jai (ι:Inj)(w:World)(st:St)(r:DR)(e:Ending)(u':FrameMode)(w':World):Prop:=
 ∃ m' st',r=.ok m' st'/\∃ y ι',e=.returned y/\Le ι ι'/\MdR ι' m' u'/\Sim ι' st'.h st'.nx w'/\Grew ι w ι' w'/\Cleanly ι ι' st st'
theorem jde {fn:Func}{m:Md}{ι':Inj}{st':St}{w':World}{r:Rel ι' U N t [] [] st' a w'}{c:Frame}{cs:List Frame}{u':FrameMode}(hl:Le ι ι')(hg:Grew ι w ι' w')(hc:Cleanly ι ι' st st')
  (hm:MdR ι' m u') {dr:DR} (hdr:dr≠.no)
  (hdef:dr=(match st'.fr with|[]=>(match yA P U fn.results.toList ⟨t,[]⟩ st' with|some _=>.ok m st'|none=>.no)|_=>.no)) :
  a.defers=[]/\∃ u'',({ c with mode:=u' } :: cs)=({ c with mode:=u'' } :: cs:List Frame)/\∃ v,(results fn a.tmps).run P w'=.ok v w'/\jai ι w st dr (.returned v) u'' w':=by
 have hds:=r.ds;cases hfr:st'.fr with
 |cons d ds=>rw[hfr] at hdef;exact absurd hdef hdr
 |nil=>
  rw[hfr] at hdef hds;simp only[DRs] at hds;cases hv:yA P U fn.results.toList ⟨t,[]⟩ st' with
  |none=>rw[hv] at hdef;exact absurd hdef hdr
  |some vs=>
   rw[hv] at hdef;obtain⟨x,hx,_⟩:=kU r hv;exact⟨hds,u',rfl,x,hx,m,st',hdef,x,ι',rfl,hl,hm,r.sim,hg,hc⟩
theorem jpN {ops:Array Oper}{o:Oper}{l:List Oper}(h:ops.toList=o :: l):Qab ops.size=0 :: (Qac 1 l.length)/\ops[0]? = some o/\(Qac 1 l.length).map (λi=>ops[i]?)=l.map some:=by
 have hs:ops.size=l.length+1:=by rw[<-Qak,h];rfl
 refine⟨?_,?_,?_⟩
 ·rw[hs,List.range_eq_range',Qbc]
 ·rw[<-QbD,h];rfl
 ·apply Qbh
  ·simp
  ·intro i h1 h2;simp at h1;simp only[List.getElem_map,List.getElem_range'];rw[<-QbD,h,Nat.one_mul,Qbo];simp[h1]
theorem jbS {call:qF}(hcall:Jq P call)(hdraw:YM P){n:Nat}{fn:Func}{f:FuncId}{ops:Array Oper}{o:Oper}{l:List Oper}(hops:ops.toList=o :: l)(ho:vP o=true)
  {id:Nat} {rest:Option Code} {B:CF} (hf:P.funcs[f]? = some fn) (hb:fn.body=some (match rest with|some c=>.seq (.region id ops false) c|none=>.region id ops false))
  (hB:match rest with|some c=>Q0 fn.ntmps c=true/\B=comp P U c|none=>B=⟨λ_ _ env st=>.go env st⟩) (hd:∀ o∈ops.toList,∀ x,o.dst=some x->x<fn.ntmps)
  {args:List AV} {m:Md} {vs:Array Value} {u:FrameMode} (hfr:st.fr=[]) (hs:Sim ι st.h st.nx w) (hargs:VRs ι args vs.toList) (hm:MdR ι m u)
  (hr:(K2 P fn U o (yX P U ops l (qv o.dst [])) B).run call n args m st≠.no) :
  CallsD P f vs u w (jai ι w st ((K2 P fn U o (yX P U ops l (qv o.dst [])) B).run call n args m st)):=by
 obtain⟨hg,hrec⟩:=jph (P:=P) ho;obtain⟨hrange,h0,hil⟩:=jpN hops;refine callsD_of_wpS hf hb λc₀ cs hc=>?_;obtain⟨x,u',hvx,hm',hrd⟩:=jjO hm c₀ cs hc;generalize hres:(K2 P fn U o (yX P U ops l (qv o.dst [])) B).run call n args m st=dr at hr ⊢;have hres':Kr P fn U (Xl m) (match (yX P U ops l (qv o.dst [])).run call n (zV args 0 .e) ((yM o.dst).run (QN m) []) st with
  |.go env st=>B.run call n env st
  |r=>r)=dr:=hres
 have r0:Rel ι U fn.ntmps (zV args 0 .e) [] [] st { tmps:=vs ++ QaF (fn.ntmps - vs.size) undef,defers:=[] } w:=Hd hs hargs hfr;have r1:=r0.put (hd o (by rw[hops];simp)) hvx;have hcs:∃ cs',cs'={ c₀ with mode:=u' } :: cs/\∀ (Q:Exit->Act->List Frame->World->Prop),wpOpsS P ops Q (Qac 1 l.length) ({ tmps:=vs ++ QaF (fn.ntmps - vs.size) undef,defers:=[]:Act }.put o.dst x) cs' w->
   wpOpsS P ops Q (Qab ops.size) { tmps:=vs ++ QaF (fn.ntmps - vs.size) undef,defers:=[] } (c₀ :: cs) w:=by
  refine⟨_,rfl,λQ h=>?_⟩;rw[hrange];simp only[wpOpsS,h0];rw[if_pos (by simp[Region.wanted,hg])];rw[hrec];simp only;rcases hrd with h1|⟨h1,rfl,h2⟩
  ·rw[h1];exact h
  ·rw[h1];simp only;rw[h2] at h;exact h
 obtain⟨cs',hcs',hcsW⟩:=hcs;have fin:∀ (r:R),Kr P fn U (Xl m) r=dr->Post ι U fn.ntmps w st r (λe a' w'=>bodyPostS P fn c₀ cs (jai ι w st dr) e a' cs' w'):=by
  intro r hrr;cases r with
  |no=>exact(hr (by rw[<-hrr];rfl)).elim
  |go t' st'=>
   intro ι' a' w' hl r' hg' hc';have:=jde (P:=P) (ι:=ι) (w:=w) (st:=st) (fn:=fn) (r:=r') (c:=c₀) (cs:=cs) (u':=u') hl hg' hc' (MdR.mono hl hm') (dr:=dr) hr hrr.symm;simp only[bodyPostS];obtain⟨h1,u'',h2,h3⟩:=this;exact⟨h1,u'',by rw[hcs',h2],h3⟩
  |ex i t' st'=>exact(hr (by rw[<-hrr];rfl)).elim
  |rt t' st'=>
   intro ι' a' w' hl r' hg' hc';have:=jde (P:=P) (ι:=ι) (w:=w) (st:=st) (fn:=fn) (r:=r') (c:=c₀) (cs:=cs) (u':=u') hl hg' hc' (MdR.mono hl hm') (dr:=dr) hr hrr.symm;simp only[bodyPostS];obtain⟨h1,u'',h2,h3⟩:=this;exact⟨h1,u'',by rw[hcs',h2],h3⟩
  |pn v t' st'=>exact(hr (by rw[<-hrr];rfl)).elim
 cases rest with
 |none=>
  subst hB;refine wpS_region (hcsW _ (Jx _ _ _ ?_));refine Ka hcall (n:=n) ops l _ hil (λq hq=>hd q (by rw[hops];simp[hq])) ι _ _ _ st _ w r1 (fin _ ?_);rw[<-hres'];generalize (yX P U ops l (qv o.dst [])).run call n (zV args 0 .e) ((yM o.dst).run (QN m) []) st=r;cases r<;>rfl
 |some c=>
  obtain⟨hdc,rfl⟩:=hB;refine wpS_seq (wpS_region (hcsW _ (Jx _ _ _ ?_)));refine Ka hcall (n:=n) ops l _ hil (λq hq=>hd q (by rw[hops];simp[hq])) ι _ _ _ st _ w r1 ?_;generalize (yX P U ops l (qv o.dst [])).run call n (zV args 0 .e) ((yM o.dst).run (QN m) []) st=r at hres';cases r with
  |no=>exact(hr (by rw[<-hres'];rfl)).elim
  |go t' st'=>
   intro ι' a' w' hl r' hg' hc';exact wpS_of_wp (jdB hcall hdraw c hdc ι' t' st' a' w' _ r' (Post.step hl hg' hc' (fin _ hres')))
  |ex i t' st'=>exact fin _ hres'
  |rt t' st'=>exact fin _ hres'
  |pn v t' st'=>exact fin _ hres'
theorem w5 (h:okP P=true){f:FuncId}{fn:Func}{c:Code}(hf:P.funcs[f]? = some fn)(hb:fn.body=some c):Q0 fn.ntmps c=true/\Enters P f:=by
 unfold okP at h;rw[jbu,Qae] at h;have hm:fn∈P.funcs.toList:=by
  rw[Qav] at hf;obtain⟨h1,h2⟩:=hf;rw[<-h2];simp
 have:=h fn hm;rw[hb] at this;obtain⟨h1,h2⟩:=qL this;refine⟨h1,fn,hf,by rw[hb];rfl,?_⟩
 cases hq : fn.name == "runtime.NumGoroutine"
 ·rfl
 ·rw[hq] at h2;cases h2
theorem jku (hok:okP P=true){call:qF}(hcall:Jq P call)(hdraw:YM P)(n:Nat):jl4 P ⟨λf args m st=>(yP P f).run call n args m st⟩:=by
 intro f args m st ι w vs u hfr hs hargs hm;have key:(yP P f).run call n args m st≠.no->Enters P f/\CallsD P f vs u w (jai ι w st ((yP P f).run call n args m st)):=by
  intro hr;unfold yP at hr ⊢;cases hf:P.funcs[f]? with
  |none=>rw[hf] at hr;exact absurd rfl hr
  |some fn=>
   rw[hf] at hr;simp only at hr ⊢;split at hr
   ·rename_i id ops c hb;obtain⟨h1,h2⟩:=w5 hok hf hb;refine⟨h2,?_⟩;split at hr
    ·rename_i o l hops;cases ho:vP o
     ·rw[ho] at hr;exact absurd rfl hr
     ·rw[ho] at hr;simp only[cond_true] at hr ⊢;obtain⟨h3,h4⟩:=qL (show cond (Q0 fn.ntmps (.region id ops false)) (Q0 fn.ntmps c) false=true from h1);exact jbS hcall hdraw hops ho (rest:=some c) hf hb ⟨h4,rfl⟩ (uj h3) hfr hs hargs hm hr
    ·exact absurd rfl hr
   ·rename_i id ops hb;obtain⟨h1,h2⟩:=w5 hok hf hb;refine⟨h2,?_⟩;split at hr
    ·rename_i o l hops;cases ho:vP o
     ·rw[ho] at hr;exact absurd rfl hr
     ·rw[ho] at hr;simp only[cond_true] at hr ⊢;exact jbS hcall hdraw hops ho (rest:=none) hf hb rfl (uj h1) hfr hs hargs hm hr
    ·exact absurd rfl hr
   ·exact absurd rfl hr
 show match (yP P f).run call n args m st with | .no=>True | .ok m' st'=>_
 generalize hdr:(yP P f).run call n args m st=dr at key;cases dr with
 |no=>trivial
 |ok m' st'=>
  obtain⟨h1,h2⟩:=key (by simp);refine⟨h1,CallsD.mono h2 λe u' w' he=>?_⟩;obtain⟨m2,st2,e1,y,ι',e2,h3,h4,h5,h6,h7⟩:=he;cases e1;exact⟨y,ι',e2,h3,h4,h5,h6,h7⟩
theorem jkJ {ι:Inj}{w:World}{st:St}{r:ER}:(r=.no\/Fin ι w st r λe w'=>(∃ v st' x,r=.ok v st'/\e=.returned x/\Jf ι w st st' v x w') \/
  (∃ v st' x,r=.pn v st'/\e=.panicked [{ v:=x,recovered:=false }]/\Jf ι w st st' v x w')):=by
 cases r with
 |no=>exact .inl rfl
 |ok v st'=>exact .inr λx w' hd=>.inl ⟨v,st',x,rfl,rfl,hd⟩
 |pn v st'=>exact .inr λx w' hd=>.inr ⟨v,st',x,rfl,rfl,hd⟩
theorem jbU (hok:okP P=true){call:qF}(hcall:Jq P call)(hdraw:YM P)(n:Nat):Jq P (λf args st=>(Xj P f).run call n args st):=by
 intro f args st ι w vs hs hargs;show match (Xj P f).run call n args st with | .no=>True | .ok v st'=>_ | .pn v st'=>_
 generalize hr:(Xj P f).run call n args st=r;have key:r≠.no->Enters P f/\Calls P f vs w λe w'=>(∃ v st' x,r=.ok v st'/\e=.returned x/\Jf ι w st st' v x w') \/
  (∃ v st' x,r=.pn v st'/\e=.panicked [{ v:=x,recovered:=false }]/\Jf ι w st st' v x w'):=by
  intro hne;unfold Xj jb3 at hr;cases hf:P.funcs[f]? with
  |none=>rw[hf] at hr;exact absurd hr.symm hne
  |some fn=>
   rw[hf] at hr;simp only at hr;cases hb:fn.body with
   |none=>rw[hb] at hr;exact absurd hr.symm hne
   |some c=>
    rw[hb] at hr;simp only at hr;obtain⟨h1,h2⟩:=w5 hok hf hb;refine⟨h2,calls_of_wp_defers hf hb ?_⟩;have hfin:=(jkJ (ι:=ι) (w:=w) (st:=st) (r:=r)).resolve_left hne;generalize hR:(λe w'=>(∃ v st' x,r=.ok v st'/\e=Ending.returned x/\Jf ι w st st' v x w') \/
     (∃ v st' x,r=.pn v st'/\e=Ending.panicked [{ v:=x,recovered:=false }]/\Jf ι w st st' v x w'))=RR at hfin ⊢
    have hD:=jku hok hcall hdraw n;have r0:Rel ι (q8 fn c) fn.ntmps (zV args 0 .e) [] [] st.bare { tmps:=vs ++ QaF (fn.ntmps - vs.size) undef,defers:=[] } w:=Hd (st:=st.bare) hs hargs rfl;refine jdB hcall hdraw (n:=n) c h1 ι _ st.bare _ w _ r0 ?_;have hst:(⟨st.nx,st.h,st.dirty,[]⟩:St)=st.bare:=rfl;rw[hst] at hr;generalize (comp P (q8 fn c) c).run call n (zV args 0 .e) st.bare=rc at hr;have leave:∀ (t':T AV) (st':St) (ι':Inj) (a':Act) (w':World) (m:Md) (u:FrameMode),Le ι ι'->Rel ι' (q8 fn c) fn.ntmps t' [] [] st' a' w'->Grew ι w ι' w'->Cleanly ι ι' st.bare st'->MdR ι' m u->
      zi P (q8 fn c) ⟨λf args m st=>(yP P f).run call n args m st⟩ fn.results.toList st'.fr t' st'.bare m=r->Leaves P fn a'.tmps RR a'.defers u w':=by
     intro t' st' ι' a' w' m u hl r' hg hc hm hlr;have r2:Rel ι' (q8 fn c) fn.ntmps t' [] [] st'.bare ⟨a'.tmps,[]⟩ w':=⟨r'.sim,r'.size,r'.env,r'.recs,r'.len,by simp[DRs,St.bare]⟩;refine w9 hD st'.fr a'.defers ι' st'.bare w' m u r2 rfl r'.ds hm ?_;rw[hlr];exact Fin.step hl hg (show Cleanly ι ι' st st'.bare from⟨hc.nx,hc.dirty,hc.keep,hc.above,hc.u,hc.le,hc.n⟩) hfin
    cases rc with
    |no=>exact absurd hr.symm hne
    |go t' st'=>exact λι' a' w' hl r' hg hc=>leave t' st' ι' a' w' .calm .returning hl r' hg hc rfl hr
    |ex i t' st'=>exact absurd hr.symm hne
    |rt t' st'=>exact λι' a' w' hl r' hg hc=>leave t' st' ι' a' w' .calm .returning hl r' hg hc rfl hr
    |pn v t' st'=>exact λι' a' w' x hl r' hg hc hv=>leave t' st' ι' a' w' (.pan v) (.panicking [{ v:=x,recovered:=false }]) hl r' hg hc ⟨x,rfl,hv⟩ hr
 cases r with
 |no=>trivial
 |ok v st'=>
  obtain⟨h1,h2⟩:=key (by simp);refine⟨h1,Calls.mono h2 λe w' he=>?_⟩;rcases he with ⟨v1,st1,x,e1,e2,hd⟩|⟨v1,st1,x,e1,_⟩
  ·cases e1;exact⟨x,e2,hd⟩
  ·cases e1
 |pn v st'=>
  obtain⟨h1,h2⟩:=key (by simp);refine⟨h1,Calls.mono h2 λe w' he=>?_⟩;rcases he with ⟨v1,st1,x,e1,_⟩|⟨v1,st1,x,e1,e2,hd⟩
  ·cases e1
  ·cases e1;exact⟨x,e2,hd⟩
theorem G9 (hok:okP P=true)(hdraw:YM P)(n:Nat):∀ d,Jq P (KU P n d)
 |0=>λf args st ι w vs _ _=>trivial
 |d+1=>jbU hok (G9 hok hdraw n d) hdraw n
theorem jjM (hok:okP P=true)(hdraw:YM P){n d:Nat}{f:FuncId}(h:jg6 (KU P n d f [] st0)=true)(w:World)(hgl:Gl ⟨λ_=>.unborn,λ_=>none⟩ w) :
  Calls P f #[] w λe w'=>e=.returned (.bool true)/\w'.os=w.os/\w'.tape=w.tape/\w'.output=w.output/\w.heap.size<=w'.heap.size/\∀ k,k<w.heap.size->w'.heap[k]? = w.heap[k]?:=by
 have hs:Sim ⟨λ_=>.unborn,λ_=>none⟩ st0.h st0.nx w:=
  ⟨λb B S e=>(by cases e),λb e=>(by cases e),λb b' B S S' e=>(by cases e),λb e=>absurd rfl e,hgl⟩
 have hc:=G9 hok hdraw n d f [] st0 ⟨λ_=>.unborn,λ_=>none⟩ w #[] hs (by simp[VRs]);generalize KU P n d f [] st0=r at h hc;cases r with
 |no=>cases h
 |pn v st'=>cases h
 |ok v st'=>
  obtain⟨_,hcalls⟩:=hc;refine Calls.mono hcalls λe w' he=>?_;obtain⟨x,rfl,ι',_,hv,_,hg,_⟩:=he;cases v<;>try(cases h;done)
  rename_i b;have:b=true:=h;subst this;simp only[VR] at hv;subst hv;exact⟨rfl,hg.os,hg.tape,hg.output,hg.size,λk hk=>hg.keep k hk (λb S e=>by cases e)⟩
end
theorem jhG {x y:AV}(h:jbM x y=true):x=y:=by
 unfold jbM at h;split at h
 all_goals try(split at h<;>try(cases h;done))
 ·rename_i a _ b;cases a<;>cases b<;>first|rfl|cases h
 ·rename_i k a _ k' b;obtain⟨h1,h2⟩:=qL h;rw[Xw,decide_eq_true_iff] at h2;rw[vn h1,h2]
 ·obtain⟨h1,h2⟩:=qL h;rw[qH] at h1 h2;rw[h1,h2]
 ·rfl
 ·rename_i ex _ b' o' len' cap' sz' ex';obtain⟨h1,g1⟩:=qL h;obtain⟨h2,g2⟩:=qL g1;obtain⟨h3,g3⟩:=qL g2;obtain⟨h4,g4⟩:=qL g3;obtain⟨h5,g5⟩:=qL g4;clear h g1 g2 g3 g4;rw[qH] at h1 h2 h3 h4 h5;subst h1;subst h2;subst h3;subst h4;subst h5;cases ex<;>cases ex'<;>first|rfl|cases g5
 ·rfl
 ·rw[qH] at h;rw[h]
 ·rfl
 ·rfl
 ·rfl
 ·cases h
theorem Ga {a b:List AV}(h:ui a b=true):a=b:=by unfold ui at h;exact @of_decide_eq_true _ (_) h
theorem KW {x y:AV}(h:Y5 x y=true):x=y:=by
 unfold Y5 at h;split at h
 ·split at h<;>try(cases h;done)
  obtain⟨h1,h2⟩:=qL h;rw[qH] at h1;have h2:=Ga h2;rw[h1,h2]
 ·split at h<;>try(cases h;done)
  obtain⟨h1,h2⟩:=qL h;rw[qH] at h1;have h2:=Ga h2;rw[h1,h2]
 ·split at h<;>try(cases h;done)
  obtain⟨h1,h2⟩:=qL h;rw[qH] at h1;have h2:=Ga h2;rw[h1,h2]
 ·split at h<;>try(cases h;done)
  rw[JH] at h;simp at h;rw[h]
 ·exact jhG h
theorem KV:∀ {l r:List AV},uN l r=true->l=r
 |[],r,h=>by
  cases r with
  |nil=>rfl
  |cons y r=>cases h
 |x :: l,r,h=>by
  cases r with
  |nil=>cases h
  |cons y r=>
   obtain⟨h1,h2⟩:=qL (show cond (Y5 x y) (uN l r) false=true from h);rw[KW h1,KV h2]
theorem jmX {x y:AV}(h:jff x y=true):x=y:=by
 unfold jff at h;split at h
 ·split at h<;>try(cases h;done)
  rw[KV h]
 ·exact KW h
def hide (ι:Inj)(n:Nat):Inj:=⟨λb=>if b<n then ι b else .unborn,ι.g⟩
theorem zG {ι:Inj}{n b B S:Nat}(h:hide ι n b=.at B S):ι b=.at B S/\b<n:=by
 unfold hide at h;dsimp only at h;split at h
 ·rename_i hb;exact⟨h,hb⟩
 ·cases h
mutual
theorem VR.hide {ι ι0:Inj}{n:Nat}(hn:∀ b,ι0 b≠.unborn->b<n):∀ (x:AV) (v0 v:Value),VR ι0 x v0->VR ι x v->VR (hide ι n) x v
 |.bool _,_,_,_,k=>k
 |.int _ _,_,_,_,k=>k
 |.str _,_,_,_,k=>k
 |.zstr _,_,_,_,k=>k
 |.ptr b o,v0,v,k0,k=>by
  simp only[VR] at k0 k ⊢;have hb:=hn b k0.1;obtain⟨h1,a,rfl,h2⟩:=k;have e:Ev.hide ι n b=ι b:=by simp[Ev.hide,hb]
  rw[e];exact⟨h1,a,rfl,h2⟩
 |.nilp,_,_,_,k=>k
 |.slice b o len cap sz ex,v0,v,k0,k=>by
  simp only[VR] at k0 k ⊢;have hb:=hn b k0.1;obtain⟨h1,h2,a,C,rfl,h3,h4,h5⟩:=k;have e:Ev.hide ι n b=ι b:=by simp[Ev.hide,hb]
  rw[e];exact⟨h1,h2,a,C,rfl,h3,h4,h5⟩
 |.nils,_,_,_,k=>k
 |.map r,v0,v,k0,k=>by
  simp only[VR] at k0 k ⊢;have hb:=hn r k0.1;obtain⟨h1,a,rfl,h2⟩:=k;have e:Ev.hide ι n r=ι r:=by simp[Ev.hide,hb]
  rw[e];exact⟨h1,a,rfl,h2⟩
 |.nilm,_,_,_,k=>k
 |.fn f caps,v0,v,k0,k=>by
  simp only[VR] at k0 k ⊢;obtain⟨cv,rfl,hc⟩:=k;obtain⟨cv0,rfl,hc0⟩:=k0;exact⟨cv,rfl,VRs.hide hn caps _ _ hc0 hc⟩
 |.nilf,_,_,_,k=>k
 |.iface t x,v0,v,k0,k=>by
  simp only[VR] at k0 k ⊢;obtain⟨y,rfl,hy⟩:=k;obtain⟨y0,rfl,hy0⟩:=k0;exact⟨y,rfl,VR.hide hn x _ _ hy0 hy⟩
 |.nilif,_,_,_,k=>k
 |.agg cs,v0,v,k0,k=>by
  simp only[VR] at k0 k ⊢;obtain⟨cv,rfl,hc⟩:=k;obtain⟨cv0,rfl,hc0⟩:=k0;exact⟨cv,rfl,VRs.hide hn cs _ _ hc0 hc⟩
 |.tup cs,v0,v,k0,k=>by
  simp only[VR] at k0 k ⊢;obtain⟨cv,rfl,hc⟩:=k;obtain⟨cv0,rfl,hc0⟩:=k0;exact⟨cv,rfl,VRs.hide hn cs _ _ hc0 hc⟩
 |.lst m cs,v0,v,k0,k=>by
  simp only[VR] at k0 k ⊢;obtain⟨p,C,rfl,h1,h3,h2⟩:=k;obtain⟨p0,C0,rfl,_,_,h0⟩:=k0;refine⟨p,C,rfl,h1,h3,λhm=>?_⟩;obtain⟨B,o,vs,e1,e2,e3,e4⟩:=h2 hm;obtain⟨_,_,_,_,_,_,e0⟩:=h0 hm;exact⟨B,o,vs,e1,e2,e3,e4⟩
 |.xlst m cs,v0,v,k0,k=>by
  simp only[VR] at k0 k ⊢;obtain⟨p,rfl,h3,h2⟩:=k;obtain⟨p0,rfl,_,h0⟩:=k0;refine⟨p,rfl,h3,λhm=>?_⟩;obtain⟨B,o,vs,e1,e2,e3,e4⟩:=h2 hm;obtain⟨_,_,_,_,_,_,e0⟩:=h0 hm;exact⟨B,o,vs,e1,e2,e3,e4⟩
 |.lptr cs j,v0,v,k0,k=>by
  simp only[VR] at k0 k ⊢;obtain⟨B,o,vs,e1,e5,e2,e3,e4⟩:=k;obtain⟨_,_,_,_,_,_,_,e0⟩:=k0;exact⟨B,o,vs,e1,e5,e2,e3,e4⟩
 |.bad,_,_,_,k=>k
theorem VRs.hide {ι ι0:Inj}{n:Nat}(hn:∀ b,ι0 b≠.unborn->b<n):∀ (xs:List AV) (vs0 vs:List Value),VRs ι0 xs vs0->VRs ι xs vs->VRs (hide ι n) xs vs
 |[],_,_,_,k=>k
 |x :: xs,l0,l,k0,k=>by
  simp only[VRs] at k0 k ⊢;obtain⟨v,vs,rfl,h1,h2⟩:=k;obtain⟨v0,vs0,rfl,h10,h20⟩:=k0;exact⟨v,vs,rfl,VR.hide hn x _ _ h10 h1,VRs.hide hn xs _ _ h20 h2⟩
end
theorem MR.hide {ι ι0:Inj}{n:Nat}(hn:∀ b,ι0 b≠.unborn->b<n):∀ (es:List (AV×AV)) (l0 l:List MapEntry),MR ι0 es l0->MR ι es l->MR (hide ι n) es l
 |[],_,_,_,k=>k
 |e :: es,l0,l,k0,k=>by
  simp only[MR] at k0 k ⊢;obtain⟨x,xs,rfl,h1,h2,h3⟩:=k;obtain⟨x0,xs0,rfl,h10,h20,h30⟩:=k0;exact⟨x,xs,rfl,VR.hide hn _ _ _ h10 h1,VR.hide hn _ _ _ h20 h2,MR.hide hn es _ _ h30 h3⟩
def obnd (n:Nat)(o:AO):Prop:=∃ ι0 S0 x0,(∀ b,ι0 b≠.unborn->b<n)/\OR ι0 S0 o x0
def vbnd (n:Nat)(v:AV):Prop:=∃ ι0 x0,(∀ b,ι0 b≠.unborn->b<n)/\VR ι0 v x0
theorem vbnd.hide {n:Nat}{v:AV}(h:vbnd n v){ι:Inj}{x:Value}(k:VR ι v x):VR (hide ι n) v x:=by
 obtain⟨ι0,x0,hn,h0⟩:=h;exact VR.hide hn v x0 x h0 k
theorem vbnd.mono {n m:Nat}{v:AV}(h:vbnd n v)(hm:n<=m):vbnd m v:=by
 obtain⟨ι0,x0,hn,h0⟩:=h;exact⟨ι0,x0,λb hb=>Qat (hn b hb) hm,h0⟩
theorem obnd.mono {n m:Nat}{o:AO}(h:obnd n o)(hm:n<=m):obnd m o:=by
 obtain⟨ι0,S0,x0,hn,h0⟩:=h;exact⟨ι0,S0,x0,λb hb=>Qat (hn b hb) hm,h0⟩
theorem obnd.hide {n:Nat}{o:AO}(h:obnd n o){ι:Inj}{S:Nat}{x:Obj}(k:OR ι S o x):OR (hide ι n) S o x:=by
 obtain⟨ι0,S0,x0,hn,h0⟩:=h;cases o with
 |row m zl z cs=>
  simp only[OR] at h0 k ⊢;obtain⟨c,elem,lo,hi,rfl,h1,h2,h3,h4⟩:=k;obtain⟨c0,elem0,lo0,hi0,rfl,_,_,_,h40⟩:=h0;exact⟨c,elem,lo,hi,rfl,h1,h2,h3,λi hi=>let ⟨a,v,b,d⟩:=h4 i hi;let ⟨_,v0,_,d0⟩:=h40 i hi;⟨a,v,b,VR.hide hn _ _ _ d0 d⟩⟩
 |map es=>
  simp only[OR] at h0 k ⊢;obtain⟨ens,clock,rfl,hm⟩:=k;obtain⟨ens0,clock0,rfl,hm0⟩:=h0;exact⟨ens,clock,rfl,MR.hide hn _ _ _ hm0 hm⟩
 |iter s pos=>exact k
 |dead=>exact k
def Pu (F:St->ER):Prop:=∀ st v st',F st=.ok v st'->st'=st/\∀ st2,F st2=.ok v st2
theorem Pu.no:Pu λ_=>.no:=λst v st' h=>by cases h
theorem Pu.ok (v:AV):Pu λst=>.ok v st:=λst v' st' h=>by cases h;exact⟨rfl,λ_=>rfl⟩
theorem Pu.cond {b:Bool}{F G:St->ER}(hF:Pu F)(hG:Pu G):Pu λst=>cond b (F st) (G st):=by cases b<;>assumption
theorem Pu.bool {x:AV}{F:Bool->St->ER}(h:∀ b,Pu (F b)):Pu λst=>Zz x λb=>F b st:=by
 cases x<;>first|exact h _|exact Pu.no
theorem Pu.ptr {x:AV}{F:Nat->Nat->St->ER}(h:∀ b o,Pu (F b o)):Pu λst=>q7 x λb o=>F b o st:=by
 cases x<;>first|exact h _ _|exact Pu.no
theorem Pu.agg {x:AV}{F:List AV->St->ER}(h:∀ b,Pu (F b)):Pu λst=>Qh x λb=>F b st:=by
 cases x<;>first|exact h _|exact Pu.no
theorem Pu.str {x:AV}{F:List Nat->St->ER}(h:∀ b,Pu (F b)):Pu λst=>zM x λb=>F b st:=by
 cases x<;>first|exact h _|exact Pu.no
theorem Pu.some {α:Type}{x:Option α}{F:α->St->ER}(h:∀ b,Pu (F b)):Pu λst=>jR x λb=>F b st:=by
 cases x<;>first|exact h _|exact Pu.no
theorem Pu.nat {x:AV}{F:Nat->St->ER}(h:∀ b,Pu (F b)):Pu λst=>qp x λb=>F b st:=by
 unfold qp;split
 ·simp only[jE];exact h _
 ·exact Pu.no
theorem Pu.force {n:Nat}{F:Nat->St->ER}(h:∀ b,Pu (F b)):Pu λst=>force n λb=>F b st:=by
 simp only[jE];exact h _
theorem Pu.opt {x:Option OF}{d:Nat}{env:Env}{F:Nat->St->ER}(h:∀ b,Pu (F b)):Pu λst=>optF x d env λb=>F b st:=by
 cases x
 ·exact h _
 ·exact Pu.nat h
end Go.Ev
end
