/-
  The evaluator of runs, first part: what it is, and that each operation is sound; its conditions are those of the texts of the model.
-/
import Derived.Still
import Derived.Recover
import Derived.Laws.AppendOwn
import Derived.Laws.NewBlocks
import Derived.Below
import Derived.WalkKit
import Derived.Laws.MakeOwn
import Derived.Laws.Strings
import Derived.Laws.Concat
import Derived.Laws.StructEq
import Derived.Laws.BytesString
import Derived.Orders
set_option linter.unusedVariables false
set_option linter.unusedSimpArgs false
theorem aI {a b : Prop} (x : a) (y : b) : a ∧ b := ⟨x, y⟩
theorem om {p : Prop} (h : p := by omega) : p := h
theorem dc {p : Prop} (h : p := by decide) : p := h
open Nat renaming reduceAdd → γ, reduceSub → δ, reduceMul → ε, reduceBEq → η, le_refl → φ, le_trans → ω, zero_add → Qab, zero_le → Qaf, le_max_left → Qak, le_max_right → Qal, lt_or_ge → Qar, lt_of_lt_of_le → Qas, le_of_eq → QaA, add_mul → QaC, sub_zero → QaH, not_lt_zero → QaM, succ_pos → QaR, mul_le_mul_right → QaT, add_zero → QaV, zero_mul → Qba, succ_mul → Qbb, succ_lt_succ → Qbc, min_eq_left → Qbd, one_mul → Qbe, mod_eq_of_lt → Qbh, le_of_lt → Qbl, lt_succ_self → Qbm, ne_of_lt → Qbp, add_assoc → Qbt, lt_irrefl → Qbx, lt_trichotomy → QbQ, pow_le_pow_right → QbX, beq → Qcb, succ → Qcc, ble → Qcd, add → Qce, mul → Qcf, sub → Qcg
open Int renaming reduceToNat → ζ, natCast_zero → κ, zero_add → μ, ofNat → Qaq, eq_ofNat_of_zero_le → Qbq, natCast_nonneg → QbA, toNat_natCast → QbL
open List renaming map_cons → ν, map_nil → ξ, getD_cons_zero → τ, getD_cons_succ → υ, length_cons → χ, length_nil → ψ, range' → Qaa, getD → Qac, range → Qae, length_append → Qag, all_eq_true → Qah, getElem?_eq_getElem → Qaj, getElem_mem → Qam, length_drop → Qan, cons → Qao, getD_eq_getElem?_getD → Qap, length_take → Qav, take_length → Qaw, cons_append → Qay, all_cons → Qaz, mem_cons → QaF, nil_append → QaG, length_map → QaN, drop_zero → QaO, map_map → QaP, eq_nil_of_length_eq_zero → QaQ, mem_append → QaU, map_congr_left → QaW, drop_drop → QaX, range'_succ → QaY, take_zero → Qbf, append_nil → Qbj, mem_range → Qbk, mem_cons_of_mem → Qbn, mem_singleton → Qbo, ext_getElem → Qbr, take_take → Qbs, getElem?_map → Qbv, map_toArray → Qbw, drop_take → Qbz, foldr_cons → QbB, all_append → QbD, take_succ_cons → QbG, getElem_cons_succ → QbH, length_pos_iff → QbI, getElem?_take → QbJ, getElem?_drop → QbK, getElem?_append_left → QbN, getElem?_append_right → QbO, foldl_append → QbR, mem_append_left → QbT, countP_singleton → QbU, drop_eq_getElem_cons → QbV, getElem_cons_zero → QbW, mem_cons_self → QbY
open Bool renaming and_eq_true → Qad, eq_iff_iff → Qax, eq_false_iff → QaB, or_eq_true → QaE, false_eq_true → QaI, not_eq_true' → QaL, true_and → QaZ, false_and → Qbg, true_eq_false → Qby, or_eq_false_iff → QbC
open Array renaming length_toList → Qai, getElem?_eq_some_iff → Qau, replicate → QaD, toList_map → Qbi, getD_eq_getD_getElem? → QbE, getElem?_toList → QbF, toList_append → QbP, mem_toList_iff → QbS, getElem?_eq_getElem → QbZ, getElem?_setIfInBounds_ne → Qca
open Option renaming map_some → Qat, getD_some → QaJ, bind_some → QaK, map_none → QaS, map_eq_some_iff → Qbu
open Function renaming comp_def → QbM
noncomputable section
namespace Go.Ev
inductive T (α:Type) where
 |e
 |n (v:Option α) (l r:T α)
inductive AV where
 |bool (b:Bool)
 |int (k:IntKind) (n:Int)
 |str (s:List Nat)
 |zstr (n:Nat)
 |ptr (b o:Nat)
 |nilp
 |slice (b o len cap sz:Nat) (ex:Bool)
 |nils
 |map (r:Nat)
 |nilm
 |fn (f:FuncId) (caps:List AV)
 |nilf
 |iface (t:TypeId) (v:AV)
 |nilif
 |agg (cs:List AV)
 |tup (vs:List AV)
 |lst (n:Nat) (cs:List AV)
 |xlst (n:Nat) (cs:List AV)
 |lptr (cs:List AV) (o:Nat)
 |bad
instance:Inhabited AV:=⟨.bad⟩
inductive AO where
 |row (n zl:Nat) (z:List AV) (cs:T AV)
 |map (es:List (AV×AV))
 |iter (s:List Nat) (pos:Nat)
 |dead
inductive Md where
 |calm
 |pan (v:AV)
 |done
abbrev Fr:=List (FuncId×List AV)
structure St where
 nx:Nat
 h:T AO
 dirty:Nat
 fr:Fr
structure Env where
 t:T AV
 rs:List AV
inductive ER where
 |no
 |ok (v:AV) (st:St)
 |pn (v:AV) (st:St)
inductive DR where
 |no
 |ok (m:Md) (st:St)
inductive R where
 |no
 |go (env:T AV) (st:St)
 |ex (id:Nat) (env:T AV) (st:St)
 |rt (env:T AV) (st:St)
 |pn (v:AV) (env:T AV) (st:St)
abbrev qx:=FuncId->List AV->St->ER
structure GF (α:Type) where
 run:T α->Option α
structure SF (α:Type) where
 run:α->T α->T α
structure OF where
 run:Env->AV
structure EF where
 run:Env->St->ER
structure CF where
 run:qx->Nat->T AV->St->R
structure RF where
 run:qx->Nat->T AV->List AV->St->R
inductive TE where
 |none
 |rd (a v:AV)
 |wr (pre post:T AO)
structure RD where
 run:qx->Nat->T AV->List AV->List TE->St->R
structure FF where
 run:qx->Nat->List AV->St->ER
structure LF where
 run:List AV->T AV->T AV
section plain
def T.val {α:Type}(t:T α):Option α:=T.casesOn t none (λv _ _=>v)
def T.left {α:Type}(t:T α):T α:=T.casesOn t .e (λ_ l _=>l)
def T.right {α:Type}(t:T α):T α:=T.casesOn t .e (λ_ _ r=>r)
def jI (n:Nat):List Bool:=
 Nat.rec (motive:=λ_=>Nat->List Bool) (λ_=>[]) (λ_ ih n=>cond (Qcb n 0) [] (Qao (Qcb (Nat.mod n 2) 1) (ih (Nat.div n 2)))) (Qcc n) n
def JS {α:Type}(p:List Bool):GF α:=
 List.rec (motive:=λ_=>GF α) ⟨λt=>T.val t⟩ (λb _ ih=>cond b ⟨λt=>ih.run (T.left t)⟩ ⟨λt=>ih.run (T.right t)⟩) p
def jZ {α:Type}(p:List Bool):SF α:=
 List.rec (motive:=λ_=>SF α) ⟨λx t=>T.casesOn t (.n (some x) .e .e) (λ_ l r=>.n (some x) l r)⟩
  (λb _ ih=>cond b
   ⟨λx t=>T.casesOn t (.n none (ih.run x .e) .e) (λv l r=>.n v (ih.run x l) r)⟩
   ⟨λx t=>T.casesOn t (.n none .e (ih.run x .e)) (λv l r=>.n v l (ih.run x r))⟩) p
def force {α:Type}(n:Nat)(k:Nat->α):α:=Nat.rec (motive:=λ_=>α) (k 0) (λm _=>k (Qcc m)) n
def jr (h:T AO)(b:Nat):Option AO:=force b λb=>(JS (jI b)).run h
def ZU (h:T AO)(b:Nat)(o:AO):T AO:=force b λb=>(jZ (jI b)).run o h
def jM {α:Type}(l:List α):Nat:=List.rec (motive:=λ_=>Nat) 0 (λ_ _ ih=>force ih Qcc) l
def yr {α:Type}(d:α)(l:List α):Nat->α:=
 List.rec (motive:=λ_=>Nat->α) (λ_=>d) (λa _ ih i=>Nat.rec (motive:=λ_=>α) a (λm _=>ih m) i) l
def y5 {α:Type}(l:List α):Nat->List α:=
 List.rec (motive:=λ_=>Nat->List α) (λ_=>[]) (λa l ih i=>Nat.rec (motive:=λ_=>List α) (Qao a l) (λm _=>ih m) i) l
def yu {α:Type}(l:List α):Nat->List α:=
 List.rec (motive:=λ_=>Nat->List α) (λ_=>[]) (λa _ ih i=>Nat.rec (motive:=λ_=>List α) [] (λm _=>Qao a (ih m)) i) l
def y6 {α:Type}(l r:List α):List α:=List.rec (motive:=λ_=>List α) r (λa _ ih=>Qao a ih) l
def lall (p:AV->Bool)(l:List AV):Bool:=List.rec (motive:=λ_=>Bool) true (λa _ ih=>cond (p a) ih false) l
def Vw {α:Type}(p:α->Bool)(l:List α):Bool:=List.rec (motive:=λ_=>Bool) true (λa _ ih=>cond (p a) ih false) l
def yb {α β:Type}(f:α->β)(l:List α):List β:=List.rec (motive:=λ_=>List β) [] (λa _ ih=>Qao (f a) ih) l
def AV.plain:AV->Bool
 |.tup _=>false
 |.bad=>false
 |_=>true
def qf:AV:=.tup []
def ofV:Value->AV
 |.bool b=>.bool b
 |.int k n=>.int k n
 |.string s=>.str (s.data.toList.map UInt8.toNat)
 |.pointer none=>.nilp
 |.slice none 0 0=>.nils
 |.map none=>.nilm
 |.nilFunc=>.nilf
 |.nilIface=>.nilif
 |_=>.bad
def GQ:Value->List AV
 |.agg cs=>cs.toList.map ofV
 |v=>[ofV v]
def AV.cells:AV->List AV
 |.agg cs=>cs
 |v=>[v]
def AV.cell:AV->Bool
 |.agg _=>false
 |.tup _=>false
 |.bad=>false
 |_=>true
def inU (U t:Nat):Bool:=Qcb (Nat.mod (Nat.shiftRight U t) 2) 1
def jeW (t:Nat)(ns:List Nat):Option OF:=
 List.rec (motive:=λ_=>(Nat->Option OF)) (λ_=>none)
  (λn _ ih i=>cond (Qcb n t) (some ⟨λenv=>yr .bad env.rs i⟩) (ih (Qcc i))) ns 0
def jL (U:Nat)(ns:List Nat):Operand->OF
 |.tmp t=>match jeW t ns with
  |some f=>f
  |none=>cond (inU U t) ⟨λenv=>match (JS (jI t)).run env.t with|some v=>v|none=>qf⟩ ⟨λ_=>.bad⟩
 |.const v=>⟨λ_=>ofV v⟩
 |.global _=>⟨λ_=>.bad⟩
 |.func f=>⟨λ_=>.fn f []⟩
def zeroCells (P:Program)(t:TypeId):Option (List AV):=
 (P.info? t).bind λi=>i.zero.map GQ
def isAgg (P:Program)(t:TypeId):Option Bool:=
 (P.underlying t).map λ| .struct _=>true | .array _ _=>true|_=>false
def sizeOf (P:Program)(t:TypeId):Option Nat:=(P.info? t).map (·.size)
def qv (zl:Nat)(z:List AV)(cs:T AV)(i:Nat):AV:=
 force i λi=>match (JS (jI i)).run cs with|some v=>v|none=>yr .bad z (Nat.mod i zl)
def jN (zl:Nat)(z:List AV)(cs:T AV)(k:Nat):Nat->List AV:=
 Nat.rec (motive:=λ_=>Nat->List AV) (λ_=>[]) (λ_ ih i=>Qao (qv zl z cs i) (ih (Qcc i))) k
def qh (l:List AV):T AV->Nat->T AV:=
 List.rec (motive:=λ_=>T AV->Nat->T AV) (λcs _=>cs) (λv _ ih cs i=>force i λi=>ih ((jZ (jI i)).run v cs) (Qcc i)) l
def St.alloc (st:St)(o:AO)(k:Nat->St->ER):ER:=
 force st.nx λb=>k b ⟨Qcc b,(jZ (jI b)).run o st.h,st.dirty,st.fr⟩
def St.put (st:St)(b:Nat)(o:AO)(k:St->ER):ER:=
 force b λb=>k ⟨st.nx,(jZ (jI b)).run o st.h,force st.dirty λd=>cond (Qcd d b) d b,st.fr⟩
def newRow (st:St)(cells:List AV):ER:=
 force (jM cells) λn=>st.alloc (.row n n cells .e) λb st=>.ok (.ptr b 0) st
@[inline] def Ye (v:AV) (k:Bool->ER):ER:=match v with | .bool b=>k b|_=>.no
@[inline] def qU (v:AV) (k:Nat->Nat->ER):ER:=match v with | .ptr b o=>k b o|_=>.no
@[inline] def JE (v:AV) (k:List AV->ER):ER:=match v with | .agg cs=>k cs|_=>.no
@[inline] def zp (v:AV) (k:List Nat->ER):ER:=match v with | .str cs=>k cs|_=>.no
@[inline] def yz (o:Option AO) (k:Nat->Nat->List AV->T AV->ER):ER:=match o with|some (.row n zl z cs)=>k n zl z cs|_=>.no
@[inline] def Zz (o:Option AO) (k:List (AV×AV)->ER):ER:=match o with|some (.map es)=>k es|_=>.no
@[inline] def jQ {α:Type} (o:Option α) (k:α->ER):ER:=match o with|some a=>k a|none=>.no
def qt (v:AV)(k:Nat->ER):ER:=match v with | .int _ (.ofNat n)=>force n k|_=>.no
def NOE:EF:=⟨λ_ _=>.no⟩
def zQ:IntKind->Nat
 |.i8=>127 | .i16=>32767 | .i32=>2147483647 | .i64=>9223372036854775807
 |.u8=>255 | .u16=>65535 | .u32=>4294967295 | .u64=>18446744073709551615
def sgn:IntKind->Bool
 |.i8=>true | .i16=>true | .i32=>true | .i64=>true|_=>false
def Je (k:IntKind)(x:Int):Int:=
 match x with
 |.ofNat n=>force n λn=>cond (Qcd n (zQ k)) (.ofNat n) (k.wrap (.ofNat n))
 |.negSucc n=>force n λn=>cond (sgn k) (cond (Qcd n (zQ k)) (.negSucc n) (k.wrap (.negSucc n))) (k.wrap (.negSucc n))
def ltI (a b:Int):Bool:=
 match a,b with
 |.ofNat m,.ofNat n=>Qcd (Qcc m) n
 |.negSucc _,.ofNat _=>true
 |.ofNat _,.negSucc _=>false
 |.negSucc m,.negSucc n=>Qcd (Qcc n) m
def eqI (a b:Int):Bool:=
 match a,b with
 |.ofNat m,.ofNat n=>Qcb m n
 |.negSucc m,.negSucc n=>Qcb m n
 |_,_=>false
def eqK (a b:IntKind):Bool:=
 match a with
 |.i8=>(match b with | .i8=>true|_=>false) | .i16=>(match b with | .i16=>true|_=>false)
 |.i32=>(match b with | .i32=>true|_=>false) | .i64=>(match b with | .i64=>true|_=>false)
 |.u8=>(match b with | .u8=>true|_=>false) | .u16=>(match b with | .u16=>true|_=>false)
 |.u32=>(match b with | .u32=>true|_=>false) | .u64=>(match b with | .u64=>true|_=>false)
def vn (op:BinOp)(k:IntKind)(x y:Int):Option Int:=
 let a:=BitVec.ofInt k.bits x
 let b:=BitVec.ofInt k.bits y
 match op with
 |.and=>some (k.wrap (a &&& b).toNat)
 |.or=>some (k.wrap (a |||b).toNat)
 |.xor=>some (k.wrap (a ^^^ b).toNat)
 |.andNot=>some (k.wrap (a &&& ~~~b).toNat)
 |_=>none
def GX (op:BinOp)(k:IntKind)(x y:Int):Option Int:=
 match x,y with
 |.ofNat m,.ofNat n=>
  cond (Qcd m (zQ k)) (cond (Qcd n (zQ k))
   (match op with
    |.and=>some (.ofNat (Nat.land m n))
    |.or=>some (.ofNat (Nat.lor m n))
    |.xor=>some (.ofNat (Nat.xor m n))
    |op=>vn op k (.ofNat m) (.ofNat n))
   (vn op k (.ofNat m) (.ofNat n))) (vn op k (.ofNat m) (.ofNat n))
 |x,y=>vn op k x y
inductive BF where
 |mk (run:IntKind->Int->Int->Option AV)
def BF.run:BF->IntKind->Int->Int->Option AV | .mk f=>f
def QA:BinOp->BF
 |.add=>⟨λk a b=>some (.int k (Je k (Int.add a b)))⟩
 |.sub=>⟨λk a b=>some (.int k (Je k (Int.sub a b)))⟩
 |.mul=>⟨λk a b=>some (.int k (Je k (Int.mul a b)))⟩
 |.quo=>⟨λk a b=>cond (eqI b (.ofNat 0)) none (match a,b with
  |.ofNat m,.ofNat n=>some (.int k (Je k (.ofNat (Nat.div m n))))
  |a,b=>some (.int k (k.wrap (a.tdiv b))))⟩
 |.rem=>⟨λk a b=>cond (eqI b (.ofNat 0)) none (match a,b with
  |.ofNat m,.ofNat n=>some (.int k (.ofNat (Nat.mod m n)))
  |a,b=>some (.int k (a.tmod b)))⟩
 |.eql=>⟨λ_ a b=>some (.bool (eqI a b))⟩
 |.neq=>⟨λ_ a b=>some (.bool (cond (eqI a b) false true))⟩
 |.lss=>⟨λ_ a b=>some (.bool (ltI a b))⟩
 |.leq=>⟨λ_ a b=>some (.bool (cond (ltI b a) false true))⟩
 |.gtr=>⟨λ_ a b=>some (.bool (ltI b a))⟩
 |.geq=>⟨λ_ a b=>some (.bool (cond (ltI a b) false true))⟩
 |.and=>⟨λk a b=>(GX .and k a b).map (.int k)⟩
 |.or=>⟨λk a b=>(GX .or k a b).map (.int k)⟩
 |.xor=>⟨λk a b=>(GX .xor k a b).map (.int k)⟩
 |.andNot=>⟨λk a b=>(vn .andNot k a b).map (.int k)⟩
 |.shl=>⟨λ_ _ _=>none⟩
 |.shr=>⟨λ_ _ _=>none⟩
def Z9 (op:BinOp)(k:IntKind)(a b:Int):Option AV:=
 match op with
 |.shl=>cond (ltI b (.ofNat 0)) none (some (.int k (k.wrap (a * 2 ^ (min b.toNat k.bits)))))
 |.shr=>cond (ltI b (.ofNat 0)) none (some (.int k (a.fdiv (2 ^ (min b.toNat k.bits)))))
 |_=>none
def XX (a:List Nat):List Nat->Bool:=
 List.rec (motive:=λ_=>List Nat->Bool) (λb=>match b with|[]=>true|_=>false)
  (λx _ ih b=>match b with|[]=>false|y :: b=>cond (Qcb x y) (ih b) false) a
def bytesLess:List Nat->List Nat->Bool
 |_,[]=>false
 |[],_ :: _=>true
 |a :: x,b :: y=>Qcd (Qcc a) b ||(Qcb a b && bytesLess x y)
def Zu (op:BinOp)(a b:List Nat):Option AV:=
 match op with
 |.add=>cond (Qcd (Qce (jM a) (jM b)) 9223372036854775807) (some (.str (y6 a b))) none
 |.eql=>some (.bool (XX a b))
 |.neq=>some (.bool (cond (XX a b) false true))
 |.lss=>some (.bool (bytesLess a b))
 |.leq=>some (.bool (bytesLess a b ||XX a b))
 |.gtr=>some (.bool (!(bytesLess a b ||XX a b)))
 |.geq=>some (.bool (!bytesLess a b))
 |_=>none
def zc (P:Program)(t:TypeId)(cs:List AV)(off:Nat):Option AV:=
 (isAgg P t).bind λg=>cond g ((sizeOf P t).map λs=>.agg (yu (y5 cs off) s)) (cond (Qcd (Qcc off) (jM cs)) (some (yr .bad cs off)) none)
structure QF where
 run:AV->AV->Option Bool
def NOQ:QF:=⟨λ_ _=>none⟩
def eqF (P:Program):Nat->TypeId->QF
 |0,_=>NOQ
 |d+1,t=>
  match P.underlying t with
  |some .bool=>⟨λx y=>match x,y with | .bool a,.bool b=>some (cond a b (cond b false true))|_,_=>none⟩
  |some (.int _)=>⟨λx y=>match x,y with | .int k a,.int k' b=>cond (eqK k k') (some (eqI a b)) none|_,_=>none⟩
  |some .string=>⟨λx y=>match x,y with | .str a,.str b=>some (XX a b)|_,_=>none⟩
  |some (.pointer _)=>⟨λx y=>match x,y with | .nilp,.nilp=>some true | .nilp,.ptr _ _=>some false | .ptr _ _,.nilp=>some false|_,_=>none⟩
  |some (.slice _)=>⟨λx y=>match x,y with | .nils,.nils=>some true | .nils,.slice _ _ _ _ _ _=>some false | .slice _ _ _ _ _ _,.nils=>some false | .lst (_+1) _,.nils=>some false|_,_=>none⟩
  |some (.map _ _)=>⟨λx y=>match x,y with | .nilm,.nilm=>some true | .nilm,.map _=>some false | .map _,.nilm=>some false|_,_=>none⟩
  |some (.func _ _ _)=>⟨λx y=>match x,y with | .nilf,.nilf=>some true | .nilf,.fn _ _=>some false | .fn _ _,.nilf=>some false|_,_=>none⟩
  |some (.interface _)=>⟨λx y=>match x,y with | .nilif,.iface _ _=>some false | .iface _ _,.nilif=>some false|_,_=>none⟩
  |some (.struct fields)=>
   cond (P.stoodInHeld t || fields.toList.any λf => f.name == "_") NOQ
   ⟨λx y=>match x,y with
    |.agg xs,.agg ys=>
     fields.toList.foldr (λf r=>(zc P f.type xs f.offset).bind λu=>(zc P f.type ys f.offset).bind λv=>
      ((eqF P d f.type).run u v).bind λq=>cond q r (some false)) (some true)
    |_,_=>none⟩
  |some (.array len e)=>
   match sizeOf P e with
   |some n=>
    ⟨λx y=>match x,y with
     |.agg xs,.agg ys=>
      (Qaa 0 len).foldr (λi r=>(zc P e xs (Qcf i n)).bind λu=>(zc P e ys (Qcf i n)).bind λv=>
       ((eqF P d e).run u v).bind λq=>cond q r (some false)) (some true)
     |_,_=>none⟩
   |none=>NOQ
  |_=>NOQ
def uO (c:Bool)(x y:AV):Option Bool:=
 match x,y with
 |.nilif,.nilif=>cond c (some true) none
 |.nilif,.iface _ _=>some false
 |.iface _ _,.nilif=>some false
 |_,_=>none
def Jv (P:Program)(op:BinOp)(t:TypeId)(c:Bool)(x y:OF):EF:=
 match P.underlying t with
 |some (.interface _)=>
  match op with
  |.eql=>⟨λenv st=>jQ (uO c (x.run env) (y.run env)) λb=>.ok (.bool b) st⟩
  |.neq=>⟨λenv st=>jQ (uO c (x.run env) (y.run env)) λb=>.ok (.bool (cond b false true)) st⟩
  |_=>NOE
 |some (.int _)=>
  match op with
  |.shl=>⟨λenv st=>match x.run env,y.run env with | .int k a,.int _ b=>jQ (Z9 .shl k a b) λv=>.ok v st|_,_=>.no⟩
  |.shr=>⟨λenv st=>match x.run env,y.run env with | .int k a,.int _ b=>jQ (Z9 .shr k a b) λv=>.ok v st|_,_=>.no⟩
  |op=>⟨λenv st=>match x.run env,y.run env with
   |.int k a,.int k' b=>cond (eqK k k') (jQ ((QA op).run k a b) λv=>.ok v st) .no
   |_,_=>.no⟩
 |some .string=>⟨λenv st=>match x.run env,y.run env with | .str a,.str b=>jQ (Zu op a b) λv=>.ok v st|_,_=>.no⟩
 |_=>
  cond (P.eqGuardType P.depth t) NOE <|
  match op with
  |.eql=>⟨λenv st=>jQ ((eqF P 20 t).run (x.run env) (y.run env)) λb=>.ok (.bool b) st⟩
  |.neq=>⟨λenv st=>jQ ((eqF P 20 t).run (x.run env) (y.run env)) λb=>.ok (.bool (cond b false true)) st⟩
  |_=>NOE
def XW (op:UnOp)(x:OF):EF:=
 match op with
 |.neg=>⟨λenv st=>match x.run env with | .int k n=>.ok (.int k (k.wrap (0 - n))) st|_=>.no⟩
 |.xor=>⟨λenv st=>match x.run env with | .int k n=>jQ (vn .xor k (if k.signed then -1 else k.max) n) λm=>.ok (.int k m) st|_=>.no⟩
 |.not=>⟨λenv st=>Ye (x.run env) λb=>.ok (.bool (cond b false true)) st⟩
 |.plus=>NOE
def Xk:List AV->Option (List Nat)
 |[]=>some []
 |.int .u8 (.ofNat n) :: l=>cond (Qcd n 255) ((Xk l).map (n :: ·)) none
 |_=>none
def Jd (P:Program)(src dst:TypeId)(x:OF):EF:=
 match P.underlying src,P.underlying dst with
 |some (.int _),some (.int k)=>⟨λenv st=>match x.run env with | .int _ n=>.ok (.int k (Je k n)) st|_=>.no⟩
 |some .string,some .string=>⟨λenv st=>zp (x.run env) λs=>.ok (.str s) st⟩
 |some (.slice e),some .string=>
  match P.underlying e with
  |some (.int .u8)=>⟨λenv st=>match x.run env with
   |.nils=>.ok (.str []) st
   |.slice b o len _ _ _=>yz (jr st.h b) λn zl z cs=>cond (Qcd (Qce o len) n)
    (cond (Qcd len 4096) (jQ (Xk (jN zl z cs len o)) λs=>.ok (.str s) st)
     (match cs,z with | .e,[.int .u8 (.ofNat 0)]=>cond (Qcb zl 1) (.ok (.zstr len) st) .no|_,_=>.no)) .no
   |_=>.no⟩
  |_=>NOE
 |some .string,some (.slice e)=>
  match P.underlying e with
  |some (.int .u8)=>⟨λenv st=>zp (x.run env) λs=>force (jM s) λn=>
   st.alloc (.row n n (yb (λc=>.int .u8 (.ofNat c)) s) .e) λb st=>.ok (.slice b 0 n n 1 false) st⟩
  |_=>NOE
 |_,_=>NOE
def elemOf (P:Program)(t:TypeId):Option TypeId:=
 match P.underlying t with
 |some (.slice e)=>some e
 |_=>none
def Yy (P:Program)(t:TypeId)(len cap:OF):EF:=
 match elemOf P t with
 |some e=>
  match P.info? e,zeroCells P e with
  |some i,some z=>
   cond (cond (lall AV.cell z) (Qcb (jM z) i.size) false) ⟨λenv st=>qt (len.run env) λl=>qt (cap.run env) λc=>
    cond (Qcd l c) (cond (Qcd (Qcf i.bytes c) 140737488355328) (cond (Qcd c 9223372036854775807)
     (force (Qcf c i.size) λn=>st.alloc (.row n i.size z .e) λb st=>.ok (.slice b 0 l c i.size true) st) .no) .no) .no⟩ NOE
  |_,_=>NOE
 |none=>NOE
def optF (x:Option OF)(d:Nat)(env:Env)(k:Nat->ER):ER:=
 match x with
 |none=>k d
 |some v=>qt (v.run env) k
def J1 (P:Program)(t:TypeId)(x:OF)(lo hi mx:Option OF):EF:=
 match P.underlying t with
 |some .string=>
  match mx with
  |none=>⟨λenv st=>zp (x.run env) λs=>force (jM s) λn=>optF lo 0 env λl=>optF hi n env λh=>
    cond (Qcd l h) (cond (Qcd h n) (.ok (.str (yu (y5 s l) (Qcg h l))) st) .no) .no⟩
  |some _=>NOE
 |some (.slice e)=>
  match sizeOf P e with
  |some sz=>
   match mx with
   |none=>⟨λenv st=>match x.run env with
     |.nils=>optF lo 0 env λl=>optF hi 0 env λh=>cond (Qcb l 0) (cond (Qcb h 0) (.ok .nils st) .no) .no
     |.slice b o len cap sz' ex=>optF lo 0 env λl=>optF hi len env λh=>
      cond (Qcb sz' sz) (cond (Qcd l h) (cond (Qcd h cap) (force (Qcg h l) λk=>force (Qce o (Qcf l sz)) λo=>force (Qcg cap l) λc=>.ok (.slice b o k c sz ex) st) .no) .no) .no
     |.lst n cs=>optF lo 0 env λl=>optF hi n env λh=>
      cond (Qcd l h) (cond (Qcd h n) (cond (Qcd (Qcf h sz) (jM cs)) (.ok (.lst (Qcg h l) (yu (y5 cs (Qcf l sz)) (Qcf (Qcg h l) sz))) st) .no) .no) .no
     |_=>.no⟩
   |some mx=>
    match hi with
    |none=>NOE
    |some hi=>⟨λenv st=>match x.run env with
     |.slice b o _ cap _ _=>optF lo 0 env λl=>qt (hi.run env) λh=>qt (mx.run env) λm=>
      cond (Qcd l h) (cond (Qcd h m) (cond (Qcd m cap)
       (force (Qcg h l) λk=>force (Qce o (Qcf l sz)) λo=>force (Qcg m l) λc=>.ok (.slice b o k c sz true) st) .no) .no) .no
     |.lst n cs=>optF lo 0 env λl=>qt (hi.run env) λh=>qt (mx.run env) λm=>
      cond (Qcd l h) (cond (Qcb h m) (cond (Qcd m n) (cond (Qcd (Qcf h sz) (jM cs))
       (.ok (.xlst (Qcg h l) (yu (y5 cs (Qcf l sz)) (Qcf (Qcg h l) sz))) st) .no) .no) .no) .no
     |_=>.no⟩
  |none=>NOE
 |some (.array n e)=>
  match sizeOf P e with
  |some sz=>
   match mx with
   |none=>⟨λenv st=>qU (x.run env) λb o=>optF lo 0 env λl=>optF hi n env λh=>
    cond (Qcd l h) (cond (Qcd h n)
     (force (Qcg h l) λk=>force (Qce o (Qcf l sz)) λo=>force (Qcg n l) λc=>.ok (.slice b o k c sz true) st) .no) .no⟩
   |some _=>NOE
  |none=>NOE
 |_=>NOE
structure KF where
 run:AV->T AO->Option AV
def qI (P:Program)(t:TypeId):KF:=
 match isAgg P t,sizeOf P t with
 |some true,some k=>⟨λa h=>match a with
  |.ptr b o=>(match jr h b with|some (.row n zl z cs)=>cond (Qcd (Qce o k) n) (some (.agg (jN zl z cs k o))) none|_=>none)
  |.lptr cs o=>cond (Qcd (Qce o k) (jM cs)) (some (.agg (yu (y5 cs o) k))) none
  |_=>none⟩
 |some false,some _=>⟨λa h=>match a with
  |.ptr b o=>(match jr h b with|some (.row n zl z cs)=>cond (Qcd (Qcc o) n) (some (qv zl z cs o)) none|_=>none)
  |.lptr cs o=>cond (Qcd (Qcc o) (jM cs)) (some (yr .bad cs o)) none
  |_=>none⟩
 |_,_=>⟨λ_ _=>none⟩
def Xd (P:Program)(t:TypeId)(a:OF):EF:=
 ⟨λenv st=>match (qI P t).run (a.run env) st.h with|some v=>.ok v st|none=>.no⟩
def gA (P:Program)(t:TypeId)(a x:OF):EF:=
 match sizeOf P t with
 |some k=>⟨λenv st=>qU (a.run env) λb o=>yz (jr st.h b) λn zl z cs=>
  cond (Qcb (jM (x.run env).cells) k) (cond (Qcd (Qce o k) n) (cond (lall AV.cell (x.run env).cells)
   (st.put b (.row n zl z (qh (x.run env).cells cs o)) λst=>.ok qf st) .no) .no) .no⟩
 |none=>NOE
def YD (cells:List AV)(place:Nat->Option (Nat×Nat))(l:List (Nat×AV)):Option (List AV):=
 match l with
 |[]=>some cells
 |(i,v) :: rest=>
  match place i with
  |some (off,size)=>
   cond v.plain (cond (Qcb (jM v.cells) size) (cond (Qcd (Qce off size) (jM cells))
    (YD (y6 (yu cells off) (y6 v.cells (y5 cells (Qce off size)))) place rest) none) none) none
  |none=>none
def Vl (P:Program)(fields:Array Field)(i:Nat):Option (Nat×Nat):=
 (fields[i]?).bind λf=>(sizeOf P f.type).map λs=>(f.offset,s)
def Xb (env:Env)(ps:List (Nat×OF)):List (Nat×AV):=yb (λp=>(p.1,p.2.run env)) ps
def uj (P:Program)(t:TypeId)(ps:List (Nat×OF)):EF:=
 match zeroCells P t,P.underlying t with
 |some z,some (.struct fields)=>cond (fields.toList.all λf=>(sizeOf P f.type).isSome) ⟨λenv st=>jQ (YD z (Vl P fields) (Xb env ps)) λcs=>.ok (.agg cs) st⟩ NOE
 |some z,some (.array _ e)=>
  match sizeOf P e with
  |some s=>⟨λenv st=>jQ (YD z (λi=>some (Qcf i s,s)) (Xb env ps)) λcs=>.ok (.agg cs) st⟩
  |none=>NOE
 |_,_=>NOE
def yQ (z:List AV)(n:Nat):List AV:=Nat.rec (motive:=λ_=>List AV) [] (λ_ ih=>y6 z ih) n
def Ya (P:Program)(t:TypeId)(len:Nat)(ps:List (Nat×OF)):EF:=
 match elemOf P t with
 |some e=>
  match sizeOf P e,zeroCells P e with
  |some s,some z=>
   cond (cond (Qcd (Qcf len s) 16777216) (Qcb (jM z) s) false) ⟨λenv st=>jQ (YD (yQ z len) (λi=>some (Qcf i s,s)) (Xb env ps)) λcells=>
    cond (lall AV.cell cells) (force (jM cells) λn=>st.alloc (.row n n cells .e) λb st=>.ok (.slice b 0 len len s true) st) .no⟩ NOE
  |_,_=>NOE
 |none=>NOE
def Xf (P:Program)(s:TypeId)(x:OF)(f:Nat):EF:=
 match P.underlying s with
 |some (.struct fields)=>
  match fields[f]? with
  |some f=>
   match sizeOf P f.type with
   |some (_+1)=>⟨λenv st=>match x.run env with
    |.ptr b o=>force (Qce o f.offset) λo=>.ok (.ptr b o) st
    |.lptr cs o=>.ok (.lptr cs (Qce o f.offset)) st
    |_=>.no⟩
   |_=>NOE
  |none=>NOE
 |_=>NOE
def wm (P:Program)(s:TypeId)(x:OF)(f:Nat):EF:=
 match P.underlying s with
 |some (.struct fields)=>
  match fields[f]? with
  |some f=>⟨λenv st=>JE (x.run env) λcs=>jQ (zc P f.type cs f.offset) λv=>.ok v st⟩
  |none=>NOE
 |_=>NOE
def Qm (P:Program)(t:TypeId)(x i:OF):EF:=
 match P.underlying t with
 |some (.array n e)=>
  match sizeOf P e with
  |some s=>⟨λenv st=>qU (x.run env) λb o=>qt (i.run env) λi=>cond (Qcd (Qcc i) n) (force (Qce o (Qcf i s)) λo=>.ok (.ptr b o) st) .no⟩
  |none=>NOE
 |some (.slice e)=>
  match sizeOf P e with
  |some s=>⟨λenv st=>match x.run env with
   |.slice b o len _ _ _=>qt (i.run env) λi=>cond (Qcd (Qcc i) len) (force (Qce o (Qcf i s)) λo=>.ok (.ptr b o) st) .no
   |.lst n cs=>qt (i.run env) λi=>cond (Qcd (Qcc i) n) (.ok (.lptr cs (Qcf i s)) st) .no
   |_=>.no⟩
  |none=>NOE
 |_=>NOE
def Zj (P:Program)(t:TypeId)(x i:OF):EF:=
 match P.underlying t with
 |some (.array n e)=>
  match sizeOf P e with
  |some s=>⟨λenv st=>JE (x.run env) λcs=>qt (i.run env) λi=>cond (Qcd (Qcc i) n) (jQ (zc P e cs (Qcf i s)) λv=>.ok v st) .no⟩
  |none=>NOE
 |some .string=>⟨λenv st=>zp (x.run env) λs=>qt (i.run env) λi=>cond (Qcd (Qcc i) (jM s)) (.ok (.int .u8 (.ofNat (yr 0 s i))) st) .no⟩
 |_=>NOE
def jbn (q:QF)(k:AV)(es:List (AV×AV)):Option (Option AV):=
 List.rec (motive:=λ_=>Option (Option AV)) (some none) (λe _ ih=>match q.run k e.1 with|some b=>cond b (some (some e.2)) ih|none=>none) es
def wo (x y:AV):Bool:=
 match x with
 |.bool a=>(match y with | .bool b=>cond a b (cond b false true)|_=>false)
 |.int k a=>(match y with | .int k' b=>cond (eqK k k') (eqI a b) false|_=>false)
 |.str a=>(match y with | .str b=>XX a b|_=>false)
 |_=>false
def GC (l:List AV):List AV->Bool:=
 List.rec (motive:=λ_=>List AV->Bool) (λr=>match r with|[]=>true|_=>false)
  (λx _ ih r=>match r with|y :: r=>cond (wo x y) (ih r) false|[]=>false) l
def VH (x y:AV):Bool:=
 match x with
 |.agg l=>(match y with | .agg r=>GC l r|_=>false)
 |x=>wo x y
def jaO (q:QF)(k v:AV)(es:List (AV×AV)):Option (List (AV×AV)):=
 List.rec (motive:=λ_=>Option (List (AV×AV))) (some [(k,v)])
  (λe es ih=>match q.run k e.1 with
   |some b=>cond b (cond (VH k e.1) (some (Qao (k,v) es)) none) (match ih with|some l=>some (Qao e l)|none=>none)
   |none=>none) es
structure PF where
 run:AV->Bool
def vS (P:Program)(t:TypeId):PF:=
 match P.underlying t with
 |some .bool=>⟨λ_=>true⟩
 |some (.int _)=>⟨λ_=>true⟩
 |some .string=>⟨λ_=>true⟩
 |some (.array len e)=>
  match P.underlying e,sizeOf P e with
  |some (.int _),some 1=>⟨λk=>match k with | .agg cs=>Qcb (jM cs) len|_=>false⟩
  |_,_=>⟨λ_=>false⟩
 |_=>⟨λ_=>false⟩
def ofZ:Value->AV
 |.agg cs=>.agg (cs.toList.map ofV)
 |v=>ofV v
def Kc (P:Program)(t:TypeId):Option AV:=(P.info? t).bind λi=>i.zero.map ofZ
def XM (P:Program)(t:TypeId)(m k:OF)(ok:Bool):EF:=
 match P.underlying t with
 |some (.map kt e)=>
  match Kc P e with
  |some zero=>
   ⟨λenv st=>match m.run env with
    |.nilm=>cond ((vS P kt).run (k.run env)) (.ok (cond ok (.tup [zero,.bool false]) zero) st) .no
    |.map r=>cond ((vS P kt).run (k.run env)) (Zz (jr st.h r) λes=>jQ (jbn (eqF P 20 kt) (k.run env) es) λo=>
     match o with
     |some v=>.ok (cond ok (.tup [v,.bool true]) v) st
     |none=>.ok (cond ok (.tup [zero,.bool false]) zero) st) .no
    |_=>.no⟩
  |none=>NOE
 |_=>NOE
def JF (P:Program)(t:TypeId)(m k v:OF):EF:=
 match P.underlying t with
 |some (.map kt _)=>
  ⟨λenv st=>match m.run env with
   |.map r=>cond ((vS P kt).run (k.run env)) (Zz (jr st.h r) λes=>jQ (jaO (eqF P 20 kt) (k.run env) (v.run env) es) λes=>st.put r (.map es) λst=>.ok qf st) .no
   |_=>.no⟩
 |_=>NOE
def firstCells (st:St)(size n:Nat)(v:AV)(k:List AV->ER):ER:=
 match v with
 |.slice b o _ _ _ _=>yz (jr st.h b) λm zl z cs=>force (Qcf n size) λc=>cond (Qcd (Qce o c) m) (k (jN zl z cs c o)) .no
 |.nils=>k []
 |.lst _ cs=>cond (Qcd (Qcf n size) (jM cs)) (k (yu cs (Qcf n size))) .no
 |.str s=>k (yb (λ(n:Nat)=>AV.int .u8 (.ofNat n)) (yu s n))
 |_=>.no
def JD (v:AV)(k:Nat->ER):ER:=
 match v with
 |.slice _ _ n _ _ _=>k n
 |.nils=>k 0
 |.lst n _=>k n
 |.str s=>force (jM s) k
 |_=>.no
def yo (st:St)(size bytes:Nat)(s:AV)(n:Nat)(news:List AV):ER:=
 cond (Qcb (jM news) (Qcf n size)) (match s with
 |.nils=>cond (Qcb n 0) (.ok .nils st) (cond (Qcd (Qcf n bytes) 140737488355328) (cond (Qcd n 9223372036854775807)
   (force (Qcf n size) λm=>st.alloc (.row m m news .e) λb st=>.ok (.slice b 0 n n size false) st) .no) .no)
 |.slice b o sl cap sz ex=>
  force (Qce sl n) λneed=>
  yz (jr st.h b) λm zl z cs=>
  cond (Qcd need cap)
   (cond (Qcb n 0) (.ok s st)
    (cond (Qcd (Qce o (Qcf need size)) m)
     (st.put b (.row m zl z (qh news cs (Qce o (Qcf sl size)))) λst=>.ok (.slice b o need cap sz ex) st) .no))
   (cond (Qcd (Qcf need bytes) 140737488355328) (cond (Qcd need 9223372036854775807) (cond ex
    (force (Qcf sl size) λk=>cond (Qcd (Qce o k) m)
     (force (Qcf need size) λt=>st.alloc (.row t t (y6 (jN zl z cs k o) news) .e) λb st=>.ok (.slice b 0 need need size false) st) .no)
    (cond (Qcb sz size) (cond (Qcb o 0) (cond (Qcb (Qcf sl size) m)
     (st.put b .dead λst=>force (Qcf need size) λt=>
      st.alloc (.row t zl z (qh news cs m)) λb st=>.ok (.slice b 0 need need size false) st) .no) .no) .no)) .no) .no)
 |.xlst sl cs=>cond (Qcb n 0) .no
   (force (Qce sl n) λneed=>cond (Qcd (Qcf need bytes) 140737488355328) (cond (Qcd need 9223372036854775807) (cond (Qcd (Qcf sl size) (jM cs))
    (force (Qcf need size) λt=>st.alloc (.row t t (y6 (yu cs (Qcf sl size)) news) .e) λb st=>.ok (.slice b 0 need need size false) st) .no) .no) .no)
 |_=>.no) .no
def JQ (P:Program)(t u:TypeId)(s x:OF):EF:=
 match elemOf P t with
 |some e=>
  match P.info? e,zeroCells P e with
  |some i,some z=>
   cond (cond (lall AV.cell z) (Qcb (jM z) i.size) false) (match P.underlying u with
    |some (.int _)=>⟨λenv st=>qt (x.run env) λn=>cond (Qcd (Qcf n i.bytes) 281474976710656) (cond (Qcd n 9223372036854775807) (yo st i.size i.bytes (s.run env) n (yQ z n)) .no) .no⟩
    |some (.slice _)=>⟨λenv st=>JD (x.run env) λn=>firstCells st i.size n (x.run env) λnews=>yo st i.size i.bytes (s.run env) n news⟩
    |some .string=>⟨λenv st=>JD (x.run env) λn=>firstCells st i.size n (x.run env) λnews=>yo st i.size i.bytes (s.run env) n news⟩
    |_=>NOE) NOE
  |_,_=>NOE
 |none=>NOE
def vh (P:Program)(t:TypeId)(d x:OF):EF:=
 match elemOf P t with
 |some e=>
  match sizeOf P e with
  |some size=>
   ⟨λenv st=>JD (x.run env) λn0=>match d.run env with
    |.nils=>.ok (.int .i64 (.ofNat 0)) st
    |.slice b o dl _ _ _=>force (cond (Qcd n0 dl) n0 dl) λn=>firstCells st size n (x.run env) λcells=>
     yz (jr st.h b) λm zl z cs=>cond (Qcd (Qce o (jM cells)) m)
      (st.put b (.row m zl z (qh cells cs o)) λst=>.ok (.int .i64 (.ofNat n)) st) .no
    |_=>.no⟩
  |none=>NOE
 |none=>NOE
def Yk (P:Program)(t:TypeId)(x:OF):EF:=
 match P.underlying t with
 |some .string=>⟨λenv st=>match x.run env with | .str s=>force (jM s) λn=>.ok (.int .i64 (.ofNat n)) st | .zstr n=>.ok (.int .i64 (.ofNat n)) st|_=>.no⟩
 |some (.array n _)=>⟨λ_ st=>.ok (.int .i64 (.ofNat n)) st⟩
 |some (.slice _)=>⟨λenv st=>match x.run env with | .nils=>.ok (.int .i64 (.ofNat 0)) st | .slice _ _ n _ _ _=>.ok (.int .i64 (.ofNat n)) st | .lst n _=>.ok (.int .i64 (.ofNat n)) st|_=>.no⟩
 |some (.map _ _)=>⟨λenv st=>match x.run env with | .nilm=>.ok (.int .i64 (.ofNat 0)) st | .map r=>Zz (jr st.h r) λes=>force (jM es) λn=>.ok (.int .i64 (.ofNat n)) st|_=>.no⟩
 |_=>NOE
def ug (P:Program)(t:TypeId)(x:OF):EF:=
 match P.underlying t with
 |some (.slice _)=>⟨λenv st=>match x.run env with | .nils=>.ok (.int .i64 (.ofNat 0)) st | .slice _ _ _ n _ true=>.ok (.int .i64 (.ofNat n)) st|_=>.no⟩
 |_=>NOE
def min2 (x y:AV):Option AV:=
 match x,y with
 |.int k a,.int k' b=>cond (eqK k k') (some (.int k (cond (ltI b a) b a))) none
 |_,_=>none
def max2 (x y:AV):Option AV:=
 match x,y with
 |.int k a,.int k' b=>cond (eqK k k') (some (.int k (cond (ltI a b) b a))) none
 |_,_=>none
def JY (f:AV->AV->Option AV):AV->List AV->Option AV
 |x,[]=>some x
 |x,y :: l=>(f x y).bind λz=>JY f z l
def qw (P:Program)(b:Builtin)(ts:Array TypeId)(args:List OF):EF:=
 match b,args,ts.toList with
 |.len,[x],t :: _=>Yk P t x
 |.cap,[x],t :: _=>ug P t x
 |.append,[s,x],t :: u :: _=>JQ P t u s x
 |.copy,[d,x],t :: _=>vh P t d x
 |.min,x :: l,_=>⟨λenv st=>jQ (JY min2 (x.run env) (yb (λx=>x.run env) l)) λv=>.ok v st⟩
 |.max,x :: l,_=>⟨λenv st=>jQ (JY max2 (x.run env) (yb (λx=>x.run env) l)) λv=>.ok v st⟩
 |_,_,_=>NOE
def jgv (P:Program)(want:Array (String×TypeId))(t:TypeId):Option Bool:=
 (P.info? t).map λi=>(Instr.missingMethod want i.methods).isSome
def Q5 (P:Program)(x:OF)(asserted:TypeId):EF:=
 match Kc P asserted with
 |none=>NOE
 |some z=>
  match P.underlying asserted with
  |some (.interface want)=>
   ⟨λenv st=>match x.run env with
    |.nilif=>.ok (.tup [z,.bool false]) st
    |.iface t v=>jQ (jgv P want t) λb=>cond b (.ok (.tup [z,.bool false]) st) (.ok (.tup [.iface t v,.bool true]) st)
    |_=>.no⟩
  |some _=>⟨λenv st=>match x.run env with
    |.nilif=>.ok (.tup [z,.bool false]) st
    |.iface t v=>cond (Qcb t asserted) (.ok (.tup [v,.bool true]) st) (.ok (.tup [z,.bool false]) st)
    |_=>.no⟩
  |none=>NOE
def uF (x:OF):EF:=
 ⟨λenv st=>qU (x.run env) λr o=>cond (Qcb o 0) (match jr st.h r with
  |some (.iter s pos)=>
   cond (Qcd (jM s) pos) (.ok (.tup [.bool false]) st)
    (force (yr 0 s pos) λc=>cond (Qcd c 127) (st.put r (.iter s (Qcc pos)) λst=>.ok (.tup [.bool true,.int .i64 (.ofNat pos),.int .i32 (.ofNat c)]) st) .no)
  |_=>.no) .no⟩
def Jy (x:OF):EF:=
 ⟨λenv st=>match x.run env with | .nilp=>.no | .nilif=>.no | .nilf=>.no | .bad=>.no|v=>.ok v st⟩
def jo (P:Program)(op:Operand->OF)(o:Op):EF:=
 match o with
 |.move x=>⟨λenv st=>.ok ((op x).run env) st⟩
 |.assign x=>⟨λenv st=>.ok ((op x).run env) st⟩
 |.pick c a b=>⟨λenv st=>Ye ((op c).run env) λq=>.ok (cond q ((op a).run env) ((op b).run env)) st⟩
 |.alloc t=>match zeroCells P t with|some z=>cond (lall AV.cell z) ⟨λ_ st=>newRow st z⟩ NOE|none=>NOE
 |.box _ x=>⟨λenv st=>cond (lall AV.cell ((op x).run env).cells) (newRow st ((op x).run env).cells) .no⟩
 |.build t ps=>uj P t (yb (λp=>(p.1,op p.2)) ps.toList)
 |.buildSlice t n ps=>Ya P t n (yb (λp=>(p.1,op p.2)) ps.toList)
 |.load t a=>Xd P t (op a)
 |.store t a x=>gA P t (op a) (op x)
 |.nilCheck x=>Jy (op x)
 |.binOp b t x y _=>Jv P b t (Region.isConst x ||Region.isConst y) (op x) (op y)
 |.unOp b _ x=>XW b (op x)
 |.convert s d x=>Jd P s d (op x)
 |.makeInterface t x=>match P.underlying t with|some (.interface _)=>NOE|some _=>⟨λenv st=>.ok (.iface t ((op x).run env)) st⟩|none=>NOE
 |.makeFunc (.func f) first caps=>match first.toList with|[]=>⟨λenv st=>.ok (.fn f (yb (λx=>(op x).run env) caps.toList)) st⟩|_=>NOE
 |.makeMap _ none=>⟨λ_ st=>st.alloc (.map []) λb st=>.ok (.map b) st⟩
 |.makeSlice t l c=>Yy P t (op l) (op c)
 |.slice t x lo hi mx=>J1 P t (op x) (lo.map op) (hi.map op) (mx.map op)
 |.fieldAddr s x f=>Xf P s (op x) f
 |.field s x f=>wm P s (op x) f
 |.indexAddr t x i=>Qm P t (op x) (op i)
 |.index t x i=>Zj P t (op x) (op i)
 |.lookup t m k ok=>XM P t (op m) (op k) ok
 |.mapUpdate t m k v=>JF P t (op m) (op k) (op v)
 |.range t x=>match P.underlying t with
  |some .string=>⟨λenv st=>zp ((op x).run env) λs=>st.alloc (.iter s 0) λb st=>.ok (.ptr b 0) st⟩
  |_=>NOE
 |.next it true=>uF (op it)
 |.typeAssert x _ t true=>Q5 P (op x) t
 |.panic x=>⟨λenv st=>match (op x).run env with | .iface t v=>.pn (.iface t v) st|_=>.no⟩
 |.extract x i=>⟨λenv st=>match (op x).run env with | .tup vs=>cond (Qcd (Qcc i) (jM vs)) (.ok (yr .bad vs i) st) .no|_=>.no⟩
 |.defer c=>match c.callee with
  |.value f=>⟨λenv st=>match (op f).run env with
   |.fn f caps=>.ok qf ⟨st.nx,st.h,st.dirty,Qao (f,y6 (yb (λx=>(op x).run env) c.args.toList) caps) st.fr⟩
   |_=>.no⟩
  |_=>NOE
 |.call c=>match c.callee with
  |.builtin b=>qw P b c.argTypes (yb op c.args.toList)
  |_=>NOE
 |_=>NOE
def qm (o:Op):Option (Operand×List Operand):=
 match o with
 |.call c=>match c.callee with | .value f=>some (f,c.args.toList)|_=>none
 |_=>none
structure WF where
 run:Env->Option Bool
def ye (op:Operand->OF)(ops:Array Oper)(o:Oper):Option WF:=
 match o.guard with
 |none=>none
 |some (j,want)=>
  match (ops[j]?).bind (·.dst) with
  |some d=>some ⟨λenv=>match (op (.tmp d)).run env with | .bool b=>some (cond b want (cond want false true)) | .bad=>none|_=>some false⟩
  |none=>some ⟨λ_=>none⟩
def zt (U:Nat)(ns:List Nat):LF:=
 List.rec (motive:=λ_=>LF) ⟨λ_ t=>t⟩
  (λn _ ih=>cond (inU U n) ⟨λrs t=>List.casesOn rs t (λv rs=>(jZ (jI n)).run v (ih.run rs t))⟩
   ⟨λrs t=>List.casesOn rs t (λ_ rs=>ih.run rs t)⟩) ns
def qn (dst:Option Tmp)(ns:List Nat):List Nat:=
 match dst with
 |some d=>Qao d ns
 |none=>ns
structure VF where
 run:AV->List AV->List AV
def yK (dst:Option Tmp):VF:=
 match dst with
 |some _=>⟨λv rs=>Qao v rs⟩
 |none=>⟨λ_ rs=>rs⟩
inductive Cl where
 |pure
 |reads
 |makes
 |writes
 |other
def jR (P:Program)(o:Op):Cl:=
 match o with
 |.move _=>.pure | .assign _=>.pure | .pick _ _ _=>.pure | .build _ _=>.pure | .nilCheck _=>.pure | .binOp _ _ _ _ _=>.pure | .unOp _ _ _=>.pure
 |.makeInterface _ _=>.pure | .makeFunc _ _ _=>.pure | .slice _ _ _ _ _=>.pure | .fieldAddr _ _ _=>.pure | .field _ _ _=>.pure | .indexAddr _ _ _=>.pure | .index _ _ _=>.pure
 |.extract _ _=>.pure
 |.alloc _=>.makes | .box _ _=>.makes | .buildSlice _ _ _=>.makes | .makeSlice _ _ _=>.makes | .makeMap _ _=>.makes
 |.load _ _=>.reads
 |.store _ _ _=>.writes
 |.call c=>match c.callee with
  |.builtin .len=>match c.argTypes.toList with
   |t :: _=>match P.underlying t with|some (.map _ _)=>.other|_=>.pure
   |[]=>.other
  |.builtin .cap=>.pure | .builtin .min=>.pure | .builtin .max=>.pure
  |_=>.other
 |_=>.other
def Jo (c:Cl):Bool:=match c with | .other=>true|_=>false
def Ju (e:Edge):Bool:=match e.ground with | .textOnly _=>false | .gcOnly _=>false|_=>true
def qS (ops:List Oper):List Nat:=
 ops.foldl (λacc o=>acc ++ [o.after.toList.foldl (λs e=>cond (Ju e) (Nat.lor (Nat.lor s (Nat.pow 2 e.on)) (acc.getD e.on 0)) s) 0]) []
def yf (bs:List Nat)(i j:Nat):Bool:=inU (bs.getD i 0) j ||inU (bs.getD j 0) i
def acts (c:Cl):Bool:=match c with | .writes=>true | .other=>true|_=>false
def reads (c:Cl):Bool:=match c with | .reads=>true|_=>false
def JP (c:Cl):Bool:=match c with | .writes=>true|_=>false
def J7 (c:Cl):Bool:=match c with | .makes=>true|_=>false
def zI (P:Program)(ops:Array Oper):Bool:=
 let bs:=qS ops.toList
 (Qae ops.size).all λi=>match ops[i]? with
  |none=>false
  |some o=>o.after.toList.all (λe=>cond (Ju e) (Qcd (Qcc e.on) i) true) &&
   (match o.op with | .select _ _=>false | .defer _=>false | .panic _=>false | .call { callee:=.builtin .recover,.. }=>false|_=>true) &&
   (Qae i).all λj=>match ops[j]? with
    |none=>false
    |some u=>yf bs i j ||(u.apart ops o &&
     !((JP (jR P u.op) && acts (jR P o.op)) ||(acts (jR P u.op) && JP (jR P o.op)) ||(J7 (jR P u.op) && acts (jR P o.op))))
def yJ (P:Program)(ops:Array Oper)(i:Nat)(o:Oper):Bool:=
 let bs:=qS ops.toList
 Jo (jR P o.op) && !(Qae ops.size).all λj=>Qcb i j ||match ops[j]? with
  |none=>false
  |some u=>!Jo (jR P u.op) ||yf bs i j
def partners (P:Program)(ops:Array Oper)(es:List Nat)(i:Nat)(o:Oper):List (Nat×TypeId):=
 es.zipIdx.filterMap λp=>match ops[p.1]? with
  |none=>none
  |some u=>cond (((reads (jR P u.op) && acts (jR P o.op)) ||(acts (jR P u.op) && reads (jR P o.op))) && !yf (qS ops.toList) i p.1)
   (some (p.2,match u.op with | .load t _=>t|_=>0)) none
def GD (x y:AV):Bool:=
 match x with
 |.bool a=>(match y with | .bool b=>cond a b (cond b false true)|_=>false)
 |.int k a=>(match y with | .int k' b=>cond (eqK k k') (eqI a b) false|_=>false)
 |.ptr b o=>(match y with | .ptr b' o'=>cond (Qcb b b') (Qcb o o') false|_=>false)
 |.nilp=>(match y with | .nilp=>true|_=>false)
 |.slice b o len cap sz ex=>(match y with | .slice b' o' len' cap' sz' ex'=>cond (Qcb b b') (cond (Qcb o o') (cond (Qcb len len') (cond (Qcb cap cap') (cond (Qcb sz sz') (cond ex ex' (cond ex' false true)) false) false) false) false) false|_=>false)
 |.nils=>(match y with | .nils=>true|_=>false)
 |.map r=>(match y with | .map r'=>Qcb r r'|_=>false)
 |.nilm=>(match y with | .nilm=>true|_=>false)
 |.nilf=>(match y with | .nilf=>true|_=>false)
 |.nilif=>(match y with | .nilif=>true|_=>false)
 |_=>false
open Classical in
def ZV (a b:List AV):Bool:=decide (a=b)
def XO (x y:AV):Bool:=
 match x with
 |.lst n a=>(match y with | .lst m b=>cond (Qcb n m) (ZV a b) false|_=>false)
 |.xlst n a=>(match y with | .xlst m b=>cond (Qcb n m) (ZV a b) false|_=>false)
 |.lptr a i=>(match y with | .lptr b j=>cond (Qcb i j) (ZV a b) false|_=>false)
 |.str a=>(match y with | .str b=>XX a b|_=>false)
 |x=>GD x y
def wq (l:List AV):List AV->Bool:=
 List.rec (motive:=λ_=>List AV->Bool) (λr=>match r with|[]=>true|_=>false)
  (λx _ ih r=>match r with|y :: r=>cond (XO x y) (ih r) false|[]=>false) l
def jbA (x y:AV):Bool:=
 match x with
 |.agg l=>(match y with | .agg r=>wq l r|_=>false)
 |x=>XO x y
def jW (P:Program)(t:TypeId)(a v:AV)(h:T AO):Bool:=
 match a with
 |.lptr _ _=>true
 |a=>match (qI P t).run a h with
  |some u=>jbA v u
  |none=>false
def held (P:Program)(t:TypeId)(x:TE)(tb:List TE)(l:List (Nat×TypeId)):Bool:=
 List.rec (motive:=λ_=>Bool) true (λp _ ih=>
  cond (match x with
   |.rd a v=>(match yr .none tb p.1 with | .wr pre post=>cond (jW P t a v pre) (jW P t a v post) false | .rd _ _=>false | .none=>true)
   |.wr pre post=>(match yr .none tb p.1 with | .rd a v=>cond (jW P p.2 a v pre) (jW P p.2 a v post) false | .wr _ _=>false | .none=>true)
   |.none=>true) ih false) l
def stW (st:St):St:=⟨st.nx,st.h,st.nx,st.fr⟩
def unW (st st':St)(k:St->R):R:=
 force st.nx λn=>cond (Qcd n st'.dirty) (k ⟨st'.nx,st'.h,st.dirty,st'.fr⟩) .no
def back (st st':St):St:=⟨st'.nx,st'.h,st'.dirty,st.fr⟩
def XY (P:Program)(op:Operand->OF)(fl:LF)(o:Oper)(next:RF):RF:=
 match qm o.op with
 |some (f,args)=>
  ⟨λcall n t rs st=>match (op f).run ⟨t,rs⟩ with
   |.fn f caps=>match call f (y6 (yb (λx=>(op x).run ⟨t,rs⟩) args) caps) st with
    |.ok v st'=>next.run call n t ((yK o.dst).run v rs) (back st st')
    |.pn v st'=>.pn v (fl.run rs t) (back st st')
    |.no=>.no
   |_=>.no⟩
 |none=>
  ⟨λcall n t rs st=>match (jo P op o.op).run ⟨t,rs⟩ st with
   |.ok v st'=>next.run call n t ((yK o.dst).run v rs) st'
   |.pn v st'=>.pn v (fl.run rs t) st'
   |.no=>.no⟩
def vT (w:Option WF)(dst:Option Tmp)(step next:RF):RF:=
 match w with
 |none=>step
 |some w=>⟨λcall n t rs st=>match w.run ⟨t,rs⟩ with
  |some b=>cond b (step.run call n t rs st) (next.run call n t ((yK dst).run qf rs) st)
  |none=>.no⟩
def yT (P:Program)(U:Nat)(ops:Array Oper)(l:List Oper):List Nat->RF:=
 List.rec (motive:=λ_=>List Nat->RF) (λns=>⟨λ_ _ t rs st=>.go ((zt U ns).run rs t) st⟩)
  (λo _ ih ns=>vT (ye (jL U ns) ops o) o.dst (XY P (jL U ns) (zt U ns) o (ih (qn o.dst ns))) (ih (qn o.dst ns))) l
structure OD where
 run:qx->Env->St->(AV->TE->St->R)->(AV->St->R)->R
def Qw (P:Program)(op:Operand->OF)(o:Op)(te:AV->T AO->T AO->Env->TE):OD:=
 ⟨λ_ env st k _=>match (jo P op o).run env st with
  |.ok v st'=>k v (te v st.h st'.h env) st'
  |_=>.no⟩
def opD (P:Program)(op:Operand->OF)(w:Bool)(o:Op):OD:=
 match qm o with
 |some (f,args)=>
  cond w
   ⟨λcall env st k _=>match (op f).run env with
    |.fn f caps=>match call f (y6 (yb (λx=>(op x).run env) args) caps) (stW st) with
     |.ok v st'=>unW st st' λst'=>k v (.wr st.h st'.h) (back st st')
     |_=>.no
    |_=>.no⟩
   ⟨λcall env st k kp=>match (op f).run env with
    |.fn f caps=>match call f (y6 (yb (λx=>(op x).run env) args) caps) st with
     |.ok v st'=>k v (.wr st.h st'.h) (back st st')
     |.pn v st'=>kp v (back st st')
     |.no=>.no
    |_=>.no⟩
 |none=>
  match jR P o,o with
  |.pure,_=>Qw P op o λ_ _ _ _=>.none
  |.makes,_=>Qw P op o λ_ _ _ _=>.none
  |.reads,.load _ a=>Qw P op o λv _ _ env=>.rd ((op a).run env) v
  |.reads,_=>⟨λ_ _ _ _ _=>.no⟩
  |.writes,_=>Qw P op o λ_ pre post _=>.wr pre post
  |.other,_=>
   cond w
    ⟨λ_ env st k _=>match (jo P op o).run env (stW st) with
     |.ok v st'=>unW st st' λst'=>k v (.wr st.h st'.h) st'
     |_=>.no⟩
    (Qw P op o λ_ pre post _=>.wr pre post)
def JG (o:Op):TypeId:=match o with | .load t _=>t|_=>0
def zT (P:Program)(op:Operand->OF)(w:Bool)(l:List (Nat×TypeId))(o:Oper)(next:RD)(pan:AV->St->RD):RD:=
 ⟨λcall n t rs tb st=>(opD P op w o.op).run call ⟨t,rs⟩ st (λv te st'=>
  cond (held P (JG o.op) te tb l) (next.run call n t ((yK o.dst).run v rs) (Qao te tb) st') .no)
  (λv st'=>(pan v st').run call n t rs tb st)⟩
def uv (dst:Option Tmp)(next:RD):RD:=
 ⟨λcall n t rs tb st=>next.run call n t ((yK dst).run qf rs) (Qao .none tb) st⟩
def JM (w:Option WF)(dst:Option Tmp)(step next:RD):RD:=
 match w with
 |none=>step
 |some w=>⟨λcall n t rs tb st=>match w.run ⟨t,rs⟩ with
  |some b=>cond b (step.run call n t rs tb st) ((uv dst next).run call n t rs tb st)
  |none=>.no⟩
def Yp:RD:=⟨λ_ _ _ _ _ _=>.no⟩
def yq (P:Program)(U:Nat)(ops:Array Oper)(fin:List Nat->RD)(pan:Nat->List Nat->List Nat->AV->St->RD)(abs:Nat->Bool)(l:List Nat):List Nat->List Nat->RD:=
 List.rec (motive:=λ_=>List Nat->List Nat->RD) (λ_ ns=>fin ns)
  (λi _ ih es ns=>match ops[i]? with
   |some o=>cond (abs i) (uv o.dst (ih (Qao i es) (qn o.dst ns)))
    (JM (ye (jL U ns) ops o) o.dst
     (zT P (jL U ns) (yJ P ops i o) (partners P ops es i o) o (ih (Qao i es) (qn o.dst ns)) (pan i es ns))
     (ih (Qao i es) (qn o.dst ns)))
   |none=>Yp) l
def Qu (U:Nat)(ns:List Nat):RD:=⟨λ_ _ t rs _ st=>.go ((zt U ns).run rs t) st⟩
def GH (U:Nat)(ops:Array Oper)(i:Nat):Bool:=
 match ops[i]? with
 |some o=>match o.dst with|some d=>!inU U d|none=>true
 |none=>false
def zV (ops:Array Oper)(i:Nat)(k:Nat):Bool:=Qcb k i ||inU ((qS ops.toList).getD k 0) i
def Kz (P:Program)(U:Nat)(ops:Array Oper)(i:Nat):Bool:=
 (Qae ops.size).all (λk=>zV ops i k ||GH U ops k) && (Qae i).all λp=>match ops[p]? with
  |some u=>inU ((qS ops.toList).getD i 0) p ||!(J7 (jR P u.op) ||acts (jR P u.op))
  |none=>false
def QQ (P:Program)(U:Nat)(ops:Array Oper)(i:Nat)(es ns:List Nat)(v:AV)(st':St):RD:=
 cond (Kz P U ops i)
  ⟨λcall n t rs tb st=>match (yq P U ops (Qu U) (λ_ _ _ _ _=>Yp) (zV ops i) (Qaa i (Qcg ops.size i)) es ns).run call n t rs tb st with
   |.go _ _=>.pn v t st'
   |_=>.no⟩ Yp
def YF (P:Program)(U:Nat)(ops:Array Oper):RD:=yq P U ops (Qu U) (QQ P U ops) (λ_=>false) (Qae ops.size) [] []
def NOC:CF:=⟨λ_ _ _ _=>.no⟩
def jhj (P:Program)(U:Nat)(ops:Array Oper)(draw:Bool):CF:=
 match draw with
 |false=>⟨λcall n t st=>(yT P U ops ops.toList []).run call n t [] st⟩
 |true=>cond (zI P ops) ⟨λcall n t st=>(YF P U ops).run call n t [] [] st⟩ NOC
def ZB (body:CF)(call:qx)(n:Nat)(k:Nat):T AV->St->R:=
 Nat.rec (motive:=λ_=>T AV->St->R) (λ_ _=>.no) (λ_ ih env st=>match body.run call n env st with | .go env st=>ih env st|r=>r) k
def comp (P:Program)(U:Nat)(c:Code):CF:=
 Code.rec (motive:=λ_=>CF)
  ⟨λ_ _ env st=>.go env st⟩
  (λ_ ops d=>jhj P U ops d)
  (λ_ _ A B=>⟨λcall n env st=>match A.run call n env st with | .go env st=>B.run call n env st|r=>r⟩)
  (λx _ _ A B=>⟨λcall n env st=>match (jL U [] x).run ⟨env,[]⟩ with | .bool q=>cond q (A.run call n env st) (B.run call n env st)|_=>.no⟩)
  (λid _ A=>⟨λcall n env st=>match A.run call n env st with | .ex id' env st=>cond (Qcb id' id) (.go env st) (.ex id' env st)|r=>r⟩)
  (λ_ A=>⟨λcall n env st=>ZB A call n n env st⟩)
  (λ_ _ _ _ _ _=>NOC)
  (λid=>⟨λ_ _ env st=>.ex id env st⟩)
  (λ_ _=>NOC)
  (λ_=>NOC)
  (λ_=>NOC)
  ⟨λ_ _ env st=>.rt env st⟩
  (λ_=>NOC)
  c
def jjY (l:List Nat)(U:Nat)(x:Operand):Nat:=
 match x with
 |.tmp t=>cond (l.elem t) U (Nat.lor U (Nat.pow 2 t))
 |_=>U
def HI:List Oper->List Nat->Nat->Nat
 |[],_,U=>U
 |o :: rest,l,U=>HI rest (qn o.dst l) (o.op.operands.toList.foldl (jjY l) U)
def jlj (c:Code):Nat:=
 Code.rec (motive:=λ_=>Nat->Nat)
  (λU=>U)
  (λ_ ops _ U=>HI ops.toList [] U)
  (λ_ _ A B U=>B (A U))
  (λx _ _ A B U=>B (A (jjY [] U x)))
  (λ_ _ A U=>A U)
  (λ_ A U=>A U)
  (λ_ _ _ _ _ _ U=>U)
  (λ_ U=>U)
  (λ_ A U=>A U)
  (λ_ U=>U)
  (λ_ U=>U)
  (λU=>U)
  (λ_ U=>U)
  c 0
def jg9 (l:List ResultVar)(U:Nat):Nat:=
 l.foldl (λU r=>match r with | .tmp t=>Nat.lor U (Nat.pow 2 t) | .cell t _=>Nat.lor U (Nat.pow 2 t)) U
def zy (l:List AV):Nat->T AV->T AV:=
 List.rec (motive:=λ_=>Nat->T AV->T AV) (λ_ env=>env) (λv _ ih i env=>ih (Qcc i) ((jZ (jI i)).run v env)) l
structure XF where
 run:Env->St->Option AV
def JO (P:Program)(U:Nat):ResultVar->XF
 |.tmp t=>⟨λenv _=>some ((jL U [] (.tmp t)).run env)⟩
 |.cell a t=>⟨λenv st=>(qI P t).run ((jL U [] (.tmp a)).run env) st.h⟩
def yA (P:Program)(U:Nat)(l:List ResultVar)(env:Env)(st:St):Option (List AV):=
 List.rec (motive:=λ_=>Option (List AV)) (some []) (λr _ ih=>match (JO P U r).run env st,ih with|some v,some vs=>some (Qao v vs)|_,_=>none) l
def zd (l:List AV):AV:=
 match l with
 |[v]=>v
 |vs=>.tup vs
def St.bare (st:St):St:=⟨st.nx,st.h,st.dirty,[]⟩
structure DF where
 run:FuncId->List AV->Md->St->DR
def yZ (P:Program)(U:Nat)(callD:DF)(res:List ResultVar)(ds:List (FuncId×List AV)):T AV->St->Md->ER:=
 List.rec (motive:=λ_=>T AV->St->Md->ER)
  (λenv st m=>match m with
   |.calm=>(match yA P U res ⟨env,[]⟩ st with|some vs=>.ok (zd vs) st|none=>.no)
   |.pan v=>.pn v st
   |.done=>.no)
  (λd _ ih env st m=>match callD.run d.1 d.2 m st.bare with
   |.ok m' st'=>(match m' with
    |.calm=>ih env st'.bare .calm
    |.pan v=>ih env st'.bare (.pan v)
    |.done=>ih env st'.bare .calm)
   |.no=>.no) ds
def qX (fn:Func)(body:Code):Nat:=jg9 fn.results.toList (jlj body)
def GU (P:Program)(f:FuncId)(k:Func->Nat->CF->FF):FF:=
 match P.funcs[f]? with
 |some fn=>match fn.body with
  |some body=>k fn (qX fn body) (comp P (qX fn body) body)
  |none=>⟨λ_ _ _ _=>.no⟩
 |none=>⟨λ_ _ _ _=>.no⟩
structure HF where
 run:qx->Nat->List AV->Md->St->DR
def NOH:HF:=⟨λ_ _ _ _ _=>.no⟩
def Xa (m:Md):AV:=match m with | .pan v=>v|_=>.nilif
def Xw (m:Md):Md:=match m with | .pan _=>.done|m=>m
def Vu (P:Program)(fn:Func)(U:Nat)(m:Md)(r:R):DR:=
 match r with
 |.go env st=>(match st.fr with|[]=>(match yA P U fn.results.toList ⟨env,[]⟩ st with|some _=>.ok m st|none=>.no)|_=>.no)
 |.rt env st=>(match st.fr with|[]=>(match yA P U fn.results.toList ⟨env,[]⟩ st with|some _=>.ok m st|none=>.no)|_=>.no)
 |_=>.no
def ZD (o:Oper):Bool:=
 match o.op with
 |.call c=>(match c.callee with
  |.builtin .recover=>(match c.args.toList,o.guard with|[],none=>true|_,_=>false)
  |_=>false)
 |_=>false
def VQ (P:Program)(fn:Func)(U:Nat)(o:Oper)(A:RF)(B:CF):HF:=
 ⟨λcall n args m st=>Vu P fn U (Xw m) (match A.run call n (zy args 0 .e) ((yK o.dst).run (Xa m) []) st with
  |.go env st=>B.run call n env st
  |r=>r)⟩
def yM (P:Program)(f:FuncId):HF:=
 match P.funcs[f]? with
 |some fn=>
  match fn.body with
  |some (.seq (.region id ops false) c)=>
   match ops.toList with
   |o :: l=>cond (ZD o) (VQ P fn (qX fn (.seq (.region id ops false) c)) o (yT P (qX fn (.seq (.region id ops false) c)) ops l (qn o.dst []))
    (comp P (qX fn (.seq (.region id ops false) c)) c)) NOH
   |[]=>NOH
  |some (.region id ops false)=>
   match ops.toList with
   |o :: l=>cond (ZD o) (VQ P fn (qX fn (.region id ops false)) o (yT P (qX fn (.region id ops false)) ops l (qn o.dst [])) ⟨λ_ _ env st=>.go env st⟩) NOH
   |[]=>NOH
  |_=>NOH
 |none=>NOH
def Qo (P:Program)(f:FuncId):FF:=
 GU P f λfn U C=>⟨λcall n args st=>match C.run call n (zy args 0 .e) ⟨st.nx,st.h,st.dirty,[]⟩ with
  |.go env st=>yZ P U ⟨λf args m st=>(yM P f).run call n args m st⟩ fn.results.toList st.fr env st.bare .calm
  |.rt env st=>yZ P U ⟨λf args m st=>(yM P f).run call n args m st⟩ fn.results.toList st.fr env st.bare .calm
  |.pn v env st=>yZ P U ⟨λf args m st=>(yM P f).run call n args m st⟩ fn.results.toList st.fr env st.bare (.pan v)
  |_=>.no⟩
def VG (P:Program)(loops depth:Nat):qx:=
 Nat.rec (motive:=λ_=>qx) (λ_ _ _=>.no) (λ_ ih f args st=>(Qo P f).run ih loops args st) depth
def st0:St:={ nx:=0,h:=.e,dirty:=0,fr:=[] }
def Qb (n:Nat)(c:Code):Bool:=
 Code.rec (motive:=λ_=>Bool)
  true
  (λ_ ops _=>Vw (λo=>match o.dst with|some d=>Qcd (Qcc d) n|none=>true) ops.toList)
  (λ_ _ a b=>cond a b false)
  (λ_ _ _ a b=>cond a b false)
  (λ_ _ a=>a)
  (λ_ a=>a)
  (λ_ _ _ _ a b=>cond a b false)
  (λ_=>true)
  (λ_ a=>a)
  (λ_=>true)
  (λ_=>true)
  true
  (λ_=>true)
  c
def okP (P:Program):Bool:=
 Vw (λfn => match fn.body with | none => true | some c => cond (Qb fn.ntmps c) (!(fn.name == "runtime.NumGoroutine")) false) P.funcs.toList
def jdf:ER->Bool
 |.ok (.bool b) _=>b
 |_=>false
end plain
@[simp] theorem jB {α:Type} (n:Nat) (k:Nat->α):force n k=k n:=by cases n<;>rfl
def VT (f n:Nat):List Bool:=
 Nat.rec (motive:=λ_=>Nat->List Bool) (λ_=>[]) (λ_ ih n=>cond (Qcb n 0) [] (Qao (Qcb (Nat.mod n 2) 1) (ih (Nat.div n 2)))) f n
theorem GV (n:Nat):jI n=VT (n+1) n:=rfl
theorem jbM (f n:Nat):VT (f+1) n=if n=0 then [] else decide (n % 2=1) :: VT f (n / 2):=by
 show cond (Qcb n 0) [] (Qao (Qcb (Nat.mod n 2) 1) (VT f (Nat.div n 2)))=_;by_cases h:n=0
 ·subst h;rfl
 ·have hb:Qcb n 0=false:=by
   cases n with
   |zero=>exact absurd rfl h
   |succ n=>rfl
  rw[hb,if_neg h];have:Qcb (Nat.mod n 2) 1=decide (n % 2=1):=by
   rw[Qax,decide_eq_true_iff];exact Nat.beq_eq▸Iff.rfl
  rw[this];rfl
def Z6:List Bool->Nat
 |[]=>0
 |b :: l=>(if b then 1 else 0)+2 * Z6 l
theorem u7 (f:Nat):∀ n,n<f->Z6 (VT f n)=n:=by
 induction f with
 |zero=>intro n h;omega
 |succ f ih=>
  intro n h;rw[jbM];by_cases h0:n=0
  ·simp[h0,Z6]
  ·simp only[if_neg h0,Z6];rw[ih (n / 2) om];by_cases h1:n % 2=1
   ·simp[h1];omega
   ·simp[h1];omega
theorem jdR {m n:Nat}(h:jI m=jI n):m=n:=by
 have h1:=u7 (m+1) m om;have h2:=u7 (n+1) n om;have e:Z6 (jI m)=Z6 (jI n):=by rw[h]
 rw[GV,GV] at e;exact h1.symm.trans (e.trans h2)
section
variable {α:Type}
theorem jab (t:T α):(JS (α:=α) []).run t=t.val:=rfl
theorem Zk (b:Bool)(p:List Bool)(t:T α):(JS (b :: p)).run t=(JS p).run (if b then t.left else t.right):=by
 cases b<;>rfl
theorem Ur (x:α)(t:T α):((jZ []).run x t).val=some x/\((jZ []).run x t).left=t.left/\((jZ []).run x t).right=t.right:=by
 cases t<;>exact⟨rfl,rfl,rfl⟩
theorem Wv (b:Bool)(p:List Bool)(x:α)(t:T α):((jZ (b :: p)).run x t).val=t.val /\
  ((jZ (b :: p)).run x t).left=(if b then(jZ p).run x t.left else t.left)/\((jZ (b :: p)).run x t).right=(if b then t.right else(jZ p).run x t.right):=by
 cases b<;>cases t<;>exact⟨rfl,rfl,rfl⟩
theorem vU:∀ (p q:List Bool) (x:α) (t:T α),(JS p).run ((jZ q).run x t)=if p=q then some x else(JS p).run t
 |[],[],x,t=>by simp[jab,(Ur x t).1]
 |[],b :: q,x,t=>by simp[jab,(Wv b q x t).1]
 |b :: p,[],x,t=>by
  rw[Zk,Zk,(Ur x t).2.1,(Ur x t).2.2];simp
 |b :: p,c :: q,x,t=>by
  rw[Zk,Zk,(Wv c q x t).2.1,(Wv c q x t).2.2];cases b<;>cases c<;>simp[vU p q]
theorem Q2 (m n:Nat)(x:α)(t:T α):(JS (jI m)).run ((jZ (jI n)).run x t)=if m=n then some x else(JS (jI m)).run t:=by
 rw[vU];by_cases h:m=n
 ·subst h;simp
 ·have:jI m≠jI n:=λe=>h (jdR e);simp[h,this]
theorem QH (p:List Bool):(JS p).run (.e:T α)=none:=by
 induction p with
 |nil=>rfl
 |cons b p ih=>rw[Zk];cases b<;>exact ih
end
theorem UB (h:T AO)(b:Nat):jr h b=(JS (jI b)).run h:=by simp[jr]
theorem jV (h:T AO)(b c:Nat)(o:AO):jr ((jZ (jI c)).run o h) b=if b=c then some o else jr h b:=by
 rw[UB,Q2,UB]
theorem jjs (b:Nat):jr .e b=none:=by rw[UB,QH]
section
variable {α β:Type}
@[simp] theorem jO (l:List α):jM l=l.length:=by
 induction l with
 |nil=>rfl
 |cons a l ih=>show force (jM l) Qcc=_;rw[ih];simp
@[simp] theorem zk (d:α):∀ (l:List α) (i:Nat),yr d l i=l.getD i d
 |[],i=>rfl
 |a :: l,0=>rfl
 |a :: l,i+1=>by show yr d l i=_;rw[zk d l i];simp
@[simp] theorem y4:∀ (l:List α) (i:Nat),y5 l i=l.drop i
 |[],i=>by simp[y5]
 |a :: l,0=>rfl
 |a :: l,i+1=>by show y5 l i=_;rw[y4 l i];simp
@[simp] theorem q8:∀ (l:List α) (i:Nat),yu l i=l.take i
 |[],i=>by simp[yu]
 |a :: l,0=>rfl
 |a :: l,i+1=>by show a :: yu l i=_;rw[q8 l i];simp
@[simp] theorem yS (l r:List α):y6 l r=l ++ r:=by
 induction l with
 |nil=>rfl
 |cons a l ih=>show a :: y6 l r=_;rw[ih];rfl
@[simp] theorem yE (f:α->β) (l:List α):yb f l=l.map f:=by
 induction l with
 |nil=>rfl
 |cons a l ih=>show f a :: yb f l=_;rw[ih];rfl
end
@[simp] theorem Jn (p:AV->Bool) (l:List AV):lall p l=l.all p:=by
 induction l with
 |nil=>rfl
 |cons a l ih=>show cond (p a) (lall p l) false=_;rw[ih];cases h:p a<;>simp[h]
theorem yY (zl:Nat)(z:List AV)(cs:T AV)(i:Nat):qv zl z cs i=((JS (jI i)).run cs).getD (z.getD (i % zl) .bad):=by
 simp only[qv,jB,zk];cases (JS (jI i)).run cs<;>rfl
@[simp] theorem qr (zl:Nat) (z:List AV) (cs:T AV):∀ (k i:Nat),jN zl z cs k i=(Qae k).map λj=>qv zl z cs (i+j)
 |0,i=>rfl
 |k+1,i=>by
  show qv zl z cs i :: jN zl z cs k (Qcc i)=_;rw[qr zl z cs k,List.range_succ_eq_map];simp only[ν,QaV,QaP]
  congr 1
  apply QaW;intro j _;simp only[Function.comp]
  congr 1
  omega
theorem Hg (zl:Nat)(z:List AV)(cs:T AV)(i j:Nat)(v:AV):qv zl z ((jZ (jI j)).run v cs) i=if i=j then v else qv zl z cs i:=by
 rw[yY,yY,Q2];split<;>rfl
theorem yO (zl:Nat)(z:List AV):∀ (l:List AV) (cs:T AV) (j i:Nat),
  qv zl z (qh l cs j) i=if j<=i/\i<j+l.length then l.getD (i - j) .bad else qv zl z cs i
 |[],cs,j,i=>by
  have:¬ (j<=i/\i<j+([]:List AV).length):=by simp
  rw[if_neg this];rfl
 |v :: l,cs,j,i=>by
  have e:qh (v :: l) cs j=qh l ((jZ (jI j)).run v cs) (j+1):=by
   show(force j λi=>qh l ((jZ (jI i)).run v cs) (Qcc i))=_;rw[jB]
  rw[e,yO zl z l,Hg];by_cases h:i=j
  ·subst h;simp;omega
  ·by_cases h2:j+1<=i/\i<j+1+l.length
   ·have h3:j<=i/\i<j+(v :: l).length:=by simp;omega
    rw[if_pos h2,if_pos h3];obtain⟨k,hk⟩:∃ k,i - j=k+1:=⟨i - j - 1,om⟩;rw[hk];have:i - (j+1)=k:=om
    simp[this]
   ·have h3:¬ (j<=i/\i<j+(v :: l).length):=by simp at h2 ⊢;omega
    rw[if_neg h2,if_neg h3,if_neg h]
theorem qD {a b:Nat}:Qcb a b=true↔a=b:=by rw[Nat.beq_eq]
theorem qe {a b:Nat}:Qcd a b=true↔a<=b:=by rw[Nat.ble_eq]
open Go.RowKit
inductive Loc where
 |unborn
 |dead
 |at (B S:Nat)
structure Inj where
 f:Nat->Loc
 g:Nat->Option (List Value)
instance:CoeFun Inj λ_=>Nat->Loc:=⟨Inj.f⟩
def Inj.gone (ι:Inj):Inj:=⟨λ_=>.unborn,ι.g⟩
mutual
def VR (ι:Inj):AV->Value->Prop
 |.bool b,v=>v=.bool b
 |.int k n,v=>v=.int k n
 |.str s,v=>∃ bs:ByteArray,v=.string bs/\bs.data.toList.map UInt8.toNat=s
 |.zstr n,v=>∃ bs:ByteArray,v=.string bs/\bs.size=n
 |.ptr b o,v=>ι b≠.unborn/\∃ a,v=.pointer (some a)/\∀ B S,ι b=.at B S->a=⟨B,o,none⟩
 |.nilp,v=>v=.pointer none
 |.slice b o len cap sz ex,v=>ι b≠.unborn/\len<=cap/\∃ a C,v=.slice (some a) len C/\cap<=C/\(ex=true->C=cap)/\∀ B S,ι b=.at B S->(C=0\/a=⟨B,o,none⟩)/\(ex=false->o+C * sz<=S)
 |.nils,v=>v=.slice none 0 0
 |.map r,v=>ι r≠.unborn/\∃ R,v=.map (some R)/\∀ B S,ι r=.at B S->R=B
 |.nilm,v=>v=.map none
 |.fn f caps,v=>∃ cv:Array Value,v=.func (.func f) #[] cv/\VRs ι caps cv.toList
 |.nilf,v=>v=.nilFunc
 |.iface t x,v=>∃ y,v=.iface t y/\VR ι x y
 |.nilif,v=>v=.nilIface
 |.agg cs,v=>∃ a:Array Value,v=.agg a/\VRs ι cs a.toList
 |.tup vs,v=>∃ a:Array Value,v=.tuple a/\VRs ι vs a.toList
 |.xlst n cs,v=>∃ p,v=.slice p n n/\cs.all AV.cell=true/\(0<n->∃ B o vs,p=some ⟨B,o,none⟩/\ι.g B=some vs/\o+cs.length<=vs.length/\VRs ι.gone cs ((vs.drop o).take cs.length))
 |.lst n cs,v=>∃ p C,v=.slice p n C/\n<=C/\cs.all AV.cell=true/\(0<n->∃ B o vs,p=some ⟨B,o,none⟩/\ι.g B=some vs/\o+cs.length<=vs.length/\VRs ι.gone cs ((vs.drop o).take cs.length))
 |.lptr cs k,v=>∃ B o vs,v=.pointer (some ⟨B,o+k,none⟩)/\cs.all AV.cell=true/\ι.g B=some vs/\o+cs.length<=vs.length/\VRs ι.gone cs ((vs.drop o).take cs.length)
 |.bad,_=>True
def VRs (ι:Inj):List AV->List Value->Prop
 |[],l=>l=[]
 |x :: xs,l=>∃ v vs,l=v :: vs/\VR ι x v/\VRs ι xs vs
end
def Le (ι ι':Inj):Prop:=(∀ b,ι b≠.unborn->ι' b=ι b\/ι' b=.dead)/\∀ B vs,ι.g B=some vs->ι'.g B=some vs
theorem Le.refl (ι:Inj):Le ι ι:=⟨λ_ _=>.inl rfl,λ_ _ h=>h⟩
theorem Le.trans {a b c:Inj}(h:Le a b)(k:Le b c):Le a c:=⟨λx hx=>by
 rcases h.1 x hx with e|e
 ·have:b x≠.unborn:=by rw[e];exact hx
  rcases k.1 x this with e'|e'
  ·exact .inl (e'.trans e)
  ·exact .inr e'
 ·have:b x≠.unborn:=by rw[e];simp
  rcases k.1 x this with e'|e'
  ·exact .inr (e'.trans e)
  ·exact .inr e',λB vs hB=>k.2 B vs (h.2 B vs hB)⟩
theorem Le.born {ι ι':Inj}(h:Le ι ι'){b:Nat}(hb:ι b≠.unborn):ι' b≠.unborn:=by
 rcases h.1 b hb with e|e
 ·rw[e];exact hb
 ·rw[e];simp
theorem Le.at {ι ι':Inj}(h:Le ι ι'){b B S:Nat}(hb:ι b≠.unborn)(e:ι' b=.at B S):ι b=.at B S:=by
 rcases h.1 b hb with k|k
 ·rw[<-k];exact e
 ·rw[k] at e;cases e
mutual
theorem VR.gmono {ι ι':Inj}(h:∀ B vs,ι.g B=some vs->ι'.g B=some vs):∀ (x:AV) (v:Value),VR ι.gone x v->VR ι'.gone x v
 |.bool _,_,k=>k
 |.int _ _,_,k=>k
 |.str _,_,k=>k
 |.zstr _,_,k=>k
 |.ptr b o,v,k=>by simp only[VR] at k;exact absurd rfl k.1
 |.nilp,_,k=>k
 |.slice b o len cap sz ex,v,k=>by simp only[VR] at k;exact absurd rfl k.1
 |.nils,_,k=>k
 |.map r,v,k=>by simp only[VR] at k;exact absurd rfl k.1
 |.nilm,_,k=>k
 |.fn f caps,v,k=>by
  simp only[VR] at k ⊢;obtain⟨cv,rfl,hc⟩:=k;exact⟨cv,rfl,VRs.gmono h caps _ hc⟩
 |.nilf,_,k=>k
 |.iface t x,v,k=>by
  simp only[VR] at k ⊢;obtain⟨y,rfl,hy⟩:=k;exact⟨y,rfl,VR.gmono h x y hy⟩
 |.nilif,_,k=>k
 |.agg cs,v,k=>by
  simp only[VR] at k ⊢;obtain⟨cv,rfl,hc⟩:=k;exact⟨cv,rfl,VRs.gmono h cs _ hc⟩
 |.tup cs,v,k=>by
  simp only[VR] at k ⊢;obtain⟨cv,rfl,hc⟩:=k;exact⟨cv,rfl,VRs.gmono h cs _ hc⟩
 |.lst n cs,v,k=>by
  simp only[VR] at k ⊢;obtain⟨p,C,rfl,hC,hc,hn⟩:=k;exact⟨p,C,rfl,hC,hc,λh0=>let ⟨B,o,vs,e1,e2,e3,e4⟩:=hn h0;⟨B,o,vs,e1,h B vs e2,e3,VRs.gmono h cs _ e4⟩⟩
 |.xlst n cs,v,k=>by
  simp only[VR] at k ⊢;obtain⟨p,rfl,hc,hn⟩:=k;exact⟨p,rfl,hc,λh0=>let ⟨B,o,vs,e1,e2,e3,e4⟩:=hn h0;⟨B,o,vs,e1,h B vs e2,e3,VRs.gmono h cs _ e4⟩⟩
 |.lptr cs o,v,k=>by
  simp only[VR] at k ⊢;obtain⟨B,o',vs,e1,e0,e2,e3,e4⟩:=k;exact⟨B,o',vs,e1,e0,h B vs e2,e3,VRs.gmono h cs _ e4⟩
 |.bad,_,k=>k
theorem VRs.gmono {ι ι':Inj}(h:∀ B vs,ι.g B=some vs->ι'.g B=some vs):∀ (xs:List AV) (vs:List Value),VRs ι.gone xs vs->VRs ι'.gone xs vs
 |[],_,k=>k
 |x :: xs,l,k=>by
  simp only[VRs] at k ⊢;obtain⟨v,vs,rfl,h1,h2⟩:=k;exact⟨v,vs,rfl,VR.gmono h x v h1,VRs.gmono h xs vs h2⟩
end
mutual
theorem VR.mono {ι ι':Inj}(h:Le ι ι'):∀ (x:AV) (v:Value),VR ι x v->VR ι' x v
 |.bool _,_,k=>k
 |.int _ _,_,k=>k
 |.str _,_,k=>k
 |.zstr _,_,k=>k
 |.ptr b o,v,k=>by
  simp only[VR] at k ⊢;obtain⟨hb,a,rfl,ha⟩:=k;exact⟨h.born hb,a,rfl,λB S e=>ha B S (h.at hb e)⟩
 |.nilp,_,k=>k
 |.slice b o len cap sz ex,v,k=>by
  simp only[VR] at k ⊢;obtain⟨hb,hl,a,C,rfl,hc,he,ha⟩:=k;exact⟨h.born hb,hl,a,C,rfl,hc,he,λB S e=>ha B S (h.at hb e)⟩
 |.nils,_,k=>k
 |.map r,v,k=>by
  simp only[VR] at k ⊢;obtain⟨hb,a,rfl,ha⟩:=k;exact⟨h.born hb,a,rfl,λB S e=>ha B S (h.at hb e)⟩
 |.nilm,_,k=>k
 |.fn f caps,v,k=>by
  simp only[VR] at k ⊢;obtain⟨cv,rfl,hc⟩:=k;exact⟨cv,rfl,VRs.mono h caps _ hc⟩
 |.nilf,_,k=>k
 |.iface t x,v,k=>by
  simp only[VR] at k ⊢;obtain⟨y,rfl,hy⟩:=k;exact⟨y,rfl,VR.mono h x y hy⟩
 |.nilif,_,k=>k
 |.agg cs,v,k=>by
  simp only[VR] at k ⊢;obtain⟨cv,rfl,hc⟩:=k;exact⟨cv,rfl,VRs.mono h cs _ hc⟩
 |.tup cs,v,k=>by
  simp only[VR] at k ⊢;obtain⟨cv,rfl,hc⟩:=k;exact⟨cv,rfl,VRs.mono h cs _ hc⟩
 |.lst n cs,v,k=>by
  simp only[VR] at k ⊢;obtain⟨p,C,rfl,hC,hc,hn⟩:=k;exact⟨p,C,rfl,hC,hc,λh0=>let ⟨B,o,vs,e1,e2,e3,e4⟩:=hn h0;⟨B,o,vs,e1,h.2 B vs e2,e3,VRs.gmono h.2 cs _ e4⟩⟩
 |.xlst n cs,v,k=>by
  simp only[VR] at k ⊢;obtain⟨p,rfl,hc,hn⟩:=k;exact⟨p,rfl,hc,λh0=>let ⟨B,o,vs,e1,e2,e3,e4⟩:=hn h0;⟨B,o,vs,e1,h.2 B vs e2,e3,VRs.gmono h.2 cs _ e4⟩⟩
 |.lptr cs o,v,k=>by
  simp only[VR] at k ⊢;obtain⟨B,o',vs,e1,e0,e2,e3,e4⟩:=k;exact⟨B,o',vs,e1,e0,h.2 B vs e2,e3,VRs.gmono h.2 cs _ e4⟩
 |.bad,_,k=>k
theorem VRs.mono {ι ι':Inj}(h:Le ι ι'):∀ (xs:List AV) (vs:List Value),VRs ι xs vs->VRs ι' xs vs
 |[],_,k=>k
 |x :: xs,l,k=>by
  simp only[VRs] at k ⊢;obtain⟨v,vs,rfl,h1,h2⟩:=k;exact⟨v,vs,rfl,VR.mono h x v h1,VRs.mono h xs vs h2⟩
end
theorem Le.gone (ι:Inj):Le ι.gone ι:=⟨λb hb=>absurd rfl hb,λ_ _ h=>h⟩
theorem VRs.back {ι:Inj}{xs:List AV}{vs:List Value}(h:VRs ι.gone xs vs):VRs ι xs vs:=VRs.mono (Le.gone ι) _ _ h
theorem VRs.length {ι:Inj}:∀ {xs:List AV} {vs:List Value},VRs ι xs vs->vs.length=xs.length
 |[],_,h=>by simp only[VRs] at h;simp[h]
 |x :: xs,l,h=>by
  simp only[VRs] at h;obtain⟨v,vs,rfl,_,h2⟩:=h;simp[VRs.length h2]
theorem VRs.get {ι:Inj}:∀ {xs:List AV} {vs:List Value},VRs ι xs vs->∀ i,i<xs.length->VR ι (xs.getD i .bad) (vs.getD i undef)
 |[],_,_,i,hi=>by simp at hi
 |x :: xs,l,h,i,hi=>by
  simp only[VRs] at h;obtain⟨v,vs,rfl,h1,h2⟩:=h;cases i with
  |zero=>exact h1
  |succ i=>simpa using VRs.get h2 i (by simpa using hi)
theorem VRs.of_get {ι:Inj}:∀ {xs:List AV} {vs:List Value},vs.length=xs.length->(∀ i,i<xs.length->VR ι (xs.getD i .bad) (vs.getD i undef))->VRs ι xs vs
 |[],vs,hl,_=>by simp only[VRs];exact QaQ hl
 |x :: xs,[],hl,_=>by simp at hl
 |x :: xs,v :: vs,hl,h=>by
  simp only[VRs];refine⟨v,vs,rfl,?_,VRs.of_get (by simpa using hl) λi hi=>?_⟩
  ·simpa using h 0 (by simp)
  ·simpa using h (i+1) (by simpa using hi)
theorem VRs.append {ι:Inj}:∀ {xs:List AV} {vs:List Value} {ys:List AV} {us:List Value},VRs ι xs vs->VRs ι ys us->VRs ι (xs ++ ys) (vs ++ us)
 |[],_,ys,us,h,k=>by simp only[VRs] at h;subst h;exact k
 |x :: xs,_,ys,us,h,k=>by
  simp only[VRs] at h;obtain⟨v,vs,rfl,h1,h2⟩:=h;simp only[Qay,VRs];exact⟨v,vs ++ us,rfl,h1,VRs.append h2 k⟩
theorem VRs.take {ι:Inj}{xs:List AV}{vs:List Value}(h:VRs ι xs vs)(n:Nat):VRs ι (xs.take n) (vs.take n):=by
 refine VRs.of_get (by simp[h.length]) λi hi=>?_;have hi':i<n/\i<xs.length:=by simpa[Nat.lt_min] using hi
 have:=h.get i hi'.2;simpa[Qac,QbJ,hi'.1] using this
theorem VRs.drop {ι:Inj}{xs:List AV}{vs:List Value}(h:VRs ι xs vs)(n:Nat):VRs ι (xs.drop n) (vs.drop n):=by
 refine VRs.of_get (by simp[h.length]) λi hi=>?_;simp at hi;have:=h.get (n+i) om;simpa[Qac,QbK] using this
theorem VRs.map_of {ι:Inj}{α:Type}{f:α->AV}{g:α->Value}:∀ (l:List α),(∀ x∈l,VR ι (f x) (g x))->VRs ι (l.map f) (l.map g)
 |[],_=>by simp[VRs]
 |x :: l,h=>by
  simp only[ν,VRs];exact⟨_,_,rfl,h x (by simp),VRs.map_of l λy hy=>h y (by simp[hy])⟩
def MR (ι:Inj):List (AV×AV)->List MapEntry->Prop
 |[],l=>l=[]
 |e :: es,l=>∃ x xs,l=x :: xs/\VR ι e.1 x.key/\VR ι e.2 x.val/\MR ι es xs
theorem MR.mono {ι ι':Inj}(h:Le ι ι'):∀ (es:List (AV×AV)) (l:List MapEntry),MR ι es l->MR ι' es l
 |[],_,k=>k
 |e :: es,l,k=>by
  simp only[MR] at k ⊢;obtain⟨x,xs,rfl,h1,h2,h3⟩:=k;exact⟨x,xs,rfl,VR.mono h _ _ h1,VR.mono h _ _ h2,MR.mono h es xs h3⟩
def OR (ι:Inj)(S:Nat):AO->Obj->Prop
 |.row n zl z cs,x=>∃ c elem lo hi,x=.cells c elem (lo,hi)/\c.size=S/\n<=S/\(hi<=lo\/S<=lo) /\
  ∀ i,i<n->(qv zl z cs i).cell=true/\∃ v,c[i]? = some v/\VR ι (qv zl z cs i) v
 |.map es,x=>∃ ens clock,x=.map ens clock/\MR ι es ens.toList
 |.iter s pos,x=>∃ bs:ByteArray,x=.stringIter bs pos/\bs.data.toList.map UInt8.toNat=s
 |.dead,_=>False
theorem OR.mono {ι ι':Inj}(h:Le ι ι'){S:Nat}:∀ (o:AO) (x:Obj),OR ι S o x->OR ι' S o x
 |.row n zl z cs,x,k=>by
  simp only[OR] at k ⊢;obtain⟨c,elem,lo,hi,rfl,h1,h2,h3,h4⟩:=k;exact⟨c,elem,lo,hi,rfl,h1,h2,h3,λi hi=>let ⟨a,v,b,c⟩:=h4 i hi;⟨a,v,b,VR.mono h _ _ c⟩⟩
 |.map es,x,k=>by
  simp only[OR] at k ⊢;obtain⟨ens,clock,rfl,hm⟩:=k;exact⟨ens,clock,rfl,MR.mono h _ _ hm⟩
 |.iter s pos,x,k=>k
 |.dead,_,k=>k
def Froz (ι:Inj)(w:World)(B:Nat)(vs:List Value):Prop:=(∃ c elem lo hi,w.heap[B]? = some (.cells c elem (lo,hi))/\c.toList=vs/\True)/\∀ b S,ι b≠.at B S
theorem Froz.lt {ι:Inj}{w:World}{B:Nat}{vs:List Value}(h:Froz ι w B vs):B<w.heap.size:=by
 obtain⟨⟨c,e,lo,hi,h1,_⟩,_⟩:=h;exact(Qau.1 h1).1
structure Grew (ι:Inj)(w:World)(ι':Inj)(w':World):Prop where
 os:w'.os=w.os
 tape:w'.tape=w.tape
 output:w'.output=w.output
 size:w.heap.size<=w'.heap.size
 keep:∀ k,k<w.heap.size->(∀ b S,ι b≠.at k S)->w'.heap[k]? = w.heap[k]?
 new:∀ b B S,ι' b=.at B S->(∃ c S',ι c=.at B S')\/w.heap.size<=B
 gl:∀ B vs,ι'.g B=some vs->ι.g B=some vs\/Froz ι' w' B vs/\((∃ c S,ι c=.at B S)\/w.heap.size<=B)
theorem Froz.grew {ι ι':Inj}{w w':World}{B:Nat}{vs:List Value}(h:Froz ι w B vs)(g:Grew ι w ι' w'):Froz ι' w' B vs:=by
 have hs:=h.lt;obtain⟨⟨c,e,lo,hi,h1,h3⟩,h2⟩:=h;refine⟨⟨c,e,lo,hi,(g.keep B hs h2).trans h1,h3⟩,λb S e=>?_⟩;rcases g.new b B S e with ⟨c,S',e'⟩|e'
 ·exact h2 c S' e'
 ·omega
def Gl (ι:Inj)(w:World):Prop:=((∃ te pe,w.cell? ⟨2,0,none⟩=some (.iface te pe))/\∀ b S,ι b≠.at 2 S)/\∀ B vs,ι.g B=some vs->Froz ι w B vs
theorem Gl.grew {ι ι':Inj}{w w':World}(h:Gl ι w)(g:Grew ι w ι' w'):Gl ι' w':=by
 obtain⟨⟨⟨te,pe,h1⟩,h2⟩,h3⟩:=h;have hs:2<w.heap.size:=by
  unfold World.cell? at h1;rcases Qar 2 w.heap.size with h|h
  ·exact h
  ·rw[Array.getElem?_eq_none (by simpa using h)] at h1;simp at h1
 refine⟨⟨⟨te,pe,?_⟩,λb S e=>?_⟩,λB vs hB=>?_⟩
 ·have:=g.keep 2 hs h2;unfold World.cell? at h1 ⊢;rw[this];exact h1
 ·rcases g.new b 2 S e with ⟨c,S',e'⟩|e'
  ·exact h2 c S' e'
  ·omega
 ·rcases g.gl B vs hB with h|h
  ·exact(h3 B vs h).grew g
  ·exact h.1
structure Sim (ι:Inj)(h:T AO)(nx:Nat)(w:World):Prop where
 obj:∀ b B S,ι b=.at B S->∃ o x,jr h b=some o/\w.heap[B]? = some x/\OR ι S o x
 gone:∀ b,ι b=.dead->∀ o,jr h b=some o->o=.dead
 inj:∀ b b' B S S',ι b=.at B S->ι b'=.at B S'->b=b'
 born:∀ b,ι b≠.unborn->b<nx
 glob:Gl ι w
theorem Sim.lt {ι:Inj}{h:T AO}{nx:Nat}{w:World}(k:Sim ι h nx w){b B S:Nat}(e:ι b=.at B S):B<w.heap.size:=by
 obtain⟨o,x,_,hx,_⟩:=k.obj b B S e;exact(Qau.1 hx).1
theorem Sim.row {ι:Inj}{h:T AO}{nx:Nat}{w:World}(k:Sim ι h nx w){b n zl:Nat}{z:List AV}{cs:T AV}(hb:ι b≠.unborn)(e:jr h b=some (.row n zl z cs)) :
  ∃ B S c elem lo hi,ι b=.at B S/\w.heap[B]? = some (.cells c elem (lo,hi))/\c.size=S/\n<=S/\(hi<=lo\/S<=lo) /\
   ∀ i,i<n->(qv zl z cs i).cell=true/\∃ v,c[i]? = some v/\VR ι (qv zl z cs i) v:=by
 cases hι:ι b with
 |unborn=>exact absurd hι hb
 |dead=>have:=k.gone b hι _ e;cases this
 |«at» B S=>
  obtain⟨o,x,ho,hx,hr⟩:=k.obj b B S hι;rw[e] at ho;cases ho;simp only[OR] at hr;obtain⟨c,elem,lo,hi,rfl,h1,h2,h3,h4⟩:=hr;exact⟨B,S,c,elem,lo,hi,rfl,hx,h1,h2,h3,h4⟩
theorem Sim.map {ι:Inj}{h:T AO}{nx:Nat}{w:World}(k:Sim ι h nx w){b:Nat}{es:List (AV×AV)}(hb:ι b≠.unborn)(e:jr h b=some (.map es)) :
  ∃ B S ens clock,ι b=.at B S/\w.heap[B]? = some (.map ens clock)/\MR ι es ens.toList:=by
 cases hι:ι b with
 |unborn=>exact absurd hι hb
 |dead=>have:=k.gone b hι _ e;cases this
 |«at» B S=>
  obtain⟨o,x,ho,hx,hr⟩:=k.obj b B S hι;rw[e] at ho;cases ho;simp only[OR] at hr;obtain⟨ens,clock,rfl,hm⟩:=hr;exact⟨B,S,ens,clock,rfl,hx,hm⟩
theorem Grew.refl (ι:Inj)(w:World):Grew ι w ι w:=⟨rfl,rfl,rfl,φ _,λ_ _ _=>rfl,λb B S e=>.inl ⟨b,S,e⟩,λ_ _ h=>.inl h⟩
theorem Grew.trans {ι ι' ι'':Inj}{w w' w'':World}(h:Grew ι w ι' w')(k:Grew ι' w' ι'' w''):Grew ι w ι'' w'':=by
 refine⟨k.os.trans h.os,k.tape.trans h.tape,k.output.trans h.output,ω h.size k.size,λj hj hn=>?_,λb B S e=>?_,λB vs hB=>?_⟩
 ·rw[k.keep j (Qas hj h.size) λb S e=>?_]
  ·exact h.keep j hj hn
  ·rcases h.new b j S e with ⟨c,S',e'⟩|e'
   ·exact hn c S' e'
   ·omega
 ·rcases k.new b B S e with ⟨c,S',e'⟩|e'
  ·exact h.new c B S' e'
  ·exact .inr (ω h.size e')
 ·rcases k.gl B vs hB with e|⟨e,e'⟩
  ·rcases h.gl B vs e with e|⟨e,e'⟩
   ·exact .inl e
   ·exact .inr ⟨e.grew k,e'⟩
  ·refine .inr ⟨e,?_⟩;rcases e' with ⟨c,S,e'⟩|e'
   ·exact h.new c B S e'
   ·exact .inr (ω h.size e')
theorem Grew.drew (ι:Inj)(w:World):Grew ι w ι w.drew:=⟨rfl,rfl,rfl,φ _,λ_ _ _=>rfl,λb B S e=>.inl ⟨b,S,e⟩,λ_ _ h=>.inl h⟩
theorem Sim.drew {ι:Inj}{h:T AO}{nx:Nat}{w:World}(k:Sim ι h nx w):Sim ι h nx w.drew:=⟨k.obj,k.gone,k.inj,k.born,k.glob.grew (Grew.drew ι w)⟩
def Inj.add (ι:Inj)(b B S:Nat):Inj:=⟨λc=>if c=b then .at B S else ι c,ι.g⟩
theorem Le.add {ι:Inj}{nx:Nat}(hn:∀ b,ι b≠.unborn->b<nx)(B S:Nat):Le ι (ι.add nx B S):=⟨λb hb=>by
 have:=hn b hb;left;simp only[Inj.add];rw[if_neg om],λ_ _ h=>h⟩
theorem v7 (w:World)(o:Obj):(w.alloc o).heap[w.heap.size]? = some o:=by
 show(w.heap.push o)[w.heap.size]? = some o;simp
theorem v6 (w:World)(o:Obj)(i:Nat)(h:i<w.heap.size):(w.alloc o).heap[i]? = w.heap[i]?:=by
 show(w.heap.push o)[i]? = _;rw[Array.getElem?_push_lt h,QbZ h]
theorem Sim.alloc {ι:Inj}{h:T AO}{nx:Nat}{w:World}(k:Sim ι h nx w)(o:AO)(x:Obj)(S:Nat)(hx:OR (ι.add nx w.heap.size S) S o x) :
  Sim (ι.add nx w.heap.size S) ((jZ (jI nx)).run o h) (nx+1) (w.alloc x)/\Le ι (ι.add nx w.heap.size S)/\Grew ι w (ι.add nx w.heap.size S) (w.alloc x):=by
 have le:=Le.add (ι:=ι) k.born w.heap.size S;have hsz:(w.alloc x).heap.size=w.heap.size+1:=by show(w.heap.push x).size=_;simp
 have gr:Grew ι w (ι.add nx w.heap.size S) (w.alloc x):=by
  refine⟨rfl,rfl,rfl,om,λj hj _=>v6 w x j hj,?_,λ_ _ h=>.inl h⟩;intro b B T e;by_cases hb:b=nx
  ·subst hb;simp only[Inj.add,if_true] at e;cases e;exact .inr (φ _)
  ·exact .inl ⟨b,T,by simpa[Inj.add,hb] using e⟩
 refine⟨⟨?_,?_,?_,?_,k.glob.grew gr⟩,le,gr⟩
 ·intro b B T e;by_cases hb:b=nx
  ·subst hb;simp only[Inj.add,if_true] at e;cases e;exact⟨o,x,by rw[jV,if_pos rfl],v7 w x,hx⟩
  ·have e':ι b=.at B T:=by simpa[Inj.add,hb] using e
   obtain⟨o',x',h1,h2,h3⟩:=k.obj b B T e';exact⟨o',x',by rw[jV,if_neg hb];exact h1,by rw[v6 w x B (k.lt e')];exact h2,OR.mono le _ _ h3⟩
 ·intro b e o' ho;by_cases hb:b=nx
  ·subst hb;simp[Inj.add] at e
  ·have e':ι b=.dead:=by simpa[Inj.add,hb] using e
   rw[jV,if_neg hb] at ho;exact k.gone b e' o' ho
 ·intro b c B S1 S2 e1 e2;by_cases hb:b=nx<;>by_cases hc:c=nx
  ·rw[hb,hc]
  ·subst hb;simp only[Inj.add,if_true] at e1;cases e1;have:=k.lt (by simpa[Inj.add,hc] using e2:ι c=.at w.heap.size S2);omega
  ·subst hc;simp only[Inj.add,if_true] at e2;cases e2;have:=k.lt (by simpa[Inj.add,hb] using e1:ι b=.at w.heap.size S1);omega
  ·exact k.inj b c B S1 S2 (by simpa[Inj.add,hb] using e1) (by simpa[Inj.add,hc] using e2)
 ·intro b e;by_cases hb:b=nx
  ·omega
  ·have:=k.born b (by simpa[Inj.add,hb] using e);omega
theorem Sim.write {ι:Inj}{h:T AO}{nx:Nat}{w w':World}(k:Sim ι h nx w){b B S:Nat}(e:ι b=.at B S)(o:AO)(x:Obj)(hx:OR ι S o x)
  (hB:w'.heap[B]? = some x) (hne:∀ j,j≠B->w'.heap[j]? = w.heap[j]?) (hos:w'.os=w.os) (ht:w'.tape=w.tape) (hout:w'.output=w.output) (hsz:w'.heap.size=w.heap.size) :
  Sim ι ((jZ (jI b)).run o h) nx w'/\Grew ι w ι w':=by
 have gr:Grew ι w ι w':=⟨hos,ht,hout,om,λj _ hn=>hne j (λej=>hn b S (by rw[ej];exact e)),λc C T e'=>.inl ⟨c,T,e'⟩,λ_ _ h=>.inl h⟩;refine⟨⟨?_,?_,k.inj,k.born,k.glob.grew gr⟩,gr⟩
 ·intro c C T e';by_cases hc:c=b
  ·subst hc;rw[e] at e';cases e';exact⟨o,x,by rw[jV,if_pos rfl],hB,hx⟩
  ·obtain⟨o',x',h1,h2,h3⟩:=k.obj c C T e';have hC:C≠B:=λec=>hc (k.inj c b B T S (by rw[<-ec];exact e') e);exact⟨o',x',by rw[jV,if_neg hc];exact h1,by rw[hne C hC];exact h2,h3⟩
 ·intro c e' o' ho;by_cases hc:c=b
  ·subst hc;rw[e] at e';cases e'
  ·rw[jV,if_neg hc] at ho;exact k.gone c e' o' ho
structure Cleanly (ι ι':Inj)(st st':St):Prop where
 nx:st.nx<=st'.nx
 dirty:st'.dirty<=st.dirty
 keep:∀ b,b<st.nx->b<st'.dirty->jr st'.h b=jr st.h b
 above:∀ b,st'.nx<=b->jr st'.h b=jr st.h b
 u:∀ b,b<st.nx->ι b=.unborn->ι' b=.unborn
 le:∀ b,ι b≠.unborn->ι' b≠.unborn
 n:∀ b,st.nx<=b->b<st'.nx->ι' b≠.unborn
theorem Cleanly.refl (ι:Inj)(st:St):Cleanly ι ι st st:=⟨φ _,φ _,λ_ _ _=>rfl,λ_ _=>rfl,λ_ _ h=>h,λ_ h=>h,λ_ h1 h2=>absurd h2 (Nat.not_lt.2 h1)⟩
theorem Cleanly.trans {ι ι' ι'':Inj}{a b c:St}(h:Cleanly ι ι' a b)(k:Cleanly ι' ι'' b c):Cleanly ι ι'' a c:=
 ⟨ω h.nx k.nx,ω k.dirty h.dirty,λx hx hd=>(k.keep x (Qas hx h.nx) hd).trans (h.keep x hx (Qas hd k.dirty)),
  λx hx=>(k.above x hx).trans (h.above x (ω k.nx hx)),λx hx hu=>k.u x (Qas hx h.nx) (h.u x hx hu),
  λx hx=>k.le x (h.le x hx),λx h1 h2=>(Qar x b.nx).elim (λh3=>k.le x (h.n x h1 h3)) (λh3=>k.n x h3 h2)⟩
theorem Cleanly.alloc (ι:Inj)(st:St)(o:AO)(B S:Nat):Cleanly ι (ι.add st.nx B S) st ⟨st.nx+1,(jZ (jI st.nx)).run o st.h,st.dirty,st.fr⟩:=
 ⟨Nat.le_succ _,φ _,λb hb _=>by show jr ((jZ (jI st.nx)).run o st.h) b=_;rw[jV,if_neg om],
  λb hb=>by
   have hb':st.nx+1<=b:=hb;show jr ((jZ (jI st.nx)).run o st.h) b=_;rw[jV,if_neg om],
  λb hb hu=>by simp only[Inj.add];rw[if_neg om];exact hu,
  λb hb=>by simp only[Inj.add];split<;>simp_all,
  λb h1 h2=>by
   have h2':b<st.nx+1:=h2;simp only[Inj.add];rw[if_pos om];simp⟩
theorem Cleanly.put (ι:Inj)(st:St)(b:Nat)(o:AO)(hb:b<st.nx):Cleanly ι ι st ⟨st.nx,(jZ (jI b)).run o st.h,min st.dirty b,st.fr⟩:=
 ⟨φ _,Nat.min_le_left _ _,λc _ hd=>by
  show jr ((jZ (jI b)).run o st.h) c=_;rw[jV,if_neg (by have:c<min st.dirty b:=hd;omega)],
  λc hc=>by
   have hc':st.nx<=c:=hc;show jr ((jZ (jI b)).run o st.h) c=_;rw[jV,if_neg om],
  λ_ _ h=>h,λ_ h=>h,λ_ h1 h2=>absurd h2 (Nat.not_lt.2 h1)⟩
theorem Cleanly.fr {ι ι':Inj}{st st':St}(h:Cleanly ι ι' st st')(f g:Fr):Cleanly ι ι' ⟨st.nx,st.h,st.dirty,f⟩ ⟨st'.nx,st'.h,st'.dirty,g⟩:=⟨h.nx,h.dirty,h.keep,h.above,h.u,h.le,h.n⟩
def Res (ι:Inj)(w:World)(st:St)(r:ER)(res:Result Next):Prop:=
 match r with
 |.no=>True
 |.ok v st'=>∃ ι' x w',(res=.ok (.value x) w'\/(res=.ok .skip w'/\x=undef))/\Le ι ι'/\VR ι' v x/\Sim ι' st'.h st'.nx w'/\Grew ι w ι' w'/\Cleanly ι ι' st st'/\st'.fr=st.fr
 |.pn v st'=>st'=st/\∃ x,res=.halt (.panic x) w/\VR ι v x
section
variable {P:Program} {ι:Inj} {w:World} {st:St}
theorem Res.val (k:Sim ι st.h st.nx w){v:AV}{x:Value}{res:Result Next}(hr:res=.ok (.value x) w)(hv:VR ι v x):Res ι w st (.ok v st) res:=
 ⟨ι,x,w,.inl hr,Le.refl ι,hv,k,Grew.refl ι w,Cleanly.refl ι st,rfl⟩
theorem Res.drew {r:ER}{res:Result Next}(hp:∀ v s,r≠.pn v s)(h:Res ι w.drew st r res):Res ι w st r res:=by
 cases r with
 |no=>trivial
 |ok v st'=>
  obtain⟨ι',x,w',h1,h2,h3,h4,h5,h6⟩:=h;exact⟨ι',x,w',h1,h2,h3,h4,(Grew.drew ι w).trans h5,h6⟩
 |pn v s=>exact absurd rfl (hp v s)
theorem yC (B o j:Nat):(⟨B,o,none⟩:Addr).add j=⟨B,o+j,none⟩:=by
 unfold Addr.add;split
 ·rename_i h;subst h;rfl
 ·rfl
theorem ww (ι:Inj)(v:Value):VR ι (ofV v) v:=by
 unfold ofV;split<;>simp[VR]
theorem VR.cell {x:AV}{v:Value}(hx:x.cell=true)(h:VR ι x v):v.oneCell'=true:=by
 cases x<;>simp only[VR] at h<;>simp[AV.cell] at hx;case bool=>subst h;rfl
 case int=>subst h;rfl
 case str=>obtain⟨bs,rfl,_⟩:=h;rfl
 case zstr=>obtain⟨bs,rfl,_⟩:=h;rfl
 case ptr=>obtain⟨_,a,rfl,_⟩:=h;rfl
 case nilp=>subst h;rfl
 case slice=>obtain⟨_,_,a,C,rfl,_⟩:=h;rfl
 case nils=>subst h;rfl
 case map=>obtain⟨_,R,rfl,_⟩:=h;rfl
 case nilm=>subst h;rfl
 case fn=>obtain⟨cv,rfl,_⟩:=h;rfl
 case nilf=>subst h;rfl
 case iface=>obtain⟨y,rfl,_⟩:=h;rfl
 case nilif=>subst h;rfl
 case lst=>obtain⟨p,C,rfl,_⟩:=h;rfl
 case xlst=>obtain⟨p,rfl,_⟩:=h;rfl
 case lptr=>obtain⟨B,o,vs,rfl,_⟩:=h;rfl
theorem VR.cells {x:AV}{v:Value}(hb:x.cells.all AV.cell=true)(h:VR ι x v):VRs ι x.cells v.cells.toList:=by
 have one:∀ y:AV,y.cell=true->x=y->x.cells=[x]->VRs ι x.cells v.cells.toList:=by
  intro y hy e hc;rw[hc];have hv:v.cells = #[v]:=by
   have:=VR.cell (e▸hy) h;cases v<;>first|rfl|(simp[Value.oneCell'] at this)
  rw[hv];simp only[VRs];exact⟨v,[],rfl,h,rfl⟩
 cases x with
 |agg cs=>
  simp only[VR] at h;obtain⟨a,rfl,hc⟩:=h;exact hc
 |tup vs=>simp[AV.cells,AV.cell] at hb
 |bad=>simp[AV.cells,AV.cell] at hb
 |_=>exact one _ rfl rfl rfl
theorem YN {t:TypeId}{z:List AV}(h:zeroCells P t=some z)(ι:Inj):∃ i zv,P.info? t=some i/\i.zero=some zv/\VRs ι z zv.cells.toList:=by
 unfold zeroCells at h;cases hi:P.info? t with
 |none=>simp[hi] at h
 |some i=>
  simp only[hi,QaK] at h;cases hz:i.zero with
  |none=>simp[hz] at h
  |some zv=>
   simp only[hz,Qat,Option.some.injEq] at h;refine⟨i,zv,rfl,hz,?_⟩;subst h;unfold GQ;split
   ·rename_i cs;show VRs ι _ cs.toList;have:=VRs.map_of (ι:=ι) (f:=ofV) (g:=id) cs.toList (λx _=>ww ι x);simpa using this
   ·rename_i hv;have:zv.cells = #[zv]:=by
     cases zv<;>first|rfl|(rename_i a _;exact(hv a rfl).elim)|(rename_i a;exact(hv a rfl).elim)
    rw[this];simp only[VRs];exact⟨zv,[],rfl,ww ι zv,rfl⟩
theorem y7 {t:TypeId}{k:Nat}(h:Ev.sizeOf P t=some k):∃ i,P.info? t=some i/\i.size=k:=by
 unfold Ev.sizeOf at h;cases hi:P.info? t with
 |none=>simp[hi] at h
 |some i=>simp[hi] at h;exact⟨i,rfl,h⟩
theorem j6 {t:TypeId}{i:TypeInfo}(h:P.info? t=some i)(w:World):(Go.sizeOf t).run P w=.ok i.size w:=by
 simp[Go.sizeOf,typeInfo,h]
theorem Q9 {t:TypeId}{i:TypeInfo}(h:P.info? t=some i)(w:World):(typeInfo t).run P w=.ok i w:=by
 simp[typeInfo,h]
theorem zN {t:TypeId}{i:TypeInfo}{z:Value}(h:P.info? t=some i)(hz:i.zero=some z)(w:World):(zeroValue t).run P w=.ok z w:=by
 simp[zeroValue,typeInfo,h,hz]
theorem QW {t:TypeId}{b:Bool}(h:Ev.isAgg P t=some b)(w:World):(Go.isAgg t).run P w=.ok b w:=by
 unfold Ev.isAgg at h;cases hu:P.underlying t with
 |none=>simp[hu] at h
 |some d=>
  simp only[hu,Qat,Option.some.injEq] at h;unfold Go.isAgg;rw[Sem.run_bind,run_underlying hu w];subst h;cases d<;>rfl
theorem vq {l:List AV}(h:l.all AV.cell=true)(n:Nat):(l.take n).all AV.cell=true:=by
 rw[Qah] at h ⊢;exact λx hx=>h x (List.mem_of_mem_take hx)
theorem G5 {l:List AV}(h:l.all AV.cell=true)(n:Nat):(l.drop n).all AV.cell=true:=by
 rw[Qah] at h ⊢;exact λx hx=>h x (List.mem_of_mem_drop hx)
theorem kE {ι:Inj}{w:World}{B o:Nat}{vs:List Value}(h:Froz ι w B vs)(ho:o<vs.length):w.cell? ⟨B,o,none⟩=some (vs.getD o undef):=by
 obtain⟨⟨c,e,lo,hi,h1,h2,_⟩,_⟩:=h;have:w.cell? ⟨B,o,none⟩=c[o]?:=cell_of_row w B o c e _ h1;rw[this];subst h2;rw[Qai] at ho;simp[Qac,ho]
theorem wM {vs:List Value}{o n k:Nat}(h:k<n)(hn:o+n<=vs.length):((vs.drop o).take n).getD k undef=vs.getD (o+k) undef:=by
 simp only[Qac,QbJ,h,if_true,QbK]
theorem w8 {ι:Inj}{w:World}{B o n:Nat}{vs:List Value}(h:Froz ι w B vs)(hn:o+n<=vs.length) :
  (loadCells ⟨B,o,none⟩ n).run P w=.ok ((vs.drop o).take n).toArray w:=by
 rw[run_loadCells w _ n (λj=>vs.getD (o+j) undef) (λj hj=>by rw[yC];exact kE h om)]
 congr 2
 apply Qbr
 ·simp;omega
 ·intro i h1 h2;simp at h1;simp[Qac,Qaj (by omega:o+i<vs.length)]
theorem vi {B o:Nat}{c:Array Value}{e:TypeId}{f:Nat×Nat}(h:w.heap[B]? = some (.cells c e f)):w.cell? ⟨B,o,none⟩=c[o]?:=cell_of_row w B o c e f h
theorem H1 (k:Sim ι st.h st.nx w){t:TypeId}{a u:AV}{va:Value}(ha:VR ι a va)(h:(qI P t).run a st.h=some u) :
  ∃ x,(Instr.loadAt t va).run P w=.ok x w/\VR ι u x:=by
 unfold qI at h;split at h
 ·rename_i n hg hs;cases a<;>simp only at h<;>try(cases h;done)
  rotate_left
  ·rename_i cs o;simp only[VR] at ha;obtain⟨B,o',vs,rfl,_,e2,e3,e4⟩:=ha;cases hle:Qcd (Qce o n) (jM cs)
   ·rw[hle] at h;cases h
   ·rw[hle] at h;simp only[cond,Option.some.injEq,q8,y4] at h;rw[qe,jO] at hle;have hle':o+n<=cs.length:=hle;obtain⟨i,hi',hsi⟩:=y7 hs;refine⟨.agg ((vs.drop (o'+o)).take n).toArray,?_,?_⟩
    ·simp only[Instr.loadAt,Instr.sureAddr,Sem.run_bind,Sem.run_pure,Result.andThen_ok,loadVar,QW hg,if_true];rw[j6 hi' w];simp only[Result.andThen_ok,hsi];rw[w8 (k.glob.2 B vs e2) om];rfl
    ·rw[<-h];simp only[VR];refine⟨_,rfl,?_⟩;have:=(e4.back.drop o).take n;rw[Qbz,QaX,Qbs,Qbd om] at this;exact this
  rename_i b o;simp only[VR] at ha;obtain⟨hb,ad,rfl,had⟩:=ha;split at h<;>try(cases h;done)
  rename_i m zl z cs hrow;obtain⟨B,S,c,elem,lo,hi,e,hw,hsz,hn,_,hcell⟩:=k.row hb hrow;rw[had B S e];cases hle:Qcd (Qce o n) m
  ·rw[hle] at h;cases h
  ·rw[hle] at h;simp only[cond,Option.some.injEq] at h;rw[qe] at hle;have hle':o+n<=m:=hle;obtain⟨i,hi',hsi⟩:=y7 hs
   let f:Nat->Value:=λj=>c.getD (o+j) undef
   have hf:∀ j,j<n->w.cell? ((⟨B,o,none⟩:Addr).add j)=some (f j):=λj hj=>by
    rw[yC,vi hw];obtain⟨_,v,hv,_⟩:=hcell (o+j) om;simp[f,hv]
   refine⟨.agg ((Qae n).map f).toArray,?_,?_⟩
   ·simp only[Instr.loadAt,Instr.sureAddr,Sem.run_bind,Sem.run_pure,Result.andThen_ok,loadVar,QW hg,if_true];rw[j6 hi' w];simp only[Result.andThen_ok,hsi];rw[run_loadCells w _ n f hf];rfl
   ·rw[<-h,qr];simp only[VR];refine⟨_,rfl,?_⟩;refine VRs.map_of _ λj hj=>?_;have hj':j<n:=by simpa using hj
    obtain⟨_,v,hv,hr⟩:=hcell (o+j) om;show VR ι _ (c.getD (o+j) undef);simpa[hv] using hr
 ·rename_i n hg hs;cases a<;>simp only at h<;>try(cases h;done)
  rotate_left
  ·rename_i cs o;simp only[VR] at ha;obtain⟨B,o',vs,rfl,_,e2,e3,e4⟩:=ha;cases hle:Qcd (Qcc o) (jM cs)
   ·rw[hle] at h;cases h
   ·rw[hle] at h;simp only[cond,Option.some.injEq,zk] at h;rw[qe,jO] at hle;have hc:=kE (o:=o'+o) (k.glob.2 B vs e2) om;refine⟨vs.getD (o'+o) undef,?_,?_⟩
    ·simp only[Instr.loadAt,Instr.sureAddr,Sem.run_bind,Sem.run_pure,Result.andThen_ok,loadVar,QW hg,QaI,if_false,run_load,hc]
    ·rw[<-h];have:=e4.back.get o hle;rwa [wM hle e3] at this
  rename_i b o;simp only[VR] at ha;obtain⟨hb,ad,rfl,had⟩:=ha;split at h<;>try(cases h;done)
  rename_i m zl z cs hrow;obtain⟨B,S,c,elem,lo,hi,e,hw,hsz,hn,_,hcell⟩:=k.row hb hrow;rw[had B S e];cases hle:Qcd (Qcc o) m
  ·rw[hle] at h;cases h
  ·rw[hle] at h;simp only[cond,Option.some.injEq] at h;rw[qe] at hle;obtain⟨_,v,hv,hr⟩:=hcell o om;refine⟨v,?_,by rw[<-h];exact hr⟩;simp only[Instr.loadAt,Instr.sureAddr,Sem.run_bind,Sem.run_pure,Result.andThen_ok,loadVar,QW hg,QaI,if_false,run_load,vi hw,hv]
 ·cases h
theorem Xu {P:Program}{B o:Nat}{elem:TypeId}{lo hi:Nat}:∀ (l:List Value) (i:Nat) (w:World) (c:Array Value),
  w.heap[B]? = some (.cells c elem (lo,hi))->(hi<=lo\/c.size<=lo)->o+i+l.length<=c.size->(∀ v∈l,v.oneCell'=true)->
  ∃ w' c',(storeCells ⟨B,o,none⟩ l i).run P w=.ok () w'/\w'.heap[B]? = some (.cells c' elem (lo,hi))/\c'.size=c.size /\
   (∀ j,c'[j]? = if o+i<=j/\j<o+i+l.length then l[j - (o+i)]? else c[j]?)/\(∀ j,j≠B->w'.heap[j]? = w.heap[j]?) /\
   w'.os=w.os/\w'.tape=w.tape/\w'.output=w.output/\w'.heap.size=w.heap.size
 |[],i,w,c,hB,_,_,_=>⟨w,c,by simp[storeCells],hB,rfl,λj=>by rw[if_neg];simp,λ_ _=>rfl,rfl,rfl,rfl,rfl⟩
 |v :: l,i,w,c,hB,hf,hl,h1=>by
  have hlt:o+i<c.size:=by simp at hl;omega
  have hcell:w.cell? ⟨B,o+i,none⟩=some c[o+i]:=by
   rw[vi hB];exact QbZ hlt
  have hfr:w.frozen? ⟨B,o+i,none⟩=false:=by
   simp only[World.frozen?,hB,Bool.and_eq_false_iff,decide_eq_false_iff_not];simp at hl;omega
  have hst:(store (⟨B,o+i,none⟩:Addr) v).run P w=.ok () (w.setCell ⟨B,o+i,none⟩ v):=by
   rw[run_store P w _ v .plain (h1 v (by simp)),hcell];simp[hfr]
  have hB':(w.setCell ⟨B,o+i,none⟩ v).heap[B]? = some (.cells (c.setIfInBounds (o+i) v) elem (lo,hi)):=by
   simp[World.setCell,Array.getElem?_modify,hB]
  obtain⟨w',c',hr,hb,hs,hc,hne,hos,ht,hou,hsz⟩:=Xu (P:=P) (o:=o) l (i+1) (w.setCell ⟨B,o+i,none⟩ v) (c.setIfInBounds (o+i) v) hB'
   (by simpa using hf) (by simp at hl ⊢;omega) (λx hx=>h1 x (by simp[hx]))
  refine⟨w',c',?_,hb,by simpa using hs,?_,?_,hos,ht,hou,by rw[hsz];simp[World.setCell]⟩
  ·simp only[storeCells,Sem.run_bind,yC,hst,Result.andThen_ok,hr]
  ·intro j;rw[hc j];simp at hl;by_cases h2:o+(i+1)<=j/\j<o+(i+1)+l.length
   ·have h3:o+i<=j/\j<o+i+(v :: l).length:=by simp;omega
    rw[if_pos h2,if_pos h3];obtain⟨n,hn⟩:∃ n,j - (o+i)=n+1:=⟨j - (o+i) - 1,om⟩;have hn':j - (o+(i+1))=n:=om
    rw[hn,hn'];simp
   ·rw[if_neg h2];by_cases hj:j=o+i
    ·have h3:o+i<=j/\j<o+i+(v :: l).length:=by simp;omega
     rw[if_pos h3,hj];simp[hlt]
    ·have h3:¬ (o+i<=j/\j<o+i+(v :: l).length):=by simp;simp at h2;omega
     rw[if_neg h3,Qca om]
  ·intro j hj;rw[hne j hj];exact Below.heap_setCell _ _ _ _ hj
theorem Wr (k:Sim ι st.h st.nx w){b o n zl:Nat}{z:List AV}{cs:T AV}(hb:ι b≠.unborn)(hrow:jr st.h b=some (.row n zl z cs)){B S:Nat}(e:ι b=.at B S)
  {l:List AV} {vs:List Value} (hl:VRs ι l vs) (hc:l.all AV.cell=true) (hn:o+l.length<=n) :
  ∃ w',(storeCells ⟨B,o,none⟩ vs).run P w=.ok () w'/\Sim ι ((jZ (jI b)).run (.row n zl z (qh l cs o)) st.h) st.nx w'/\Grew ι w ι w':=by
 obtain⟨B',S',c,elem,lo,hi,e',hw,hsz,hnS,hfr,hcell⟩:=k.row hb hrow;rw[e] at e';cases e';have hlen:=hl.length;have h1:∀ v∈vs,v.oneCell'=true:=by
  intro v hv;obtain⟨i,hi,rfl⟩:=List.mem_iff_getElem.1 hv;have:=hl.get i om;have h2:(l.getD i .bad).cell=true:=by
   have:i<l.length:=om
   simp only[Qac,Qaj this,QaJ];exact Qah.1 hc _ (Qam this)
  have h3:=VR.cell h2 this;simpa[Qac,Qaj hi] using h3
 obtain⟨w',c',hr,hB',hs',hc',hne,hos,ht,hou,hsz'⟩:=Xu (P:=P) (o:=o) vs 0 w c hw om om h1;refine⟨w',hr,?_⟩;refine k.write e (.row n zl z (qh l cs o)) (.cells c' elem (lo,hi)) ?_ hB' hne hos ht hou hsz';simp only[OR];refine⟨c',elem,lo,hi,rfl,om,hnS,hfr,λi hi'=>?_⟩;rw[yO,hc' i];by_cases h2:o<=i/\i<o+l.length
 ·rw[if_pos h2,if_pos om];have h3:=hl.get (i - o) om;refine⟨?_,vs.getD (i - o) undef,?_,h3⟩
  ·have:i - o<l.length:=om
   simp only[Qac,Qaj this,QaJ];exact Qah.1 hc _ (Qam this)
  ·have:i - o<vs.length:=om
   simp[Qac,Qaj this]
 ·rw[if_neg h2,if_neg om];exact hcell i hi'
end
section
variable {P:Program} {ι:Inj} {w:World} {st:St}
theorem St.alloc_eq (st:St)(o:AO)(k:Nat->St->ER):st.alloc o k=k st.nx ⟨st.nx+1,(jZ (jI st.nx)).run o st.h,st.dirty,st.fr⟩:=by simp[St.alloc]
theorem St.put_eq (st:St)(b:Nat)(o:AO)(k:St->ER):st.put b o k=k ⟨st.nx,(jZ (jI b)).run o st.h,min st.dirty b,st.fr⟩:=by
 simp only[St.put,jB]
 congr 2
 rw[Nat.min_def];cases h:Qcd st.dirty b
 ·have:¬ st.dirty<=b:=λe=>by rw[<-qe,h] at e;cases e
  rw[if_neg this];rfl
 ·rw[qe] at h;rw[if_pos h];rfl
theorem Res.alloc (k:Sim ι st.h st.nx w){o:AO}{x:Obj}{S:Nat}(hx:OR (ι.add st.nx w.heap.size S) S o x){v:AV}{y:Value}{res:Result Next}
  (hv:VR (ι.add st.nx w.heap.size S) v y) (hr:res=.ok (.value y) (w.alloc x)) :
  Res ι w st (.ok v ⟨st.nx+1,(jZ (jI st.nx)).run o st.h,st.dirty,st.fr⟩) res:=by
 obtain⟨h1,h2,h3⟩:=k.alloc o x S hx;exact⟨_,y,_,.inl hr,h2,hv,h1,h3,Cleanly.alloc ι st o _ _,rfl⟩
theorem QS (ι:Inj)(b B S:Nat):(ι.add b B S) b=.at B S:=by simp[Inj.add]
theorem V8 (ι:Inj)(b B S:Nat):VR (ι.add b B S) (.ptr b 0) (.pointer (some ⟨B,0,none⟩)):=by
 simp only[VR];refine⟨by rw[QS];simp,_,rfl,λB' S' e=>?_⟩;rw[QS] at e;cases e;rfl
theorem jaw {cells:List AV}{vs:List Value}(h:VRs ι cells vs)(hc:cells.all AV.cell=true)(elem:TypeId) :
  OR ι vs.length (.row cells.length cells.length cells .e) (.cells vs.toArray elem (0,0)):=by
 simp only[OR];have hl:=h.length;refine⟨_,elem,0,0,rfl,by simp,om,om,λi hi=>?_⟩;have e:qv cells.length cells .e i=cells.getD i .bad:=by rw[yY,QH,Qbh hi];rfl
 rw[e];refine⟨?_,vs.getD i undef,?_,h.get i hi⟩
 ·simp only[Qac,Qaj hi,QaJ];exact Qah.1 hc _ (Qam hi)
 ·have:i<vs.length:=om
  simp[Qac,Qaj this]
theorem kg (k:Sim ι st.h st.nx w){cells:List AV}{v:Value}(h:VRs ι cells v.cells.toList)(hc:cells.all AV.cell=true)(elem:TypeId){res:Result Next}
  (hr:res=.ok (.value (.pointer (some ⟨w.heap.size,0,none⟩))) (w.alloc (.cells v.cells elem))):Res ι w st (Ev.newRow st cells) res:=by
 unfold Ev.newRow;rw[jB,jO,St.alloc_eq];have le:=Le.add (ι:=ι) k.born w.heap.size v.cells.toList.length;refine Res.alloc k (S:=v.cells.toList.length) (x:=.cells v.cells elem) ?_ (V8 _ _ _ _) hr;have:=jaw (VRs.mono le _ _ h) hc elem;simpa using this
theorem jdY {t:TypeId}{i:TypeInfo}{z:Value}(hi:P.info? t=some i)(hz:i.zero=some z) :
  (Instr.alloc t true (.tuple #[])).run P w=.ok (.pointer (some ⟨w.heap.size,0,none⟩)) (w.alloc (.cells z.cells t)):=by
 simp[Instr.alloc,zN hi hz,newVar,Go.newRow]
theorem jhN (t:TypeId)(v:Value):(Instr.box t v).run P w=.ok (.pointer (some ⟨w.heap.size,0,none⟩)) (w.alloc (.cells v.cells t)):=by
 simp[Instr.box,newVar,Go.newRow]
theorem jJ {b:Bool}{x:ER}{res:Result Next}(h:b=true->Res ι w st x res):Res ι w st (cond b x .no) res:=by
 cases b
 ·trivial
 ·exact h rfl
theorem Qc {b:Bool}{x y:ER}{res:Result Next}(h:b=true->Res ι w st x res)(h':b=false->Res ι w st y res):Res ι w st (cond b x y) res:=by
 cases b
 ·exact h' rfl
 ·exact h rfl
variable {ρ:Operand->Value} {op:Operand->OF} {env:Env} {o:Oper}
theorem kK {x:Operand}(ho:o.op=.move x\/o.op=.assign x)(k:Sim ι st.h st.nx w)(hx:VR ι ((op x).run env) (ρ x)) :
  Res ι w st (.ok ((op x).run env) st) ((execOp ρ o).run P w):=by
 refine Res.val k ?_ hx;rcases ho with ho|ho<;>simp[execOp,ho]
theorem jdA {c a b:Operand}(ho:o.op=.pick c a b)(k:Sim ι st.h st.nx w)(hc:VR ι ((op c).run env) (ρ c))(ha:VR ι ((op a).run env) (ρ a))(hb:VR ι ((op b).run env) (ρ b)) :
  Res ι w st ((jo P op (.pick c a b)).run env st) ((execOp ρ o).run P w):=by
 show Res ι w st (Ye ((op c).run env) λq=>.ok (cond q ((op a).run env) ((op b).run env)) st) _;generalize (op c).run env=vc at hc;cases vc<;>try trivial
 rename_i q;simp only[VR] at hc;refine Res.val (x:=if q then ρ a else ρ b) k ?_ ?_
 ·simp only[execOp,ho,hc,asBool,Sem.run_bind,Sem.run_pure,Result.andThen_ok]
 ·cases q
  ·exact hb
  ·exact ha
theorem jby {t:TypeId}(ho:o.op=.alloc t)(k:Sim ι st.h st.nx w):Res ι w st ((jo P op (.alloc t)).run env st) ((execOp ρ o).run P w):=by
 simp only[jo];cases hz:zeroCells P t with
 |none=>trivial
 |some z=>
  simp only;obtain⟨i,zv,hi,hzv,hr⟩:=YN hz ι;cases hc:lall AV.cell z
  ·trivial
  ·refine kg k (v:=zv) hr (by simpa using hc) t ?_;simp only[execOp,ho,Sem.run_bind,jdY hi hzv,Result.andThen_ok,Sem.run_pure]
theorem jfq {t:TypeId}{x:Operand}(ho:o.op=.box t x)(k:Sim ι st.h st.nx w)(hx:VR ι ((op x).run env) (ρ x)) :
  Res ι w st ((jo P op (.box t x)).run env st) ((execOp ρ o).run P w):=by
 refine jJ λhc=>?_;rw[Jn] at hc;refine kg k (v:=ρ x) (VR.cells hc hx) hc t ?_;simp only[execOp,ho,Sem.run_bind,jhN,Result.andThen_ok,Sem.run_pure]
theorem jdC {t:TypeId}{x:Operand}(ho:o.op=.load t x)(k:Sim ι st.h st.nx w)(hx:VR ι ((op x).run env) (ρ x)) :
  Res ι w st ((jo P op (.load t x)).run env st) ((execOp ρ o).run P w):=by
 show Res ι w st (match (qI P t).run ((op x).run env) st.h with|some v=>.ok v st|none=>.no) _;cases h:(qI P t).run ((op x).run env) st.h with
 |none=>trivial
 |some u=>
  obtain⟨y,hy,hv⟩:=H1 k hx h;exact Res.val k (by simp only[execOp,ho,Sem.run_bind,hy,Result.andThen_ok,Sem.run_pure]) hv
theorem jbq {t:TypeId}{x y:Operand}(ho:o.op=.store t x y)(k:Sim ι st.h st.nx w)(hx:VR ι ((op x).run env) (ρ x))(hy:VR ι ((op y).run env) (ρ y)) :
  Res ι w st ((jo P op (.store t x y)).run env st) ((execOp ρ o).run P w):=by
 simp only[jo,gA];cases hs:Ev.sizeOf P t with
 |none=>trivial
 |some n=>
  simp only;obtain⟨i,hi,hsi⟩:=y7 hs;generalize hvx:(op x).run env=vx at hx;cases vx<;>try trivial
  rename_i b off;simp only[VR] at hx;obtain⟨hb,ad,hpx,had⟩:=hx;simp only[qU];cases hg:jr st.h b with
  |none=>trivial
  |some ob=>
   cases ob<;>try trivial
   rename_i m zl z cs;simp only[yz];refine jJ λh1=>jJ λh2=>jJ λh3=>?_;rw[qD,jO] at h1;rw[qe] at h2;rw[Jn] at h3;rw[St.put_eq];obtain⟨B,S,c,elem,lo,hi',e,hw,_⟩:=k.row hb hg;rw[had B S e] at hpx;have hcells:=VR.cells h3 hy;have h2':off+n<=m:=h2;obtain⟨w',hr,hs',hf'⟩:=Wr (P:=P) (o:=off) k hb hg e hcells h3 om;refine⟨ι,undef,w',.inr ⟨?_,rfl⟩,Le.refl ι,?_,hs',hf',Cleanly.put ι st b _ (k.born b hb),rfl⟩
   ·have hsz:(ρ y).cells.size=i.size:=by
     have:=hcells.length;rw[Qai] at this;omega
    simp only[execOp,ho,Sem.run_bind,hpx,Instr.storeAt,Instr.sureAddr,Sem.run_pure,Result.andThen_ok,storeVar,j6 hi,hsz];simp[hr]
   ·show VR ι qf undef;simp only[qf,undef,VR];exact⟨#[],rfl,by simp[VRs]⟩
theorem Ka {x:Operand}(ho:o.op=.nilCheck x)(k:Sim ι st.h st.nx w)(hx:VR ι ((op x).run env) (ρ x)) :
  Res ι w st ((jo P op (.nilCheck x)).run env st) ((execOp ρ o).run P w):=by
 simp only[jo,Jy];try dsimp only
 generalize (op x).run env=vx at hx;cases vx<;>try trivial
 all_goals
  refine Res.val k (x:=ρ x) ?_ hx;simp only[VR] at hx
 case bool=>simp[execOp,ho,hx]
 case int=>simp[execOp,ho,hx]
 case str=>obtain⟨bs,h,_⟩:=hx;simp[execOp,ho,h]
 case zstr=>obtain⟨bs,h,_⟩:=hx;simp[execOp,ho,h]
 case ptr=>obtain⟨_,a,h,_⟩:=hx;simp[execOp,ho,h]
 case slice=>obtain⟨_,_,a,C,h,_⟩:=hx;simp[execOp,ho,h]
 case nils=>simp[execOp,ho,hx]
 case map=>obtain⟨_,R,h,_⟩:=hx;simp[execOp,ho,h]
 case nilm=>simp[execOp,ho,hx]
 case fn=>obtain⟨cv,h,_⟩:=hx;simp[execOp,ho,h]
 case iface=>obtain⟨y,h,_⟩:=hx;simp[execOp,ho,h]
 case agg=>obtain⟨y,h,_⟩:=hx;simp[execOp,ho,h]
 case tup=>obtain⟨y,h,_⟩:=hx;simp[execOp,ho,h]
 case lst=>obtain⟨p,C,h,_⟩:=hx;simp[execOp,ho,h]
 case xlst=>obtain⟨p,h,_⟩:=hx;simp[execOp,ho,h]
 case lptr=>obtain⟨B,o,vs,h,_⟩:=hx;simp[execOp,ho,h]
theorem Gz {x:Operand}{i:Nat}(ho:o.op=.extract x i)(k:Sim ι st.h st.nx w)(hx:VR ι ((op x).run env) (ρ x)) :
  Res ι w st ((jo P op (.extract x i)).run env st) ((execOp ρ o).run P w):=by
 simp only[jo];try dsimp only
 generalize (op x).run env=vx at hx;cases vx<;>try trivial
 rename_i vs;simp only[VR] at hx;obtain⟨a,h,hv⟩:=hx;refine jJ λhle=>?_;rw[qe,jO] at hle;have hl:=hv.length;rw[Qai] at hl;have hi:i<a.size:=om
 refine Res.val k (x:=a[i]) ?_ ?_
 ·simp[execOp,ho,h,Instr.extract,hi]
 ·rw[zk];have:=hv.get i om;simpa[Qac,hi] using this
theorem vZ {x:Operand}{t:TypeId}(ho:o.op=.makeInterface t x)(k:Sim ι st.h st.nx w)(hx:VR ι ((op x).run env) (ρ x)) :
  Res ι w st ((jo P op (.makeInterface t x)).run env st) ((execOp ρ o).run P w):=by
 simp only[jo];cases hu:P.underlying t with
 |none=>trivial
 |some d=>
  cases d<;>try trivial
  all_goals
   refine Res.val k (x:=.iface t (ρ x)) ?_ (by simp only[VR];exact⟨_,rfl,hx⟩);simp[execOp,ho,Instr.makeInterface,run_underlying hu]
theorem Kb {f:FuncId}{first caps:Array Operand}(ho:o.op=.makeFunc (.func f) first caps)(k:Sim ι st.h st.nx w)(hx:∀ x∈caps,VR ι ((op x).run env) (ρ x)) :
  Res ι w st ((jo P op (.makeFunc (.func f) first caps)).run env st) ((execOp ρ o).run P w):=by
 simp only[jo];split<;>try trivial
 rename_i hf;have hf':first = #[]:=by
  cases first;simp at hf;rw[hf]
 subst hf';refine Res.val k (x:=.func (.func f) #[] (caps.map ρ)) ?_ ?_
 ·simp[execOp,ho,Instr.makeFunc]
 ·simp only[VR];refine⟨_,rfl,?_⟩;rw[yE,Qbi];exact VRs.map_of _ λx hxm=>hx x (by simpa using hxm)
theorem Gy {t:TypeId}(ho:o.op=.makeMap t none)(k:Sim ι st.h st.nx w):Res ι w st ((jo P op (.makeMap t none)).run env st) ((execOp ρ o).run P w):=by
 simp only[jo];rw[St.alloc_eq];refine Res.alloc k (S:=0) (x:=.map #[] 0) (y:=.map (some w.heap.size)) ?_ ?_ ?_
 ·simp only[OR];exact⟨#[],0,rfl,by simp[MR]⟩
 ·simp only[VR];refine⟨by rw[QS];simp,_,rfl,λB S e=>?_⟩;rw[QS] at e;cases e;rfl
 ·simp[execOp,ho,Instr.makeMap]
theorem VC {P:Program}{t:TypeId}{n:Nat}(h:Ev.sizeOf P t=some (n+1))(a:Addr)(f:Field)(hf:f.type=t):(fieldPlace a f).run P w=.ok (a.add f.offset) w:=by
 obtain⟨i,hi,hs⟩:=y7 h;subst hf;simp[fieldPlace,j6 hi,hs]
theorem UJ {s:TypeId}{x:Operand}{f:Nat}(ho:o.op=.fieldAddr s x f)(k:Sim ι st.h st.nx w)(hx:VR ι ((op x).run env) (ρ x)) :
  Res ι w st ((jo P op (.fieldAddr s x f)).run env st) ((execOp ρ o).run P w):=by
 simp only[jo,Xf];split<;>try trivial
 rename_i fields hu;split<;>try trivial
 rename_i fd hfd;split<;>try trivial
 rename_i n hn;try dsimp only
 generalize (op x).run env=vx at hx;cases vx<;>try trivial
 rotate_left
 ·rename_i cs o;simp only[VR] at hx;obtain⟨B,o',vs,hpx,e0,e2,e3,e4⟩:=hx;refine Res.val k (x:=.pointer (some ((⟨B,o'+o,none⟩:Addr).add fd.offset))) ?_ ?_
  ·simp only[execOp,ho,Instr.fieldAt,Sem.run_bind,run_underlying hu,Result.andThen_ok,hpx,Instr.sureAddr];simp[hfd,VC hn _ fd rfl]
  ·simp only[VR];exact⟨B,o',vs,by rw[yC,Qbt];rfl,e0,e2,e3,e4⟩
 rename_i b off;simp only[VR] at hx;obtain⟨hb,ad,hpx,had⟩:=hx;simp only[jB];refine Res.val k (x:=.pointer (some (ad.add fd.offset))) ?_ ?_
 ·simp only[execOp,ho,Instr.fieldAt,Sem.run_bind,run_underlying hu,Result.andThen_ok,hpx,Instr.sureAddr];simp[hfd,VC hn _ fd rfl]
 ·simp only[VR];refine⟨hb,_,rfl,λB S e=>?_⟩;rw[had B S e,yC];rfl
theorem XI {t:TypeId}{cs:List AV}{a:Array Value}(h:VRs ι cs a.toList){off:Nat}{u:AV}(hp:zc P t cs off=some u) :
  ∃ x,(part t a off).run P w=.ok x w/\VR ι u x:=by
 unfold zc at hp;cases hg:Ev.isAgg P t with
 |none=>simp[hg] at hp
 |some g=>
  simp only[hg,QaK] at hp;cases g
  ·simp only[cond] at hp;cases hle:Qcd (Qcc off) (jM cs)
   ·rw[hle] at hp;cases hp
   ·rw[hle] at hp;simp only[zk,Option.some.injEq] at hp;rw[qe,jO] at hle;have hl:=h.length;rw[Qai] at hl;have hi:off<a.size:=om
    refine⟨a[off],by simp[part,QW hg,hi],?_⟩;rw[<-hp];have:=h.get off om;simpa[Qac,hi] using this
  ·simp only[cond] at hp;cases hs:Ev.sizeOf P t with
   |none=>simp[hs] at hp
   |some n=>
    simp only[hs,Qat,Option.some.injEq,q8,y4] at hp;obtain⟨i,hi,hsi⟩:=y7 hs;refine⟨.agg (a.extract off (off+n)),by simp[part,QW hg,j6 hi,hsi],?_⟩;rw[<-hp];simp only[VR];refine⟨_,rfl,?_⟩;have:=(h.drop off).take n;simpa[Array.toList_extract,List.extract_eq_take_drop] using this
theorem jbv {s:TypeId}{x:Operand}{f:Nat}(ho:o.op=.field s x f)(k:Sim ι st.h st.nx w)(hx:VR ι ((op x).run env) (ρ x)) :
  Res ι w st ((jo P op (.field s x f)).run env st) ((execOp ρ o).run P w):=by
 simp only[jo,wm];split<;>try trivial
 rename_i fields hu;split<;>try trivial
 rename_i fd hfd;try dsimp only
 generalize (op x).run env=vx at hx;cases vx<;>try trivial
 rename_i cs;simp only[VR] at hx;obtain⟨a,hpx,hv⟩:=hx;simp only[JE];cases hp:zc P fd.type cs fd.offset with
 |none=>trivial
 |some u=>
  obtain⟨y,hy,hvy⟩:=XI (w:=w) hv hp;refine Res.val k (x:=y) ?_ hvy;simp only[execOp,ho,Instr.field,Sem.run_bind,run_underlying hu,Result.andThen_ok,hpx,asAgg];simp[hfd,hy]
theorem zj {v:AV}{x:Value}(hv:VR ι v x){f:Nat->ER}{res:Result Next}(h:∀ k n,x=.int k (Qaq n)->Res ι w st (f n) res):Res ι w st (qt v f) res:=by
 unfold qt;split<;>try trivial
 rename_i kk n;simp only[VR] at hv;rw[jB];exact h _ _ hv
theorem UI {t:TypeId}{x y:Operand}(ho:o.op=.indexAddr t x y)(k:Sim ι st.h st.nx w)(hx:VR ι ((op x).run env) (ρ x))(hy:VR ι ((op y).run env) (ρ y)) :
  Res ι w st ((jo P op (.indexAddr t x y)).run env st) ((execOp ρ o).run P w):=by
 simp only[jo,Qm];split<;>try trivial
 ·rename_i n e hu;split<;>try trivial
  rename_i s hs;obtain⟨i,hi,hsi⟩:=y7 hs;try dsimp only
  generalize (op x).run env=vx at hx;cases vx<;>try trivial
  rename_i b off;simp only[VR] at hx;obtain⟨hb,ad,hpx,had⟩:=hx;simp only[qU];refine zj hy λkk j hj=>jJ λhle=>?_;rw[qe] at hle;rw[jB];refine Res.val k (x:=.pointer (some (ad.add (j * s)))) ?_ ?_
  ·have h1:(0:Int)<=Qaq j/\Qaq j<(n:Int):=⟨QbA j,by show(j:Int)<n;omega⟩;simp only[execOp,ho,Instr.indexAt,hj,asIntOf,Sem.run_bind,Sem.run_pure,Result.andThen_ok,run_underlying hu,hpx,Instr.sureAddr];simp[j6 hi,hsi,run_underlying hu];omega
  ·simp only[VR];refine⟨hb,_,rfl,λB S e=>?_⟩;rw[had B S e,yC];rfl
 ·rename_i e hu;split<;>try trivial
  rename_i s hs;obtain⟨i,hi,hsi⟩:=y7 hs;try dsimp only
  generalize (op x).run env=vx at hx;cases vx<;>try trivial
  rotate_left
  ·rename_i n cs;simp only[VR] at hx;obtain⟨p,C,hpx,hC,e0,hn⟩:=hx;refine zj hy λkk j hj=>jJ λhle=>?_;rw[qe] at hle;obtain⟨B,o',vs,rfl,e2,e3,e4⟩:=hn om;refine Res.val k (x:=.pointer (some ((⟨B,o',none⟩:Addr).add (j * s)))) ?_ ?_
   ·simp only[execOp,ho,Instr.indexAt,hj,asIntOf,Sem.run_bind,Sem.run_pure,Result.andThen_ok,run_underlying hu,hpx];simp[j6 hi,hsi,run_underlying hu];omega
   ·simp only[VR];exact⟨B,o',vs,by rw[yC];rfl,e0,e2,e3,e4⟩
  rename_i b off len cap sz ex;simp only[VR] at hx;obtain⟨hb,hlc,ad,C,hpx,hC,hex,had⟩:=hx;refine zj hy λkk j hj=>jJ λhle=>?_;rw[qe] at hle;rw[jB];refine Res.val k (x:=.pointer (some (ad.add (j * s)))) ?_ ?_
  ·simp only[execOp,ho,Instr.indexAt,hj,asIntOf,Sem.run_bind,Sem.run_pure,Result.andThen_ok,run_underlying hu,hpx];simp[j6 hi,hsi,run_underlying hu];omega
  ·simp only[VR];refine⟨hb,_,rfl,λB S e=>?_⟩;have hC0:C≠0:=om
   rcases (had B S e).1 with h0|h0
   ·exact absurd h0 hC0
   ·rw[h0,yC];rfl
end
theorem Qx (a b:Int):ltI a b=decide (a<b):=by
 have key:∀ m n:Nat,Qcd (Qcc m) n=decide (m<n):=λm n=>by
  rw[Qax,qe,decide_eq_true_iff];exact Nat.succ_le_iff
 cases a with
 |ofNat m=>cases b with
  |ofNat n=>show Qcd (Qcc m) n=_;rw[key];congr 1;simp
  |negSucc n=>show false=_;symm;rw[decide_eq_false_iff_not];simp[Int.negSucc_eq];omega
 |negSucc m=>cases b with
  |ofNat n=>show true=_;symm;rw[decide_eq_true_iff];simp[Int.negSucc_eq];omega
  |negSucc n=>show Qcd (Qcc n) m=_;rw[key];congr 1;simp[Int.negSucc_eq]
theorem Qz (a b:Int):eqI a b=decide (a=b):=by
 have key:∀ m n:Nat,Qcb m n=decide (m=n):=λm n=>by
  rw[Qax,qD,decide_eq_true_iff]
 cases a with
 |ofNat m=>cases b with
  |ofNat n=>show Qcb m n=_;rw[key];congr 1;simp;omega
  |negSucc n=>show false=_;symm;rw[decide_eq_false_iff_not];intro h;cases h
 |negSucc m=>cases b with
  |ofNat n=>show false=_;symm;rw[decide_eq_false_iff_not];intro h;cases h
  |negSucc n=>show Qcb m n=_;rw[key];congr 1;simp
theorem Zn {a b:IntKind}(h:eqK a b=true):a=b:=by
 cases a<;>cases b<;>first|rfl|(simp[eqK] at h)
theorem wA {k:IntKind}{n:Nat}(h:n<=zQ k):k.wrap (.ofNat n)=.ofNat n:=by
 have e:(Qaq n)=(n:Int):=rfl;rw[e];cases k<;>simp only[zQ] at h<;>simp only[IntKind.wrap,IntKind.bits,IntKind.signed]<;>simp<;>omega
theorem jeH {k:IntKind}{n:Nat}(hs:sgn k=true)(h:n<=zQ k):k.wrap (.negSucc n)=.negSucc n:=by
 rw[Int.negSucc_eq];cases k<;>simp only[zQ] at h<;>simp[sgn] at hs<;>simp only[IntKind.wrap,IntKind.bits,IntKind.signed]<;>simp<;>omega
theorem Xq (k:IntKind)(x:Int):Je k x=k.wrap x:=by
 unfold Je;cases x with
 |ofNat n=>
  simp only[jB];cases h:Qcd n (zQ k)
  ·rfl
  ·rw[qe] at h;exact(wA h).symm
 |negSucc n=>
  simp only[jB];cases hs:sgn k
  ·rfl
  ·cases h:Qcd n (zQ k)
   ·rfl
   ·rw[qe] at h;exact(jeH hs h).symm
theorem HZ (k:IntKind):zQ k<2 ^ k.bits:=by cases k<;>simp[zQ,IntKind.bits]
theorem kf (w n:Nat)(h:n<2 ^ w):(BitVec.ofInt w (.ofNat n)).toNat=n:=by
 have e:(Qaq n)=(n:Int):=rfl;rw[e,BitVec.ofInt_natCast,BitVec.toNat_ofNat,Qbh h]
theorem jfb (k:IntKind):∃ w,zQ k=2 ^ w - 1/\w<=k.bits:=by
 cases k
 ·exact⟨7,by simp[zQ],by simp[IntKind.bits]⟩
 ·exact⟨15,by simp[zQ],by simp[IntKind.bits]⟩
 ·exact⟨31,by simp[zQ],by simp[IntKind.bits]⟩
 ·exact⟨63,by simp[zQ],by simp[IntKind.bits]⟩
 ·exact⟨8,by simp[zQ],by simp[IntKind.bits]⟩
 ·exact⟨16,by simp[zQ],by simp[IntKind.bits]⟩
 ·exact⟨32,by simp[zQ],by simp[IntKind.bits]⟩
 ·exact⟨64,by simp[zQ],by simp[IntKind.bits]⟩
theorem jhP (op:BinOp)(k:IntKind)(x y:Int):GX op k x y=vn op k x y:=by
 unfold GX;split<;>try rfl
 rename_i m n;cases hm:Qcd m (zQ k)
 ·rfl
 cases hn:Qcd n (zQ k)
 ·rfl
 rw[qe] at hm hn;have hm':=Nat.lt_of_le_of_lt hm (HZ k);have hn':=Nat.lt_of_le_of_lt hn (HZ k);have em:=kf k.bits m hm';have en:=kf k.bits n hn';obtain⟨w,hw,hwb⟩:=jfb k;have pw:0<2 ^ w:=Nat.two_pow_pos w;have hm2:m<2 ^ w:=om
 have hn2:n<2 ^ w:=om
 show(match op with | .and=>_ | .or=>_ | .xor=>_|op=>_)=_;cases op<;>try rfl
 ·show some (Qaq (m &&& n))=some (k.wrap (Qaq (BitVec.ofInt k.bits (.ofNat m) &&& BitVec.ofInt k.bits (.ofNat n)).toNat));rw[BitVec.toNat_and,em,en,wA];have:=Nat.and_lt_two_pow m hn2;omega
 ·show some (Qaq (m |||n))=some (k.wrap (Qaq (BitVec.ofInt k.bits (.ofNat m) |||BitVec.ofInt k.bits (.ofNat n)).toNat));rw[BitVec.toNat_or,em,en,wA];have:=Nat.or_lt_two_pow hm2 hn2;omega
 ·show some (Qaq (m ^^^ n))=some (k.wrap (Qaq (BitVec.ofInt k.bits (.ofNat m) ^^^ BitVec.ofInt k.bits (.ofNat n)).toNat));rw[BitVec.toNat_xor,em,en,wA];have:=Nat.xor_lt_two_pow hm2 hn2;omega
section
variable {P:Program} {ι:Inj} {w:World} {st:St}
theorem jdS {op:BinOp}{k:IntKind}{x y m:Int}(h:vn op k x y=some m):(Op.intBits op k x y).run P w=.ok (.int k m) w:=by
 unfold vn at h;cases op<;>simp only[Option.some.injEq] at h<;>try(cases h;done)
 all_goals
  subst h;simp[Op.intBits]
theorem jfH {op:BinOp}(hs:op≠.shl)(hs':op≠.shr){k:IntKind}{a b:Int}{v:AV}(h:(QA op).run k a b=some v)(t:TypeId) :
  ∃ x,(binOp op t (.int k a) (.int k b)).run P w=.ok x w/\VR ι v x:=by
 cases op<;>simp only[QA,BF.run,Xq,jhP,Qx,Qz,Option.some.injEq] at h;case shl=>exact absurd rfl hs
 case shr=>exact absurd rfl hs'
 case add=>subst h;exact⟨.int k (k.wrap (a+b)),by simp[binOp,Op.intArith],rfl⟩
 case sub=>subst h;exact⟨.int k (k.wrap (a - b)),by simp[binOp,Op.intArith],rfl⟩
 case mul=>subst h;exact⟨.int k (k.wrap (a * b)),by simp[binOp,Op.intArith],rfl⟩
 case quo=>
  by_cases hb:b=.ofNat 0
  ·simp[hb] at h
  ·rw[decide_eq_false hb] at h;simp only[cond] at h;have hb':¬ b=0:=hb;refine⟨.int k (k.wrap (a.tdiv b)),by simp[binOp,Op.intDiv,hb'],?_⟩;split at h
   ·rename_i m n;simp only[Option.some.injEq] at h;subst h;rfl
   ·simp only[Option.some.injEq] at h;subst h;rfl
 case rem=>
  by_cases hb:b=.ofNat 0
  ·simp[hb] at h
  ·rw[decide_eq_false hb] at h;simp only[cond] at h;have hb':¬ b=0:=hb;refine⟨.int k (a.tmod b),by simp[binOp,Op.intDiv,hb'],?_⟩;split at h
   ·simp only[Option.some.injEq] at h;subst h;rfl
   ·simp only[Option.some.injEq] at h;subst h;rfl
 case eql=>subst h;exact⟨.bool (a == b),by simp[binOp,Op.intCmp],by simp[VR];rw[Qax];simp⟩
 case neq=>
  subst h;refine⟨.bool (a != b),by simp[binOp,Op.intCmp],?_⟩;simp only[VR,Value.bool.injEq];by_cases hb:a=b<;>simp[hb]
 case lss=>subst h;exact⟨.bool (decide (a<b)),by simp[binOp,Op.intCmp],rfl⟩
 case leq=>
  subst h;refine⟨.bool (decide (a<=b)),by simp[binOp,Op.intCmp],?_⟩;simp only[VR,Value.bool.injEq];by_cases hb:b<a
  ·have:¬ a<=b:=om
   simp[hb,this]
  ·have:a<=b:=om
   simp[hb,this]
 case gtr=>subst h;exact⟨.bool (decide (a > b)),by simp[binOp,Op.intCmp],rfl⟩
 case geq=>
  subst h;refine⟨.bool (decide (a ≥ b)),by simp[binOp,Op.intCmp],?_⟩;simp only[VR,Value.bool.injEq];by_cases hb:a<b
  ·have:¬ a ≥ b:=om
   simp[hb,this]
  ·have:a ≥ b:=om
   simp[hb,this]
 all_goals
  rw[Qbu] at h;obtain⟨m,hm,rfl⟩:=h;refine⟨.int k m,?_,rfl⟩;simp[binOp,jdS hm]
theorem gE {op:BinOp}(ho:op=.shl\/op=.shr){k yk:IntKind}{a b:Int}{v:AV}(h:Z9 op k a b=some v)(t:TypeId) :
  ∃ x,(binOp op t (.int k a) (.int yk b)).run P w=.ok x w/\VR ι v x:=by
 rcases ho with rfl|rfl
 all_goals
  simp only[Z9,Qx] at h;by_cases hb:b<.ofNat 0
  ·rw[decide_eq_true hb] at h;cases h
  ·rw[decide_eq_false hb] at h;simp only[cond,Option.some.injEq] at h;have hb':¬ b<0:=hb;subst h;exact⟨_,by simp[binOp,Op.shift,hb'],rfl⟩
theorem JA:∀ a b:List Nat,XX a b=decide (a=b)
 |[],[]=>rfl
 |[],b :: l=>by show false=_;simp
 |a :: l,[]=>by show false=_;simp
 |a :: l,b :: r=>by
  show cond (Qcb a b) (XX l r) false=_;rw[JA l r];cases h:Qcb a b
  ·have:a≠b:=λe=>by rw[<-qD,h] at e;cases e
   simp[this]
  ·rw[qD] at h;simp[h]
theorem Jj:∀ {a b:List UInt8},a.map UInt8.toNat=b.map UInt8.toNat↔a=b
 |[],[]=>by simp
 |[],_ :: _=>by simp
 |_ :: _,[]=>by simp
 |a :: l,b :: r=>by simp[Jj (a:=l) (b:=r),UInt8.toNat_inj]
theorem uh:∀ a b:List UInt8,Ev.bytesLess (a.map UInt8.toNat) (b.map UInt8.toNat)=Op.bytesLess a b
 |[],[]=>by simp[Ev.bytesLess,Op.bytesLess]
 |[],_ :: _=>by simp[Ev.bytesLess,Op.bytesLess]
 |_ :: _,[]=>by simp[Ev.bytesLess,Op.bytesLess]
 |a :: l,b :: r=>by
  simp only[ν,Ev.bytesLess,Op.bytesLess,uh l r]
  congr 1
  ·rw[Qax,qe,decide_eq_true_iff,UInt8.lt_iff_toNat_lt];exact Nat.succ_le_iff
  ·congr 1
   rw[Qax,qD,beq_iff_eq,UInt8.toNat_inj]
theorem J0 {s:List Nat}{bs:ByteArray}(h:bs.data.toList.map UInt8.toNat=s):bs.size=s.length:=by
 rw[<-h,QaN,Qai];rfl
theorem jcz {op:BinOp}{a b:List Nat}{x y:ByteArray}(hx:x.data.toList.map UInt8.toNat=a)(hy:y.data.toList.map UInt8.toNat=b){v:AV}(h:Zu op a b=some v)(t:TypeId) :
  ∃ u,(binOp op t (.string x) (.string y)).run P w=.ok u w/\VR ι v u:=by
 have e:decide (a=b)=(x.toList == y.toList):=by
  rw[Qax,decide_eq_true_iff,beq_iff_eq,ByteArray.toList_eq,ByteArray.toList_eq,<-hx,<-hy,Jj]
 have el:Ev.bytesLess a b=Op.bytesLess x.toList y.toList:=by rw[ByteArray.toList_eq,ByteArray.toList_eq,<-hx,<-hy,uh]
 cases op;case add=>
  change cond (Qcd (Qce (jM a) (jM b)) 9223372036854775807) (some (AV.str (y6 a b))) none=some v at h;generalize hle:Qcd (Qce (jM a) (jM b)) 9223372036854775807=q at h;cases q
  ·cases h
  ·simp only[cond,Option.some.injEq,yS] at h;rw[qe,jO,jO] at hle;have hle':a.length+b.length<=9223372036854775807:=hle;refine⟨.string (x ++ y),?_,?_⟩
   ·rw[binOp_string_add,run_string_add_sum w x y (by rw[J0 hx,J0 hy];exact hle')]
   ·subst h;simp only[VR];exact⟨_,rfl,by simp[hx,hy]⟩
 all_goals simp only[Zu,JA,Option.some.injEq] at h
 all_goals try(cases h;done)
 case eql=>subst h;exact⟨.bool (x.toList == y.toList),by simp[binOp,Op.stringOp],by simp only[VR,e]⟩
 case neq=>
  subst h;refine⟨.bool (!(x.toList == y.toList)),by simp[binOp,Op.stringOp],?_⟩;simp only[VR,e];cases (x.toList == y.toList)<;>rfl
 case lss=>subst h;exact⟨.bool (Op.bytesLess x.toList y.toList),by simp[binOp,Op.stringOp],by simp only[VR,el]⟩
 case leq=>subst h;exact⟨.bool (Op.bytesLess x.toList y.toList ||x.toList == y.toList),by simp[binOp,Op.stringOp],by simp only[VR,el,e]⟩
 case gtr=>subst h;exact⟨.bool (!(Op.bytesLess x.toList y.toList ||x.toList == y.toList)),by simp[binOp,Op.stringOp],by simp only[VR,el,e]⟩
 case geq=>subst h;exact⟨.bool (!(Op.bytesLess x.toList y.toList)),by simp[binOp,Op.stringOp],by simp only[VR,el]⟩
end
section
variable {P:Program} {ι:Inj} {w:World} {st:St}
theorem Wg {d n len:Nat}{t e:TypeId}{i:TypeInfo}(ht:P.underlying t=some (.array len e))(hi:P.info? e=some i)(hn:i.size=n)(xs ys:Array Value)
  (f:Nat->Option Bool) :
  ∀ (k s:Nat) (q:Bool),((Qaa s k).foldr (λi r=>(f i).bind λq=>cond q r (some false)) (some true))=some q->
   (∀ j b,s<=j->j<s+k->f j=some b->∃ u v,(part e xs (j * n)).run P w=.ok u w/\(part e ys (j * n)).run P w=.ok v w/\(Op.equalIn d e u v).run P w=.ok b w)->
   (do
    for i in Qaa s k do
     if !(<-Op.equalIn d e (<-part e xs (i * n)) (<-part e ys (i * n))) then return false
    return true:Sem Bool).run P w=.ok q w
 |0,s,q,h,_=>by
  simp at h;subst h;simp
 |k+1,s,q,h,hf=>by
  rw[QaY,QbB] at h;cases hs:f s with
  |none=>simp[hs] at h
  |some b=>
   obtain⟨u,v,h1,h2,h3⟩:=hf s b (φ _) om hs;simp only[hs,QaK] at h;have ih:=λq' h'=>Wg ht hi hn xs ys f k (s+1) q' h' (λj b h4 h5 h6=>hf j b om om h6);cases b
   ·simp only[cond,Option.some.injEq] at h;subst h;simp[QaY,h1,h2,h3]
   ·simp only[cond] at h;have:=ih q h;simp[QaY,h1,h2,h3] at this ⊢;exact this
theorem KO:∀ (d:Nat) (t:TypeId) (x y:AV) (u v:Value) (q:Bool),VR ι x u->VR ι y v->(eqF P d t).run x y=some q->∀ D,d<=D->(Op.equalIn D t u v).run P w=.ok q w
 |0,t,x,y,u,v,q,hx,hy,h,D,hD=>by simp[eqF,NOQ] at h
 |d+1,t,x,y,u,v,q,hx,hy,h,0,hD=>by omega
 |d+1,t,x,y,u,v,q,hx,hy,h,D+1,hD=>by
  have hD':d<=D:=om
  simp only[eqF] at h;split at h
  ·rename_i hu;simp only at h;split at h<;>try(cases h;done)
   simp only[VR] at hx hy;subst hx;subst hy;rename_i a b;simp only[Option.some.injEq] at h;rw[run_equalIn_bool' w D t a b hu,<-h];cases a<;>cases b<;>rfl
  ·rename_i hu;simp only at h;split at h<;>try(cases h;done)
   simp only[VR] at hx hy;subst hx;subst hy;rename_i k a k' b;generalize hk:eqK k k'=kk at h;cases kk
   ·cases h
   ·have:=Zn hk;subst this;simp only[cond,Option.some.injEq,Qz] at h;rw[run_equalIn_int w D t k _ a b hu,<-h]
    congr 1
  ·rename_i hu;simp only at h;split at h<;>try(cases h;done)
   simp only[VR] at hx hy;obtain⟨bx,rfl,hbx⟩:=hx;obtain⟨by',rfl,hby⟩:=hy;simp only[Option.some.injEq,JA] at h;rw[run_equalIn_string w D t _ _ hu,<-h]
   congr 1
   rw[Qax,decide_eq_true_iff,beq_iff_eq,ByteArray.toList_eq,ByteArray.toList_eq,<-hbx,<-hby,Jj]
  ·rename_i hu;simp only at h;split at h<;>(try simp only[Option.some.injEq] at h)<;>try(cases h;done)
   all_goals simp only[VR] at hx hy
   ·subst hx;subst hy;subst h;simp[Op.equalIn,run_underlying hu]
   ·obtain⟨_,a,rfl,_⟩:=hy;subst hx;subst h;simp[Op.equalIn,run_underlying hu]
   ·obtain⟨_,a,rfl,_⟩:=hx;subst hy;subst h;simp[Op.equalIn,run_underlying hu]
  ·rename_i hu;simp only at h;split at h<;>(try simp only[Option.some.injEq] at h)<;>try(cases h;done)
   all_goals simp only[VR] at hx hy
   ·subst hx;subst hy;subst h;simp[Op.equalIn,run_underlying hu]
   ·obtain⟨_,_,a,C,rfl,_⟩:=hy;subst hx;subst h;simp[Op.equalIn,run_underlying hu]
   ·obtain⟨_,_,a,C,rfl,_⟩:=hx;subst hy;subst h;simp[Op.equalIn,run_underlying hu]
   ·obtain⟨p,C,rfl,_,_,hp⟩:=hx;obtain⟨B,o,vs,rfl,_⟩:=hp (QaR _);subst hy;subst h;simp[Op.equalIn,run_underlying hu]
  ·rename_i hu;simp only at h;split at h<;>(try simp only[Option.some.injEq] at h)<;>try(cases h;done)
   all_goals simp only[VR] at hx hy
   ·subst hx;subst hy;subst h;simp[Op.equalIn,run_underlying hu]
   ·obtain⟨_,a,rfl,_⟩:=hy;subst hx;subst h;simp[Op.equalIn,run_underlying hu]
   ·obtain⟨_,a,rfl,_⟩:=hx;subst hy;subst h;simp[Op.equalIn,run_underlying hu]
  ·rename_i hu;simp only at h;split at h<;>(try simp only[Option.some.injEq] at h)<;>try(cases h;done)
   all_goals simp only[VR] at hx hy
   ·subst hx;subst hy;subst h;simp[Op.equalIn,run_underlying hu]
   ·obtain⟨a,rfl,_⟩:=hy;subst hx;subst h;simp[Op.equalIn,run_underlying hu]
   ·obtain⟨a,rfl,_⟩:=hx;subst hy;subst h;simp[Op.equalIn,run_underlying hu]
  ·rename_i hu;simp only at h;split at h<;>(try simp only[Option.some.injEq] at h)<;>try(cases h;done)
   all_goals simp only[VR] at hx hy
   ·obtain⟨a,rfl,_⟩:=hy;subst hx;subst h;simp[Op.equalIn,run_underlying hu]
   ·obtain⟨a,rfl,_⟩:=hx;subst hy;subst h;simp[Op.equalIn,run_underlying hu]
  ·rename_i fields hu
   generalize hg : (P.stoodInHeld t || fields.toList.any λf => f.name == "_") = g at h
   cases g
   ·simp only[cond] at h;split at h<;>try(cases h;done)
    rename_i xs ys;simp only[VR] at hx hy;obtain⟨ax,rfl,hax⟩:=hx;obtain⟨ay,rfl,hay⟩:=hy;rw[QbC] at hg;have hf:P.fieldsOf t=fields:=by simp[Program.fieldsOf,hu]
    rw[run_equalIn_struct w D t ax ay (by rw[hf];exact hu) hg.1,hf];have hn:=hg.2;generalize fields.toList=fs at h hn;clear hg hf hu;induction fs generalizing q with
    |nil=>simp at h;subst h;simp[Op.eqFields]
    |cons f fs ih=>
     rw[QbB] at h;simp only[List.any_cons,QbC,beq_eq_false_iff_ne] at hn;cases h1:zc P f.type xs f.offset with
     |none=>simp[h1] at h
     |some ux=>
      cases h2:zc P f.type ys f.offset with
      |none=>simp[h1,h2] at h
      |some uy=>
       obtain⟨px,hpx,hvx⟩:=XI (w:=w) hax h1;obtain⟨py,hpy,hvy⟩:=XI (w:=w) hay h2;cases h3:(eqF P d f.type).run ux uy with
       |none=>simp[h1,h2,h3] at h
       |some b=>
        have h4:=KO d f.type ux uy px py b hvx hvy h3 D hD';simp only[h1,h2,h3,QaK] at h;simp only[Op.eqFields,hn.1,ne_eq,not_false_eq_true,if_true,Sem.run_bind,hpx,hpy,h4,Result.andThen_ok];cases b
        ·simp only[cond,Option.some.injEq] at h;subst h;simp
        ·simp only[cond] at h;simp only[Bool.not_true,QaI,if_false];exact ih q h hn.2
   ·cases h
  ·rename_i len e hu;split at h
   ·rename_i n hs;obtain⟨i,hi,hsi⟩:=y7 hs;simp only at h;split at h<;>try(cases h;done)
    rename_i xs ys;simp only[VR] at hx hy;obtain⟨ax,rfl,hax⟩:=hx;obtain⟨ay,rfl,hay⟩:=hy
    let f:Nat->Option Bool:=λi=>(zc P e xs (Qcf i n)).bind λu=>(zc P e ys (Qcf i n)).bind λv=>(eqF P d e).run u v
    have h':((Qaa 0 len).foldr (λi r=>(f i).bind λq=>cond q r (some false)) (some true))=some q:=by
     rw[<-h]
     congr 1
     funext i r
     simp only[f,Option.bind_assoc]
    have key:=Wg (w:=w) (d:=D) hu hi hsi ax ay f len 0 q h' (λj b _ _ hj=>by
     simp only[f] at hj;change ((zc P e xs (j * n)).bind λu=>(zc P e ys (j * n)).bind λv=>(eqF P d e).run u v)=some b at hj;cases h1:zc P e xs (j * n) with
     |none=>simp[h1] at hj
     |some ux=>
      cases h2:zc P e ys (j * n) with
      |none=>simp[h1,h2] at hj
      |some uy=>
       simp only[h1,h2,QaK] at hj;obtain⟨px,hpx,hvx⟩:=XI (w:=w) hax h1;obtain⟨py,hpy,hvy⟩:=XI (w:=w) hay h2;exact⟨px,py,hpx,hpy,KO d e ux uy px py b hvx hvy hj D hD'⟩)
    simp only[Op.equalIn,Sem.run_bind,run_underlying hu,Result.andThen_ok,j6 hi,hsi];rw[<-key];simp only[Std.Legacy.Range.forIn_eq_forIn_range',Std.Legacy.Range.size,Sem.run_bind];simp
   ·cases h
  ·cases h
end
section
variable {P:Program} {ι:Inj} {w:World} {st:St} {t:TypeId}
variable {ρ:Operand->Value} {op:Operand->OF} {env:Env} {o:Oper}
theorem qN {α:Type}{x:Option α}{f:α->ER}{res:Result Next}(h:∀ a,x=some a->Res ι w st (f a) res):Res ι w st (jQ x f) res:=by
 cases x with
 |none=>trivial
 |some a=>exact h a rfl
theorem jbu {t:TypeId}{x y:Operand}(ho:o.op=.index t x y)(k:Sim ι st.h st.nx w)(hx:VR ι ((op x).run env) (ρ x))(hy:VR ι ((op y).run env) (ρ y)) :
  Res ι w st ((jo P op (.index t x y)).run env st) ((execOp ρ o).run P w):=by
 simp only[jo,Zj];split<;>try trivial
 ·rename_i n e hu;split<;>try trivial
  rename_i s hs;obtain⟨i,hi,hsi⟩:=y7 hs;try dsimp only
  generalize (op x).run env=vx at hx;cases vx<;>try trivial
  rename_i cs;simp only[VR] at hx;obtain⟨a,hpx,hv⟩:=hx;simp only[JE];refine zj hy λkk j hj=>jJ λhle=>qN λu hp=>?_;rw[qe] at hle;obtain⟨z,hz,hvz⟩:=XI (w:=w) hv hp;refine Res.val k (x:=z) ?_ hvz;have h1:(0:Int)<=Qaq j/\Qaq j<(n:Int):=⟨QbA j,by show(j:Int)<n;omega⟩;have hz':(part e a (j * s)).run P w=.ok z w:=hz;simp only[execOp,ho,Instr.index,hj,asIntOf,Sem.run_bind,Sem.run_pure,Result.andThen_ok,run_underlying hu,hpx];rw[if_pos h1];simp[j6 hi,hsi,hz']
 ·rename_i hu;try dsimp only
  generalize (op x).run env=vx at hx;cases vx<;>try trivial
  rename_i s;simp only[VR] at hx;obtain⟨bs,hpx,hbs⟩:=hx;simp only[zp];refine zj hy λkk j hj=>jJ λhle=>?_;rw[qe,jO] at hle;have hsz:=J0 hbs;have hj':j<bs.size:=om
  refine Res.val k (x:=.int .u8 (bs[j]'hj').toNat) ?_ ?_
  ·simp only[execOp,ho,Sem.run_bind,hj,hpx];rw[run_index_string w t bs kk _ hu,dif_pos ⟨QbA j,by show(j:Int)<bs.size;omega⟩];simp
  ·simp only[VR,zk,<-hbs]
   congr 1
   show((bs[j]'hj').toNat:Int)=((List.map UInt8.toNat bs.data.toList).getD j 0:Nat);have:j<bs.data.toList.length:=by rw[Qai];exact hj'
   simp only[Qac,Qbv,Qaj this,Qat,QaJ];rfl
theorem jdz {b:UnOp}{t:TypeId}{x:Operand}(ho:o.op=.unOp b t x)(k:Sim ι st.h st.nx w)(hx:VR ι ((op x).run env) (ρ x)) :
  Res ι w st ((jo P op (.unOp b t x)).run env st) ((execOp ρ o).run P w):=by
 simp only[jo,XW];cases b<;>simp only<;>try trivial
 all_goals
  generalize (op x).run env=vx at hx;cases vx<;>try trivial
 ·rename_i kk n;simp only[VR] at hx;refine Res.val k (x:=.int kk (kk.wrap (0 - n))) ?_ rfl;simp[execOp,ho,hx,Op.unary,Op.intArith]
 ·rename_i kk n;simp only[VR] at hx;refine qN λm hm=>?_;refine Res.val k (x:=.int kk m) ?_ rfl;simp[execOp,ho,hx,Op.unary,jdS hm]
 ·rename_i bb;simp only[VR] at hx;refine Res.val k (x:=.bool (!bb)) ?_ (by cases bb<;>rfl);simp[execOp,ho,hx,Op.unary]
def Zc:Value->Bool
 |.int _ _=>false
 |.float _ _=>false
 |.complex _ _ _=>false
 |.string _=>false
 |_=>true
theorem jai {u:Value}(hu:Zc u=true)(t:TypeId)(v:Value):(Go.binOp .eql t u v).run P w=((Op.equal t u v).run P w).andThen λb w'=>.ok (.bool b) w':=by
 cases u<;>simp only[Zc] at hu<;>try(cases hu;done)
 all_goals
  simp only[binOp];simp
theorem HY {u:Value}(hu:Zc u=true)(t:TypeId)(v:Value):(Go.binOp .neq t u v).run P w=((Op.equal t u v).run P w).andThen λb w'=>.ok (.bool (!b)) w':=by
 cases u<;>simp only[Zc] at hu<;>try(cases hu;done)
 all_goals
  simp only[binOp];simp
theorem Ho {b:BinOp}{t:TypeId}{x y:Operand}{u v:Value}(hg:P.eqGuardType P.depth t=false)(hn:¬ (u=.nilIface/\v=.nilIface)):(eqGuard b t x y u v).run P w=.ok () w:=by
 by_cases ha:∃ a,u=.agg a
 ·obtain⟨a,rfl⟩:=ha;by_cases hb:∃ c,v=.agg c
  ·obtain⟨c,rfl⟩:=hb;exact run_eqGuard_agg w b t x y a c hg
  ·cases b<;>cases v<;>first|(exact absurd ⟨_,rfl⟩ hb)|(simp[eqGuard])
 ·cases b<;>cases u<;>first|(exact absurd ⟨_,rfl⟩ ha)|(simp[eqGuard];done)|(cases v<;>first|(exact absurd ⟨rfl,rfl⟩ hn)|(simp[eqGuard];done))
theorem QJ {b:BinOp}{t:TypeId}{x y:Operand}{u v:Value}(ha:∀ a,u≠.agg a)(hn:u≠.nilIface):(eqGuard b t x y u v).run P w=.ok () w:=by
 cases b<;>cases u<;>first|(exact absurd rfl (ha _))|(exact absurd rfl hn)|(simp[eqGuard];done)
theorem jkH (hu:∃ m,P.underlying t=some (.interface m)):(Op.equal t .nilIface .nilIface).run P w=.ok true w:=by
 obtain⟨m,hu⟩:=hu;have:∀ d,(Op.equalIn (d+1) t .nilIface .nilIface).run P w=.ok true w:=λd=>by simp[Op.equalIn,run_underlying hu]
 exact this 9999
theorem jkI (hu:∃ m,P.underlying t=some (.interface m))(a:TypeId)(v:Value):(Op.equal t .nilIface (.iface a v)).run P w=.ok false w:=by
 obtain⟨m,hu⟩:=hu;have:∀ d,(Op.equalIn (d+1) t .nilIface (.iface a v)).run P w=.ok false w:=λd=>by simp[Op.equalIn,run_underlying hu]
 exact this 9999
theorem jkJ (hu:∃ m,P.underlying t=some (.interface m))(a:TypeId)(v:Value):(Op.equal t (.iface a v) .nilIface).run P w=.ok false w:=by
 obtain⟨m,hu⟩:=hu;have:∀ d,(Op.equalIn (d+1) t (.iface a v) .nilIface).run P w=.ok false w:=λd=>by simp[Op.equalIn,run_underlying hu]
 exact this 9999
def GB:AV->Bool
 |.bool _=>true
 |.nilp=>true
 |.ptr _ _=>true
 |.nils=>true
 |.slice _ _ _ _ _ _=>true
 |.nilm=>true
 |.map _=>true
 |.nilf=>true
 |.fn _ _=>true
 |.agg _=>true
 |.lst _ _=>true
 |_=>false
theorem jdF {x:AV}{u:Value}(h:GB x=true)(hx:VR ι x u):Zc u=true/\u≠.nilIface:=by
 cases x<;>simp only[GB] at h<;>try(cases h;done)
 all_goals simp only[VR] at hx
 all_goals first
  |(subst hx;exact⟨rfl,by simp⟩)
  |(obtain⟨_,_,a,C,rfl,_⟩:=hx;exact⟨rfl,by simp⟩)
  |(obtain⟨p,C,rfl,_⟩:=hx;exact⟨rfl,by simp⟩)
  |(obtain⟨_,a,rfl,_⟩:=hx;exact⟨rfl,by simp⟩)
  |(obtain⟨a,rfl,_⟩:=hx;exact⟨rfl,by simp⟩)
theorem jbz {d:Nat}{t:TypeId}{x y:AV}{q:Bool}(hni:∀ m,P.underlying t≠some (.interface m))(hint:∀ k,P.underlying t≠some (.int k))(hstr:P.underlying t≠some .string)
  (h:(eqF P d t).run x y=some q):GB x=true:=by
 cases d with
 |zero=>simp[eqF,NOQ] at h
 |succ d=>
  simp only[eqF] at h;split at h
  case h_2 hu=>exact absurd hu (hint _)
  case h_3 hu=>exact absurd hu hstr
  case h_8 hu=>exact absurd hu (hni _)
  case h_9 fields hu=>
   generalize hg : (P.stoodInHeld t || fields.toList.any λf => f.name == "_") = g at h
   cases g
   ·simp only[cond] at h;split at h<;>first|rfl|(cases h;done)
   ·cases h
  case h_10=>
   split at h
   ·simp only at h;split at h<;>first|rfl|(cases h;done)
   ·cases h
  all_goals
   first
   |(cases h;done)
   |(simp only at h;split at h<;>first|rfl|(cases h;done))
theorem jbx {b:BinOp}{t:TypeId}{x y:Operand}{s:TypeId}(ho:o.op=.binOp b t x y s)(k:Sim ι st.h st.nx w)(hx:VR ι ((op x).run env) (ρ x))(hy:VR ι ((op y).run env) (ρ y)) :
  Res ι w st ((jo P op (.binOp b t x y s)).run env st) ((execOp ρ o).run P w):=by
 have hexec:(execOp ρ o).run P w=((eqGuard b t x y (ρ x) (ρ y)).run P w).andThen λ_ w'=>((Go.binOp b t (ρ x) (ρ y)).run P w').andThen λv w'=>.ok (.value v) w':=by
  simp only[execOp,ho,Sem.run_bind];cases (eqGuard b t x y (ρ x) (ρ y)).run P w<;>simp[Result.andThen]
 rw[hexec];simp only[jo,Jv];split
 ·rename_i hu;generalize hvx:(op x).run env=vx at hx;generalize hvy:(op y).run env=vy at hy;have key:∀ q,uO (Region.isConst x ||Region.isConst y) vx vy=some q->(eqGuard b t x y (ρ x) (ρ y)).run P w=.ok () w/\Zc (ρ x)=true/\(Op.equal t (ρ x) (ρ y)).run P w=.ok q w:=by
   intro q hq;unfold uO at hq;split at hq
   ·simp only[VR] at hx hy;generalize hc:(Region.isConst x ||Region.isConst y)=c at hq;cases c
    ·cases hq
    ·simp only[cond,Option.some.injEq] at hq;subst hq;rw[hx,hy];refine⟨?_,rfl,jkH ⟨_,hu⟩⟩;rw[QaE] at hc;cases b<;>simp[eqGuard];all_goals
      rcases hc with hc|hc
      ·cases x<;>simp[Region.isConst] at hc;simp
      ·cases y<;>simp[Region.isConst] at hc;simp
   ·simp only[VR] at hx hy;obtain⟨a,hya,_⟩:=hy;cases hq;rw[hx,hya];exact⟨by cases b<;>simp[eqGuard],rfl,jkI ⟨_,hu⟩ _ _⟩
   ·simp only[VR] at hx hy;obtain⟨a,hxa,_⟩:=hx;cases hq;rw[hy,hxa];exact⟨by cases b<;>simp[eqGuard],rfl,jkJ ⟨_,hu⟩ _ _⟩
   ·cases hq
  cases b<;>simp only[hvx,hvy]<;>try trivial
  ·refine qN λq hq=>?_;obtain⟨h1,h2,h3⟩:=key q hq;exact Res.val k (x:=.bool q) (by simp[h1,jai h2,h3]) rfl
  ·refine qN λq hq=>?_;obtain⟨h1,h2,h3⟩:=key q hq;exact Res.val k (x:=.bool (!q)) (by simp[h1,HY h2,h3]) (by cases q<;>rfl)
 ·rename_i hu;split
  ·try dsimp only
   generalize (op x).run env=vx at hx;generalize (op y).run env=vy at hy;cases vx<;>try trivial
   cases vy<;>try trivial
   rename_i kx nx ky ny;refine qN λv hv=>?_;simp only[VR] at hx hy;rw[hx,hy];obtain⟨z,h1,h2⟩:=gE (P:=P) (w:=w) (yk:=ky) (.inl rfl) hv t;exact Res.val k (x:=z) (by rw[QJ (by simp) (by simp)];simp[h1]) h2
  ·try dsimp only
   generalize (op x).run env=vx at hx;generalize (op y).run env=vy at hy;cases vx<;>try trivial
   cases vy<;>try trivial
   rename_i kx nx ky ny;refine qN λv hv=>?_;simp only[VR] at hx hy;rw[hx,hy];obtain⟨z,h1,h2⟩:=gE (P:=P) (w:=w) (yk:=ky) (.inr rfl) hv t;exact Res.val k (x:=z) (by rw[QJ (by simp) (by simp)];simp[h1]) h2
  ·rename_i b hs hs';try dsimp only
   generalize (op x).run env=vx at hx;generalize (op y).run env=vy at hy;cases vx<;>try trivial
   cases vy<;>try trivial
   refine jJ λhk=>qN λv hv=>?_;have:=Zn hk;subst this;simp only[VR] at hx hy;rw[hx,hy];obtain⟨z,h1,h2⟩:=jfH (P:=P) (w:=w) (λe=>hs e) (λe=>hs' e) hv t;exact Res.val k (x:=z) (by rw[QJ (by simp) (by simp)];simp[h1]) h2
 ·rename_i hu;try dsimp only
  generalize (op x).run env=vx at hx;generalize (op y).run env=vy at hy;cases vx<;>try trivial
  cases vy<;>try trivial
  refine qN λv hv=>?_;simp only[VR] at hx hy;obtain⟨bx,hpx,hbx⟩:=hx;obtain⟨by',hpy,hby⟩:=hy;rw[hpx,hpy];obtain⟨z,h1,h2⟩:=jcz (P:=P) (w:=w) hbx hby hv t;exact Res.val k (x:=z) (by rw[QJ (by simp) (by simp)];simp[h1]) h2
 ·rename_i hni hint hstr;generalize hg:P.eqGuardType P.depth t=g;cases g
  ·simp only[cond];generalize hvx:(op x).run env=vx at hx;generalize hvy:(op y).run env=vy at hy;have key:∀ q,(eqF P 20 t).run vx vy=some q->(eqGuard b t x y (ρ x) (ρ y)).run P w=.ok () w/\Zc (ρ x)=true/\(Op.equal t (ρ x) (ρ y)).run P w=.ok q w:=by
    intro q hq;have he:=KO (w:=w) 20 t vx vy (ρ x) (ρ y) q hx hy hq 10000 om;have hsh:=jdF (jbz (λm e=>hni m e) (λm e=>hint m e) hstr hq) hx;exact⟨Ho hg (λe=>hsh.2 e.1),hsh.1,he⟩
   cases b<;>simp only[hvx,hvy]<;>try trivial
   ·refine qN λq hq=>?_;obtain⟨h1,h2,h3⟩:=key q hq;exact Res.val k (x:=.bool q) (by simp[h1,jai h2,h3]) rfl
   ·refine qN λq hq=>?_;obtain⟨h1,h2,h3⟩:=key q hq;exact Res.val k (x:=.bool (!q)) (by simp[h1,HY h2,h3]) (by cases q<;>rfl)
  ·trivial
end
section
variable {P:Program} {ι:Inj} {w:World} {st:St}
variable {ρ:Operand->Value} {op:Operand->OF} {env:Env} {o:Oper}
theorem gZ {ι:Inj}{cs:List AV}{vs:List Value}{o a b:Nat}(e3:o+cs.length<=vs.length)(hab:a+b<=cs.length)(e4:VRs ι.gone cs ((vs.drop o).take cs.length)) :
  (o+a)+((cs.drop a).take b).length<=vs.length/\VRs ι.gone ((cs.drop a).take b) ((vs.drop (o+a)).take ((cs.drop a).take b).length):=by
 have e7:((cs.drop a).take b).length=b:=by simp only[Qav,Qan];omega
 rw[e7];refine⟨om,?_⟩;have:=(e4.drop a).take b;rw[Qbz,QaX,Qbs,Qbd om] at this;exact this
theorem uU {t e:TypeId}(h:elemOf P t=some e):P.underlying t=some (.slice e):=by
 unfold elemOf at h;split at h
 ·rename_i hu;cases h;exact hu
 ·cases h
theorem Jw (ι:Inj)(b B S len C sz:Nat)(cap:Nat)(ex:Bool)(hl:len<=cap)(hc:cap<=C)(he:ex=true->C=cap)(hS:ex=false->C * sz<=S) :
  VR (ι.add b B S) (.slice b 0 len cap sz ex) (.slice (some ⟨B,0,none⟩) len C):=by
 simp only[VR];refine⟨by rw[QS];simp,hl,_,C,rfl,hc,he,λB' S' e=>?_⟩;rw[QS] at e;cases e;exact⟨.inr rfl,λh=>by have:=hS h;omega⟩
theorem jbY {z:List AV}(hz:0<z.length)(i:Nat):qv z.length z .e i=z.getD (i % z.length) .bad:=by
 rw[yY,QH];rfl
theorem jhY {z:List AV}{vs:Array Value}(h:VRs ι z vs.toList)(hc:z.all AV.cell=true)(n:Nat)(elem:TypeId)(hz:0<n->0<z.length) :
  OR ι n (.row n z.length z .e) (.cells (madeCells vs n) elem (0,0)):=by
 simp only[OR];have hl:=h.length;rw[Qai] at hl;refine⟨_,elem,0,0,rfl,size_madeCells _ _,φ _,om,λi hi=>?_⟩;have hz':=hz om;rw[jbY hz'];have hm:i % z.length<z.length:=Nat.mod_lt _ hz';refine⟨?_,vs.getD (i % z.length) undef,?_,?_⟩
 ·simp only[Qac,Qaj hm,QaJ];exact Qah.1 hc _ (Qam hm)
 ·have hm':i % vs.size<vs.size:=by rw[hl];exact hm
  simp only[madeCells];rw[Array.getElem?_map,Array.getElem?_range];rw[<-hl];simp[hi,hm',Array.getD,getElem!_pos]
 ·have:=h.get (i % z.length) hm;have hm':i % z.length<vs.size:=by rw[hl];exact hm
  simpa[Qac,Array.getD,hm'] using this
theorem UH {t:TypeId}{x y:Operand}(ho:o.op=.makeSlice t x y)(k:Sim ι st.h st.nx w)(hx:VR ι ((op x).run env) (ρ x))(hy:VR ι ((op y).run env) (ρ y)) :
  Res ι w st ((jo P op (.makeSlice t x y)).run env st) ((execOp ρ o).run P w):=by
 simp only[jo,Yy];split<;>try trivial
 rename_i e he;have hu:=uU he;split<;>try trivial
 rename_i i z hi hz;obtain⟨i',zv,hi',hzv,hr⟩:=YN hz ι;rw[hi] at hi';cases hi';generalize hcc:cond (lall AV.cell z) (Qcb (jM z) i.size) false=cc;cases cc<;>try trivial
 have hcell:z.all AV.cell=true/\z.length=i.size:=by
  cases hh:lall AV.cell z
  ·rw[hh] at hcc;cases hcc
  ·rw[hh] at hcc;simp only[cond] at hcc;rw[qD,jO] at hcc;rw[Jn] at hh;exact⟨hh,hcc⟩
 show Res ι w st (qt ((op x).run env) λl=>_) _;refine zj hx λkl l hl=>zj hy λkc c hc=>jJ λh1=>jJ λh2=>jJ λh3=>?_;rw[qe] at h1 h2 h3;rw[jB,St.alloc_eq];have le:=Le.add (ι:=ι) k.born w.heap.size (c * i.size);refine Res.alloc k (S:=c * i.size) (x:=.cells (madeCells zv.cells (c * i.size)) e) ?_ (Jw ι _ _ _ l c i.size c true h1 (φ _) (λ_=>rfl) (λh=>by cases h)) ?_
 ·have h4:=jhY (VRs.mono le _ _ hr) hcell.1 (c * i.size) e (λh0=>by
   rw[hcell.2];rcases Nat.eq_zero_or_pos i.size with h5|h5
   ·rw[h5] at h0;simp at h0
   ·exact h5)
  rw[hcell.2] at h4;exact h4
 ·have h2':(i.bytes:Int) * (c:Int)<=281474976710656:=by
   have h4:i.bytes * c<=140737488355328:=h2;have h5:((i.bytes * c:Nat):Int)<=140737488355328:=Int.ofNat_le.2 h4;rw[Int.natCast_mul] at h5;omega
  have hrun:=run_make (P:=P) w t e i zv hu hi hzv kl kc (l:Int) (c:Int) (QbA l) (Int.ofNat_le.2 h1) h2' (Int.ofNat_le.2 h3);simp only[execOp,ho,Sem.run_bind,hl,hc];have e1:(Qaq l)=(l:Int):=rfl;have e2:(Qaq c)=(c:Int):=rfl;rw[e1,e2,hrun];simp
theorem yy {x:Option Operand}(hx:∀ a,x=some a->VR ι ((op a).run env) (ρ a)){d:Nat}{f:Nat->ER}{res:Result Next}
  (h:∀ n,(x=none/\n=d\/∃ a kk,x=some a/\ρ a=.int kk (Qaq n))->Res ι w st (f n) res):Res ι w st (optF (x.map op) d env f) res:=by
 cases x with
 |none=>exact h d (.inl ⟨rfl,rfl⟩)
 |some a=>
  show Res ι w st (qt ((op a).run env) f) res;exact zj (hx a rfl) λkk n hn=>h n (.inr ⟨a,kk,rfl,hn⟩)
theorem zi {x:Value}{n y:Nat}{kk:IntKind}(hx:x=.int kk (Qaq n))(h:n<=y)(code:BoundsCode):(Instr.sliceBound x y code).run P w=.ok n w:=by
 subst hx;have h1:(0:Int)<=Qaq n/\Qaq n<=(y:Int):=⟨QbA n,by show(n:Int)<=y;omega⟩;simp only[Instr.sliceBound,asIntOf,Sem.run_bind,Sem.run_pure,Result.andThen_ok];rw[if_pos h1];simp
def bnd (ρ:Operand->Value)(x:Option Operand)(d n:Nat):Prop:=x=none/\n=d\/∃ a kk,x=some a/\ρ a=.int kk (Qaq n)
theorem Qv {lo hi:Option Operand}{s:Bool}{len cap l h:Nat}(hl:bnd ρ lo 0 l)(hh:bnd ρ hi len h)(h1:l<=h)(h2:h<=cap) :
  (Instr.sliceBounds s len cap (lo.map ρ) (hi.map ρ) none).run P w=.ok (l,h,cap) w:=by
 rcases hl with ⟨rfl,rfl⟩|⟨a,ka,rfl,ha⟩<;>rcases hh with ⟨rfl,rfl⟩|⟨b,kb,rfl,hb⟩
 all_goals simp only[Instr.sliceBounds,QaS,Qat,Sem.run_bind,Sem.run_pure,Result.andThen_ok]
 ·rw[zi hb h2];simp
 ·rw[zi ha h1];simp
 ·rw[zi hb h2];simp only[Result.andThen_ok];rw[zi ha h1];simp
theorem Wc {lo hi:Option Operand}{m:Operand}{s:Bool}{len cap l h n:Nat}{km:IntKind}(hl:bnd ρ lo 0 l)(hh:∃ a kk,hi=some a/\ρ a=.int kk (Qaq h))(hm:ρ m=.int km (Qaq n))(h1:l<=h)(h2:h<=n)(h3:n<=cap) :
  (Instr.sliceBounds s len cap (lo.map ρ) (hi.map ρ) (some (ρ m))).run P w=.ok (l,h,n) w:=by
 obtain⟨b,kb,rfl,hb⟩:=hh;rcases hl with ⟨rfl,rfl⟩|⟨a,ka,rfl,ha⟩
 all_goals
  simp only[Instr.sliceBounds,QaS,Qat,Sem.run_bind,Sem.run_pure,Result.andThen_ok];rw[zi hm h3];simp only[Result.andThen_ok];rw[zi hb h2];simp only[Result.andThen_ok]
 rw[zi ha h1];simp
theorem Zp {z:List AV}(h:z.all AV.cell=true){i:Nat}(hi:i<z.length):(z.getD i .bad).cell=true:=by
 simp only[Qac,Qaj hi,QaJ];exact Qah.1 h _ (Qam hi)
theorem vu {bs:ByteArray}{s:List Nat}(h:bs.data.toList.map UInt8.toNat=s)(l n:Nat):(bs.extract l n).data.toList.map UInt8.toNat=(s.drop l).take (n - l):=by
 rw[<-h,ByteArray.data_extract,Array.toList_extract,List.extract_eq_take_drop,List.map_take,List.map_drop]
theorem jbr {t:TypeId}{x:Operand}{lo hi mx:Option Operand}(ho:o.op=.slice t x lo hi mx)(k:Sim ι st.h st.nx w)(hx:VR ι ((op x).run env) (ρ x))
  (hlo:∀ a,lo=some a->VR ι ((op a).run env) (ρ a)) (hhi:∀ a,hi=some a->VR ι ((op a).run env) (ρ a)) (hmx:∀ a,mx=some a->VR ι ((op a).run env) (ρ a)) :
  Res ι w st ((jo P op (.slice t x lo hi mx)).run env st) ((execOp ρ o).run P w):=by
 have hexec:(execOp ρ o).run P w=((Instr.sliceAt t (ρ x) (lo.map ρ) (hi.map ρ) (mx.map ρ)).run P w).andThen λv w'=>.ok (.value v) w':=by
  simp only[execOp,ho,Sem.run_bind];cases (Instr.sliceAt t (ρ x) (lo.map ρ) (hi.map ρ) (mx.map ρ)).run P w<;>simp[Result.andThen]
 rw[hexec];simp only[jo,J1];split<;>try trivial
 ·rename_i hu;cases mx with
  |some _=>trivial
  |none=>
   simp only[QaS];generalize hvx:(op x).run env=vx at hx;cases vx<;>try trivial
   rename_i s;simp only[VR] at hx;obtain⟨bs,hpx,hbs⟩:=hx;simp only[zp,jB];refine yy hlo λl hl=>yy hhi λh hh=>jJ λh1=>jJ λh2=>?_;rw[qe] at h1 h2;rw[jO] at h2 hh;have hsz:=J0 hbs;refine Res.val k (x:=.string (bs.extract l h)) ?_ ?_
   ·have hb:=Qv (P:=P) (w:=w) (s:=false) (len:=bs.size) (cap:=bs.size) hl (by rw[hsz];exact hh) h1 om;simp only[Instr.sliceAt,Instr.slice,Sem.run_bind,run_underlying hu,Result.andThen_ok,hpx];simp[hb]
   ·simp only[VR,q8,y4];exact⟨_,rfl,vu hbs l h⟩
 ·rename_i e hu;split<;>try trivial
  rename_i sz hs;obtain⟨i,hi',hsi⟩:=y7 hs;cases mx with
  |none=>
   simp only[QaS];generalize hvx:(op x).run env=vx at hx;cases vx<;>try trivial
   rotate_right
   ·rename_i n cs;simp only[VR] at hx;obtain⟨p,C,hpx,hC,e0,hn⟩:=hx;refine yy hlo λl hl=>yy hhi λh hh=>jJ λh1=>jJ λh2=>jJ λh3=>?_;rw[qe] at h1 h2 h3;rw[jO] at h3;have h3':h * sz<=cs.length:=h3;have hbn:=Qv (P:=P) (w:=w) (s:=true) (len:=n) (cap:=C) hl hh h1 om;refine Res.val k (x:=.slice (if C=l then p else p.map λa=>a.add (l * sz)) (h - l) (C - l)) ?_ ?_
    ·simp only[Instr.sliceAt,Instr.slice,Sem.run_bind,run_underlying hu,Result.andThen_ok,hpx];cases p with
     |none=>simp[hbn,j6 hi',hsi]
     |some ad=>
      by_cases hCl:C=l
      ·subst hCl;simp[hbn,j6 hi',hsi]
      ·simp[hbn,j6 hi',hsi,hCl]
    ·simp only[VR,q8,y4];refine⟨_,_,rfl,by show h - l<=C - l;omega,vq (G5 e0 _) _,λh0=>?_⟩;have h0':0<h - l:=h0;clear h0;obtain⟨B,o,vs,rfl,e2,e3,e4⟩:=hn (Qas h0' (ω (Nat.sub_le _ _) (by assumption)));clear hn;have h6:l * sz+(h - l) * sz=h * sz:=by rw[<-QaC];congr 1;omega
     have h8:=gZ e3 (a:=l * sz) (b:=(h - l) * sz) om e4;exact⟨B,o+l * sz,vs,by rw[if_neg om];simp[yC],e2,h8.1,h8.2⟩
   ·rename_i b off len cap sz' ex;simp only[VR] at hx;obtain⟨hb,hlc,ad,C,hpx,hC,hex,had⟩:=hx;simp only[jB];refine yy hlo λl hl=>yy hhi λh hh=>jJ λh0=>jJ λh1=>jJ λh2=>?_;rw[qe] at h1 h2;rw[qD] at h0;subst h0;refine Res.val k (x:=.slice (if C=l then some ad else some (ad.add (l * sz'))) (h - l) (C - l)) ?_ ?_
    ·have hbn:=Qv (P:=P) (w:=w) (s:=true) (len:=len) (cap:=C) hl hh h1 om;simp only[Instr.sliceAt,Instr.slice,Sem.run_bind,run_underlying hu,Result.andThen_ok,hpx];simp[hbn,j6 hi',hsi]
    ·simp only[VR];refine⟨hb,by show h - l<=cap - l;omega,if C=l then ad else ad.add (l * sz'),C - l,?_,by show cap - l<=C - l;omega,?_,?_⟩
     ·by_cases hCl:C=l<;>simp[hCl]
     ·intro he;have:=hex he;show C - l=cap - l;omega
     ·intro B S eB;obtain⟨h3,h4⟩:=had B S eB;constructor
      ·by_cases hCl:C=l
       ·left;omega
       ·right;rcases h3 with h3|h3
        ·omega
        ·rw[if_neg hCl,h3,yC];rfl
      ·intro he;have h5:=h4 he;have h6:l+(C - l)=C:=om
       have h7:l * sz'+(C - l) * sz'=C * sz':=by rw[<-QaC,h6]
       show off+l * sz'+(C - l) * sz'<=S;omega
   ·simp only[VR] at hx;refine yy hlo λl hl=>yy hhi λh hh=>jJ λh1=>jJ λh2=>?_;rw[qD] at h1 h2;subst h1;subst h2;refine Res.val k (x:=.slice none 0 0) ?_ (by simp only[VR]);have hbn:=Qv (P:=P) (w:=w) (s:=true) (len:=0) (cap:=0) hl hh (φ _) (φ _);simp only[Instr.sliceAt,Instr.slice,Sem.run_bind,run_underlying hu,Result.andThen_ok,hx];simp[hbn,j6 hi',hsi]
  |some m=>
   simp only[Qat];cases hi with
   |none=>trivial
   |some hi=>
    simp only[Qat];generalize hvx:(op x).run env=vx at hx;cases vx<;>try trivial
    rotate_left
    ·rename_i n cs;simp only[VR] at hx;obtain⟨p,C,hpx,hC,e0,hn⟩:=hx;refine yy hlo λl hl=>zj (hhi hi rfl) λkh h hh=>zj (hmx m rfl) λkm n' hm=>jJ λh1=>jJ λh2=>jJ λh3=>jJ λh4=>?_;rw[qe] at h1 h3 h4;rw[qD] at h2;subst h2;rw[jO] at h4;have h4':h * sz<=cs.length:=h4;have hbn:=Wc (P:=P) (w:=w) (s:=true) (len:=n) (cap:=C) (hi:=some hi) hl ⟨hi,kh,rfl,hh⟩ hm h1 (φ _) om;simp only[Qat] at hbn;refine Res.val k (x:=.slice (if h=l then p else p.map λa=>a.add (l * sz)) (h - l) (h - l)) ?_ ?_
     ·simp only[Instr.sliceAt,Instr.slice,Sem.run_bind,run_underlying hu,Result.andThen_ok,hpx,Qat];cases p with
      |none=>simp[hbn,j6 hi',hsi]
      |some ad=>
       by_cases hCl:h=l
       ·subst hCl;simp[hbn,j6 hi',hsi]
       ·simp[hbn,j6 hi',hsi,hCl]
     ·simp only[VR,q8,y4];refine⟨_,rfl,vq (G5 e0 _) _,λh0=>?_⟩;have h0':0<h - l:=h0;clear h0;obtain⟨B,o,vs,rfl,e2,e3,e4⟩:=hn (Qas h0' (ω (Nat.sub_le _ _) (by assumption)));clear hn;have h6:l * sz+(h - l) * sz=h * sz:=by rw[<-QaC];congr 1;omega
      have h8:=gZ e3 (a:=l * sz) (b:=(h - l) * sz) om e4;exact⟨B,o+l * sz,vs,by rw[if_neg om];simp[yC],e2,h8.1,h8.2⟩
    rename_i b off len cap sz' ex;simp only[VR] at hx;obtain⟨hb,hlc,ad,C,hpx,hC,hex,had⟩:=hx;simp only[jB];refine yy hlo λl hl=>zj (hhi hi rfl) λkh h hh=>zj (hmx m rfl) λkm n hm=>jJ λh1=>jJ λh2=>jJ λh3=>?_;rw[qe] at h1 h2 h3;refine Res.val k (x:=.slice (if n=l then some ad else some (ad.add (l * sz))) (h - l) (n - l)) ?_ ?_
    ·have hbn:=Wc (P:=P) (w:=w) (s:=true) (len:=len) (cap:=C) (hi:=some hi) hl ⟨hi,kh,rfl,hh⟩ hm h1 h2 om;simp only[Qat] at hbn;simp only[Instr.sliceAt,Instr.slice,Sem.run_bind,run_underlying hu,Result.andThen_ok,hpx,Qat];simp[hbn,j6 hi',hsi]
    ·simp only[VR];refine⟨hb,by show h - l<=n - l;omega,if n=l then ad else ad.add (l * sz),n - l,?_,φ _,λ_=>rfl,?_⟩
     ·by_cases hCl:n=l<;>simp[hCl]
     ·intro B S eB;obtain⟨h5,h4⟩:=had B S eB;refine⟨?_,λhe=>by cases he⟩;by_cases hCl:n=l
      ·left;omega
      ·right;rcases h5 with h5|h5
       ·omega
       ·rw[if_neg hCl,h5,yC];rfl
 ·rename_i n e hu;split<;>try trivial
  rename_i sz hs;obtain⟨i,hi',hsi⟩:=y7 hs;cases mx with
  |some _=>trivial
  |none=>
   simp only[QaS];generalize hvx:(op x).run env=vx at hx;cases vx<;>try trivial
   rename_i b off;simp only[VR] at hx;obtain⟨hb,ad,hpx,had⟩:=hx;simp only[qU,jB];refine yy hlo λl hl=>yy hhi λh hh=>jJ λh1=>jJ λh2=>?_;rw[qe] at h1 h2;refine Res.val k (x:=.slice (some (if n=l then ad else ad.add (l * sz))) (h - l) (n - l)) ?_ ?_
   ·have hbn:=Qv (P:=P) (w:=w) (s:=false) (len:=n) (cap:=n) hl hh h1 h2;simp only[Instr.sliceAt,Sem.run_bind,run_underlying hu,Result.andThen_ok,hpx,Instr.sureAddr];simp[hbn,j6 hi',hsi]
   ·simp only[VR];refine⟨hb,by show h - l<=n - l;omega,_,n - l,rfl,φ _,λ_=>rfl,?_⟩;intro B S eB;refine⟨?_,λhe=>by cases he⟩;by_cases hCl:n=l
    ·left;omega
    ·right;rw[if_neg hCl,had B S eB,yC];rfl
end
section
variable {P:Program} {ι:Inj} {w:World} {st:St}
variable {ρ:Operand->Value} {op:Operand->OF} {env:Env} {o:Oper}
theorem G4 (w:World)(c:Array Value)(e:TypeId)(n:Nat):(w.alloc (.cells c e)).freeze ⟨w.heap.size,n,none⟩ 1=w.alloc (.cells c e (n,n+1)):=by
 have h:(w.heap.push (.cells c e (0,0))).modify w.heap.size (fun
   |.cells c elem (lo,hi)=>.cells c elem (if lo == hi then(n,n+1) else(min lo n,max hi (n+1)))
   |o=>o)=w.heap.push (.cells c e (n,n+1)):=by
  apply Array.ext_getElem?;intro i;simp only[Array.getElem?_modify,Array.getElem?_push];by_cases hi:w.heap.size=i
  ·subst hi;simp
  ·have hi':¬ i=w.heap.size:=λe=>hi e.symm;simp[hi,hi']
 simp only[World.freeze,World.alloc];simp only[if_neg (show ¬ (1=0) by omega)]
 congr 1
theorem kS:∀ (l:List AV) (vs:List Value) (s:List Nat),VRs ι l vs->Xk l=some s->vs=s.map (λ(n:Nat)=>Value.int .u8 (n:Int))/\(∀ n∈s,n<=255)
 |[],vs,s,h,hb=>by
  simp only[Xk,Option.some.injEq] at hb;simp only[VRs] at h;subst hb;subst h;simp
 |x :: l,vs,s,h,hb=>by
  unfold Xk at hb;split at hb
  ·rename_i heq;cases heq
  ·rename_i n l' heq;cases heq;simp only[VRs] at h;obtain⟨v,us,rfl,h1,h2⟩:=h;generalize hq:Qcd n 255=q at hb;cases q
   ·cases hb
   ·simp only[cond,Qbu] at hb;obtain⟨r,hr,rfl⟩:=hb;obtain⟨h3,h4⟩:=kS l us r h2 hr;simp only[VR] at h1;rw[qe] at hq;subst h1;refine⟨by rw[h3];rfl,λm hm=>?_⟩;rcases QaF.1 hm with e|e
    ·omega
    ·exact h4 m e
  ·cases hb
theorem VA:∀ (s:List Nat) (r:ByteArray),(∀ n∈s,n<=255)->
  ((s.map (λ(n:Nat)=>(n:Int))).foldl (λr n=>r.push (UInt8.ofNat n.toNat)) r).data.toList.map UInt8.toNat=r.data.toList.map UInt8.toNat ++ s
 |[],r,_=>by simp
 |n :: s,r,h=>by
  simp only[ν,List.foldl_cons];rw[VA s _ (λm hm=>h m (by simp[hm]))];have hn:=h n (by simp);simp only[ByteArray.data_push,Array.toList_push,List.map_append,ν,ξ,QbL,List.append_assoc,Qay,QaG]
  congr 2
  simp;omega
theorem Hs (s:List Nat):VRs ι (s.map λ(n:Nat)=>AV.int .u8 (.ofNat n)) (s.map λ(n:Nat)=>Value.int .u8 (n:Int)):=VRs.map_of s λ_ _=>by simp only[VR];rfl
theorem ZI {b:Nat}{n zl:Nat}{z:List AV}{cs:T AV}{B S o len:Nat}(k:Sim ι st.h st.nx w)(hb:ι b≠.unborn)(hrow:jr st.h b=some (.row n zl z cs))(e:ι b=.at B S)(hle:o+len<=n) :
  ∃ vs:List Value,(loadCells ⟨B,o,none⟩ len).run P w=.ok vs.toArray w/\VRs ι (jN zl z cs len o) vs/\vs.length=len/\(∀ j u,vs[j]? = some u->w.cell? ((⟨B,o,none⟩:Addr).add j)=some u):=by
 obtain⟨B',S',c,elem,lo,hi,e',hw,hsz,hn,_,hcell⟩:=k.row hb hrow;rw[e] at e';cases e'
 let f:Nat->Value:=λj=>c.getD (o+j) undef
 have hf:∀ j,j<len->w.cell? ((⟨B,o,none⟩:Addr).add j)=some (f j):=λj hj=>by
  rw[yC,vi hw];obtain⟨_,v,hv,_⟩:=hcell (o+j) om;simp[f,hv]
 refine⟨(Qae len).map f,run_loadCells w _ len f hf,?_,by simp,?_⟩
 ·rw[qr];refine VRs.map_of _ λj hj=>?_;have hj':j<len:=by simpa using hj
  obtain⟨_,v,hv,hr⟩:=hcell (o+j) om;show VR ι _ (c.getD (o+j) undef);simpa[hv] using hr
 ·intro j u hu;simp only[Qbv,Qbu] at hu;obtain⟨a,ha,rfl⟩:=hu;have:j<len/\a=j:=by
   rw[List.getElem?_eq_some_iff] at ha;obtain⟨h1,h2⟩:=ha;simp at h1 h2;exact⟨h1,h2.symm⟩
  rw[this.2];exact hf j this.1
theorem JK {b:Nat}{n zl:Nat}{z:List AV}{cs:T AV}{o len:Nat}(k:Sim ι st.h st.nx w)(hb:ι b≠.unborn)(hrow:jr st.h b=some (.row n zl z cs))(hle:o+len<=n) :
  (jN zl z cs len o).all AV.cell=true/\(jN zl z cs len o).length=len:=by
 obtain⟨B',S',c,elem,lo,hi,e',hw,hsz,hn,_,hcell⟩:=k.row hb hrow;rw[qr];refine⟨?_,by simp⟩;rw[Qah];intro x hx;obtain⟨j,hj,rfl⟩:=List.mem_map.1 hx;have hj':j<len:=by simpa using hj
 exact(hcell (o+j) om).1
theorem ZY (s:List Nat)(bs:ByteArray)(h:bs.data.toList.map UInt8.toNat=s):(bs.data.map λ(b:UInt8)=>Value.int .u8 b.toNat).toList=s.map λ(n:Nat)=>Value.int .u8 (n:Int):=by
 rw[<-h];simp
theorem Xh (need old:Nat)(e:TypeId)(t:Nat):need<=(Question.appendCap need old e).cut t:=by simp[Question.cut]
theorem wO {x:Option AO}{f:Nat->Nat->List AV->T AV->ER}{res:Result Next}(h:∀ n zl z cs,x=some (.row n zl z cs)->Res ι w st (f n zl z cs) res):Res ι w st (yz x f) res:=by
 cases x with
 |none=>trivial
 |some ob=>
  cases ob<;>try trivial
  exact h _ _ _ _ rfl
theorem GA {s d:TypeId}{x:Operand}(ho:o.op=.convert s d x)(k:Sim ι st.h st.nx w)(hx:VR ι ((op x).run env) (ρ x)) :
  Res ι w st ((jo P op (.convert s d x)).run env st) ((execOp ρ o).run P w):=by
 have hexec:(execOp ρ o).run P w=((Go.convert s d (ρ x)).run P w).andThen λv w'=>.ok (.value v) w':=by
  simp only[execOp,ho,Sem.run_bind];cases (Go.convert s d (ρ x)).run P w<;>simp[Result.andThen]
 rw[hexec];simp only[jo,Jd];split<;>try trivial
 ·rename_i k1 k2 h1 h2;try dsimp only
  generalize (op x).run env=vx at hx;cases vx<;>try trivial
  rename_i kk n;simp only[VR] at hx;refine Res.val k (x:=.int k2 (k2.wrap n)) ?_ (by rw[Xq];rfl);simp[Go.convert,hx,run_underlying h1,run_underlying h2,Conv.intToInt]
 ·rename_i h1 h2;try dsimp only
  generalize (op x).run env=vx at hx;cases vx<;>try trivial
  rename_i cs;simp only[VR] at hx;obtain⟨bs,hpx,hbs⟩:=hx;refine Res.val k (x:=.string bs) ?_ (by simp only[VR];exact⟨bs,rfl,hbs⟩);simp[Go.convert,hpx,run_underlying h1,run_underlying h2]
 ·rename_i e h1 h2;split<;>try trivial
  rename_i he;try dsimp only
  generalize (op x).run env=vx at hx;cases vx<;>try trivial
  ·rename_i b off len cap sz ex;simp only[VR] at hx;obtain⟨hb,hlc,ad,C,hpx,hC,hex,had⟩:=hx;refine wO λm zl z cs hg=>jJ λhle=>?_;rw[qe] at hle;obtain⟨B,S,c,elem,lo,hi,e',hw,_⟩:=k.row hb hg;obtain⟨vs,hrun,hvs,hlen,hcells⟩:=ZI (P:=P) k hb hg e' hle;have main:∀ bsA,Xk (jN zl z cs len off)=some bsA->∃ bs:ByteArray,bs.data.toList.map UInt8.toNat=bsA /\
     ((Go.convert s d (ρ x)).run P w).andThen (λv w'=>.ok (Next.value v) w')=.ok (.value (.string bs)) w:=by
    intro bsA hbs;obtain⟨hv1,hv2⟩:=kS _ _ _ hvs hbs;have hrun':(loadCells ad len).run P w=.ok vs.toArray w:=by
     rcases (had B S e').1 with h0|h0
     ·have:len=0:=om
      subst this;rw[QaQ hlen];simp[loadCells,loadCellsFrom]
     ·rw[h0];exact hrun
    refine⟨(bsA.map (λ(n:Nat)=>(n:Int))).foldl (λr n=>r.push (UInt8.ofNat n.toNat)) ByteArray.empty,?_,?_⟩
    ·rw[VA _ _ hv2];simp
    ·rw[hpx,run_convert_bytes_string w s d e _ _ _ h1 he h2];rw[run_bytesToString w ad len C (bsA.map (λ(n:Nat)=>(n:Int)))]
     ·simp
     ·rw[hrun',hv1];simp[QaP,QbM]
   refine Qc (λ_=>qN λbsA hbs=>?_) (λ_=>?_)
   ·obtain⟨bs,q1,q2⟩:=main bsA hbs;exact Res.val k (x:=.string bs) q2 (by simp only[VR];exact⟨bs,rfl,q1⟩)
   ·split<;>try trivial
    refine jJ λhzl=>?_;rw[qD] at hzl;subst hzl;have hz:Xk (jN 1 [.int .u8 (.ofNat 0)] .e len off)=some (List.replicate len 0):=by
     rw[qr];have:∀ (l:List Nat),Xk (l.map λj=>qv 1 [.int .u8 (.ofNat 0)] .e (off+j))=some (List.replicate l.length 0):=by
      intro l;induction l with
      |nil=>rfl
      |cons j l ih=>
       have h1:qv 1 [.int .u8 (.ofNat 0)] .e (off+j)=.int .u8 (.ofNat 0):=by
        rw[yY,QH];simp[Nat.mod_one]
       rw[ν,h1];simp only[Xk,ih];rfl
     have h2:=this (Qae len);rw[List.length_range] at h2;exact h2
    obtain⟨bs,q1,q2⟩:=main _ hz;refine Res.val k (x:=.string bs) q2 ?_;simp only[VR];refine⟨bs,rfl,?_⟩;have:=congrArg List.length q1;simpa using this
  ·simp only[VR] at hx;refine Res.val k (x:=.string .empty) ?_ (by simp only[VR];exact⟨_,rfl,by simp⟩);rw[hx,run_convert_bytes_string w s d e _ _ _ h1 he h2];simp[Conv.bytesToString]
 ·rename_i e h1 h2;split<;>try trivial
  rename_i he;try dsimp only
  generalize (op x).run env=vx at hx;cases vx<;>try trivial
  rename_i cs;simp only[VR] at hx;obtain⟨bs,hpx,hbs⟩:=hx;simp only[zp,jB,jO,yE];rw[St.alloc_eq];have hsz:=J0 hbs;generalize hcut:(Question.appendCap bs.size 0 e).cut (w.tape w.drawn (.appendCap bs.size 0 e))=C;have hC:bs.size<=C:=by rw[<-hcut];exact Xh _ _ _ _
  refine Res.drew (λ_ _ h=>by cases h) ?_;have hsize:((bs.data.map λ(b:UInt8)=>Value.int .u8 b.toNat) ++ QaD (C - bs.size) (Value.int .u8 0)).size=C:=by
   simp;show bs.size+(C - bs.size)=C;omega
  refine Res.alloc (w:=w.drew) k.drew (S:=C) (x:=.cells ((bs.data.map λ(b:UInt8)=>Value.int .u8 b.toNat) ++ QaD (C - bs.size) (Value.int .u8 0)) e (C,C+1)) ?_
   (Jw ι _ _ _ cs.length C 1 cs.length false (φ _) om (λh=>by cases h) (λ_=>by omega)) ?_
  ·simp only[OR];refine⟨_,e,C,C+1,rfl,hsize,om,om,λi hi=>?_⟩;have e1:qv cs.length (cs.map λc=>AV.int .u8 (.ofNat c)) .e i=.int .u8 (.ofNat (cs.getD i 0)):=by
    rw[yY,QH,Qbh hi];simp[Qac,hi]
   rw[e1];refine⟨rfl,.int .u8 (cs.getD i 0:Nat),?_,by simp only[VR];rfl⟩;have hi2:i<bs.data.size:=by have:bs.data.size=bs.size:=rfl;omega
   rw[Array.getElem?_append_left (by simpa using hi2)];have:(bs.data.map λ(b:UInt8)=>Value.int .u8 b.toNat)[i]? = (cs.map λ(n:Nat)=>Value.int .u8 (n:Int))[i]?:=by
    rw[<-ZY cs bs hbs];simp
   rw[this];simp[Qac,hi]
  ·have hrun:(Go.convert s d (.string bs)).run P w=(Conv.stringToBytes e bs).run P w:=by
    simp[Go.convert,run_underlying h1,run_underlying h2,run_underlying he]
   rw[hpx,hrun];have hfz:=G4 w.drew ((bs.data.map λ(b:UInt8)=>Value.int .u8 b.toNat) ++ QaD (C - bs.size) (Value.int .u8 0)) e C;have hsh:(w.drew.alloc (.cells ((bs.data.map λ(b:UInt8)=>Value.int .u8 b.toNat) ++ QaD (C - bs.size) (Value.int .u8 0)) e)).shape? w.drew.heap.size=some (e,C):=by
    simp only[World.shape?,v7];rw[hsize]
   simp only[hsz] at hcut hsh hfz;simp only[hsz,Conv.stringToBytes,Sem.run_bind,run_choose_drew,Question.forced,QaI,if_false,Result.andThen_ok,hcut,Go.newRow,markStringish,run_newObj_alloc,Sem.run_pure,run_shape,hsh,run_freeze,hfz]
end
section
variable {P:Program} {ι:Inj} {w:World} {st:St}
variable {ρ:Operand->Value} {op:Operand->OF} {env:Env} {o:Oper}
theorem VR.plainCells {x:AV}{v:Value}(hp:x.plain=true)(h:VR ι x v):VRs ι x.cells v.cells.toList:=by
 have one:v.cells = #[v]->x.cells=[x]->VRs ι x.cells v.cells.toList:=by
  intro h1 h2;rw[h1,h2];simp only[VRs];exact⟨v,[],rfl,h,rfl⟩
 cases x<;>simp only[AV.plain] at hp<;>try(cases hp;done)
 case agg cs=>
  simp only[VR] at h;obtain⟨a,rfl,hc⟩:=h;exact hc
 all_goals
  refine one ?_ rfl;simp only[VR] at h
 case bool=>subst h;rfl
 case int=>subst h;rfl
 case str=>obtain⟨bs,rfl,_⟩:=h;rfl
 case zstr=>obtain⟨bs,rfl,_⟩:=h;rfl
 case ptr=>obtain⟨_,a,rfl,_⟩:=h;rfl
 case nilp=>subst h;rfl
 case slice=>obtain⟨_,_,a,C,rfl,_⟩:=h;rfl
 case nils=>subst h;rfl
 case map=>obtain⟨_,R,rfl,_⟩:=h;rfl
 case nilm=>subst h;rfl
 case fn=>obtain⟨cv,rfl,_⟩:=h;rfl
 case nilf=>subst h;rfl
 case iface=>obtain⟨y,rfl,_⟩:=h;rfl
 case nilif=>subst h;rfl
 case lst=>obtain⟨p,C,rfl,_⟩:=h;rfl
 case xlst=>obtain⟨p,rfl,_⟩:=h;rfl
 case lptr=>obtain⟨B,o,vs,rfl,_⟩:=h;rfl
theorem Gv (off:Nat):∀ (l:List Value) (k:Nat) (cs:Array Value),off+k+l.length<=cs.size->
  ((l.zipIdx k).foldl (λ(cs:Array Value) (p:Value×Nat)=>cs.setIfInBounds (off+p.2) p.1) cs).toList=cs.toList.take (off+k) ++ (l ++ cs.toList.drop (off+k+l.length))
 |[],k,cs,h=>by simp
 |v :: l,k,cs,h=>by
  simp only[χ] at h;rw[List.zipIdx_cons,List.foldl_cons,Gv off l (k+1) _ (by simp;omega)];simp only[Array.toList_setIfInBounds];have hlt:off+k<cs.toList.length:=by rw[Qai];omega
  have e1:(cs.toList.set (off+k) v).take (off+(k+1))=cs.toList.take (off+k) ++ [v]:=by
   rw[show off+(k+1)=(off+k)+1 by omega,List.take_add_one,List.take_set_of_le om];simp only[List.getElem?_set_self hlt,Option.toList]
  have e2:(cs.toList.set (off+k) v).drop (off+(k+1)+l.length)=cs.toList.drop (off+k+(l.length+1)):=by
   rw[List.drop_set_of_lt om]
   congr 1
   omega
  rw[e1,e2];simp
def PRs (ι:Inj):List (Nat×AV)->List (Nat×Value)->Prop
 |[],l=>l=[]
 |p :: ps,l=>∃ q qs,l=q :: qs/\p.1=q.1/\VR ι p.2 q.2/\PRs ι ps qs
theorem PRs.map_of {α:Type}{f:α->Nat×AV}{g:α->Nat×Value}:∀ l:List α,(∀ x∈l,(f x).1=(g x).1/\VR ι (f x).2 (g x).2)->PRs ι (l.map f) (l.map g)
 |[],_=>by simp[PRs]
 |x :: l,h=>by
  simp only[ν,PRs];exact⟨_,_,rfl,(h x (by simp)).1,(h x (by simp)).2,PRs.map_of l λy hy=>h y (by simp[hy])⟩
theorem uT (place:Nat->Option (Nat×Nat)):∀ (l:List (Nat×AV)) (l':List (Nat×Value)) (cells out:List AV) (vs:Array Value),
  PRs ι l l'->VRs ι cells vs.toList->YD cells place l=some out->
  ∃ vs',Instr.fill place vs l'=some vs'/\VRs ι out vs'.toList
 |[],l',cells,out,vs,hr,hc,h=>by
  simp only[PRs] at hr;subst hr;simp only[YD,Option.some.injEq] at h;subst h;exact⟨vs,rfl,hc⟩
 |(i,v) :: l,l0,cells,out,vs,hr,hc,h=>by
  simp only[PRs] at hr;obtain⟨⟨i',x⟩,l',rfl,h0,hv,hr'⟩:=hr;simp only at h0 hv;subst h0;unfold YD at h;try simp only at h
  cases hp:place i with
  |none=>rw[hp] at h;cases h
  |some q=>
   obtain⟨off,size⟩:=q;rw[hp] at h;simp only at h;generalize h1:v.plain=q1 at h;cases q1<;>try(cases h;done)
   simp only[cond] at h;generalize h2:Qcb (jM v.cells) size=q2 at h;cases q2<;>try(cases h;done)
   simp only[cond] at h;generalize h3:Qcd (Qce off size) (jM cells)=q3 at h;cases q3<;>try(cases h;done)
   simp only[cond] at h;rw[qD,jO] at h2;rw[qe,jO] at h3;have h3':off+size<=cells.length:=h3;have hvc:=VR.plainCells h1 hv;have hsz:=hvc.length;rw[Qai] at hsz;have hcl:=hc.length;rw[Qai] at hcl;simp only[yS,q8,y4] at h;have ZU:=Gv off x.cells.toList 0 vs (by rw[Qai];omega);rw[Qai] at ZU;have hc':VRs ι (cells.take off ++ (v.cells ++ cells.drop (off+size))) (x.cells.zipIdx.foldl (λcs (c,j)=>cs.setIfInBounds (off+j) c) vs).toList:=by
    rw[<-Array.foldl_toList,Array.toList_zipIdx];have e:(off+0+x.cells.size)=off+size:=om
    rw[e] at ZU;simp only[QaV] at ZU;rw[ZU];exact(hc.take off).append (hvc.append (hc.drop (off+size)))
   obtain⟨vs',h5,h6⟩:=uT place l l' _ out _ hr' hc' h;refine⟨vs',?_,h6⟩;unfold Instr.fill;simp only[hp];rw[if_neg (by simp;omega)];exact h5
theorem vK {ps:Array (Nat×Operand)}(hx:∀ p∈ps.toList,VR ι ((op p.2).run env) (ρ p.2)) :
  PRs ι (Xb env (yb (λp=>(p.1,op p.2)) ps.toList)) (ps.map λ(p:Nat×Operand)=>(p.1,ρ p.2)).toList:=by
 have e:Xb env (yb (λp=>(p.1,op p.2)) ps.toList)=ps.toList.map λp=>(p.1,(op p.2).run env):=by
  simp only[Xb,yE,QaP];rfl
 rw[e,Qbi];exact PRs.map_of _ λp hp=>⟨rfl,hx p hp⟩
theorem jaV {fields:Array Field}(h:∀ f∈fields.toList,∃ i,P.info? f.type=some i) :
  (fields.mapM λf=>do pure (f.offset,<-Go.sizeOf f.type):Sem (Array (Nat×Nat))).run P w=.ok (fields.map λf=>(f.offset,(P.info? f.type).elim 0 (·.size))) w:=by
 rw[Array.mapM_eq_mapM_toList];have:∀ l:List Field,(∀ f∈l,∃ i,P.info? f.type=some i)->(l.mapM λf=>do pure (f.offset,<-Go.sizeOf f.type):Sem (List (Nat×Nat))).run P w=.ok (l.map λf=>(f.offset,(P.info? f.type).elim 0 (·.size))) w:=by
  intro l;induction l with
  |nil=>intro _;simp
  |cons f l ih=>
   intro hl;obtain⟨i,hi⟩:=hl f (by simp);rw[List.mapM_cons];simp only[Sem.run_bind,j6 hi,Result.andThen_ok,Sem.run_pure,ih (λg hg=>hl g (by simp[hg]))];simp[hi]
 have h2:=this fields.toList h;simp only[Sem.run_bind,Sem.run_map,h2,Result.andThen_ok];try simp
 try(apply Array.ext';simp)
theorem jbw {t:TypeId}{ps:Array (Nat×Operand)}(ho:o.op=.build t ps)(k:Sim ι st.h st.nx w)(hx:∀ p∈ps.toList,VR ι ((op p.2).run env) (ρ p.2)) :
  Res ι w st ((jo P op (.build t ps)).run env st) ((execOp ρ o).run P w):=by
 have hexec:(execOp ρ o).run P w=((Instr.build t (ps.map λ(p:Nat×Operand)=>(p.1,ρ p.2))).run P w).andThen λv w'=>.ok (.value v) w':=by
  simp only[execOp,ho,Sem.run_bind];cases (Instr.build t (ps.map λ(p:Nat×Operand)=>(p.1,ρ p.2))).run P w<;>simp[Result.andThen]
 rw[hexec];simp only[jo,uj];split<;>try trivial
 ·rename_i z fields hz hu;obtain⟨i,zv,hi,hzv,hr⟩:=YN hz ι;generalize hq:(fields.toList.all λf=>(Ev.sizeOf P f.type).isSome)=q;cases q<;>try trivial
  have hall:∀ f∈fields.toList,∃ i,P.info? f.type=some i:=λf hf=>by
   have:=Qah.1 hq f hf;cases hs:Ev.sizeOf P f.type with
   |none=>simp[hs] at this
   |some n=>obtain⟨i,hi,_⟩:=y7 hs;exact⟨i,hi⟩
  show Res ι w st (jQ _ _) _;refine qN λcs hcs=>?_;have hpl:(Vl P fields)=λi=>(fields.map λf=>(f.offset,(P.info? f.type).elim 0 (·.size)))[i]?:=by
   funext j
   simp only[Vl,Array.getElem?_map];cases hj:fields[j]? with
   |none=>rfl
   |some f=>
    have hf:f∈fields.toList:=by rw[Qau] at hj;obtain⟨hj1,hj2⟩:=hj;rw[<-hj2];simp
    obtain⟨i',hi'⟩:=hall f hf;simp[Ev.sizeOf,hi']
  rw[hpl] at hcs;obtain⟨vs',h5,h6⟩:=uT _ _ _ z cs zv.cells (vK (env:=env) hx) hr hcs;refine Res.val k (x:=.agg vs') ?_ (by simp only[VR];exact⟨vs',rfl,h6⟩);simp only[Instr.build,Sem.run_bind,zN hi hzv,Result.andThen_ok,run_underlying hu,jaV hall,h5,Sem.run_pure]
 ·rename_i z n e hz hu;obtain⟨i,zv,hi,hzv,hr⟩:=YN hz ι;split<;>try trivial
  rename_i s hs;obtain⟨i',hi',hsi⟩:=y7 hs;show Res ι w st (jQ _ _) _;refine qN λcs hcs=>?_;obtain⟨vs',h5,h6⟩:=uT _ _ _ z cs zv.cells (vK (env:=env) hx) hr hcs;refine Res.val k (x:=.agg vs') ?_ (by simp only[VR];exact⟨vs',rfl,h6⟩);have h5':Instr.fill (λi=>some (i * s,s)) zv.cells (ps.map λ(p:Nat×Operand)=>(p.1,ρ p.2)).toList=some vs':=h5;simp only[Instr.build,Sem.run_bind,zN hi hzv,Result.andThen_ok,run_underlying hu,j6 hi',hsi,h5',Sem.run_pure]
theorem vH {z:List AV}{zs:Array Value}(h:VRs ι z zs.toList):∀ n,VRs ι (yQ z n) ((Qae n).flatMap λ_=>zs.toList)
 |0=>by simp[yQ,VRs]
 |n+1=>by
  show VRs ι (y6 z (yQ z n)) _;rw[yS,List.range_succ_eq_map,List.flatMap_cons];refine h.append ?_;have:=vH h n;rw[List.flatMap_map];exact this
theorem gK (zs:Array Value)(n:Nat):(madeCells zs (n * zs.size)).toList=(Qae n).flatMap λ_=>zs.toList:=by
 induction n with
 |zero=>simp[madeCells]
 |succ n ih=>
  rw[List.range_succ,List.flatMap_append,<-ih];simp only[madeCells,Qbi,Array.toList_range,QaC,Qbe,List.flatMap_cons,List.flatMap_nil,Qbj];rw[List.range_add,List.map_append,QaP]
  congr 1
  apply Qbr
  ·simp
  ·intro i h1 h2;simp at h1;simp only[List.getElem_map,List.getElem_range,Function.comp];have:(n * zs.size+i) % zs.size=i:=by rw[Nat.add_comm,Nat.add_mul_mod_self_right,Qbh h1]
   rw[this];simp[h1]
theorem VE {t:TypeId}{n:Nat}{ps:Array (Nat×Operand)}(ho:o.op=.buildSlice t n ps)(k:Sim ι st.h st.nx w)(hx:∀ p∈ps.toList,VR ι ((op p.2).run env) (ρ p.2)) :
  Res ι w st ((jo P op (.buildSlice t n ps)).run env st) ((execOp ρ o).run P w):=by
 have hexec:(execOp ρ o).run P w=((Instr.buildSlice t n (ps.map λ(p:Nat×Operand)=>(p.1,ρ p.2))).run P w).andThen λv w'=>.ok (.value v) w':=by
  simp only[execOp,ho,Sem.run_bind];cases (Instr.buildSlice t n (ps.map λ(p:Nat×Operand)=>(p.1,ρ p.2))).run P w<;>simp[Result.andThen]
 rw[hexec];simp only[jo,Ya];split<;>try trivial
 rename_i e he;have hu:=uU he;split<;>try trivial
 rename_i s z hs hz;obtain⟨i,hi,hsi⟩:=y7 hs;obtain⟨i',zv,hi',hzv,hr⟩:=YN hz ι;rw[hi] at hi';cases hi';generalize hq:cond (Qcd (Qcf n s) 16777216) (Qcb (jM z) s) false=q;cases q<;>try trivial
 have hq':n * s<=16777216/\z.length=s:=by
  cases h1:Qcd (Qcf n s) 16777216
  ·rw[h1] at hq;cases hq
  ·rw[h1] at hq;simp only[cond] at hq;rw[qD,jO] at hq;rw[qe] at h1;exact⟨h1,hq⟩
 show Res ι w st (jQ _ _) _;refine qN λcells hcs=>jJ λhall=>?_;rw[Jn] at hall;rw[jB,jO,St.alloc_eq];have hzs:zv.cells.size=s:=by have:=hr.length;rw[Qai] at this;omega
 have hrep:VRs ι (yQ z n) (madeCells zv.cells (n * s)).toList:=by
  rw[<-hzs,gK];exact vH hr n
 obtain⟨vs',h5,h6⟩:=uT _ _ _ _ cells _ (vK (env:=env) hx) hrep hcs;have h5':Instr.fill (λi=>some (i * s,s)) (madeCells zv.cells (n * s)) (ps.map λ(p:Nat×Operand)=>(p.1,ρ p.2)).toList=some vs':=h5;have le:=Le.add (ι:=ι) k.born w.heap.size vs'.toList.length;refine Res.alloc k (S:=vs'.toList.length) (x:=.cells vs' e) ?_ (Jw ι _ _ _ n n s n true (φ _) (φ _) (λ_=>rfl) (λh=>by cases h)) ?_
 ·have:=jaw (VRs.mono le _ _ h6) hall e;simpa using this
 ·simp only[Instr.buildSlice,Sem.run_bind,run_underlying hu,Result.andThen_ok,j6 hi,hsi];rw[if_neg (by show ¬ n * s > 2 ^ 24;omega)];by_cases h0:n * s=0
  ·have e0:madeCells zv.cells (n * s)=(Array.range (n * s)).map ((#[]:Array Value)[· % (#[]:Array Value).size]!):=by rw[h0];simp[madeCells]
   rw[e0] at h5';simp only[if_pos h0,Sem.run_pure,Result.andThen_ok,h5',Go.newRow,Sem.run_bind,run_newObj_alloc]
  ·have e0:madeCells zv.cells (n * s)=(Array.range (n * s)).map (zv.cells[· % zv.cells.size]!):=rfl;rw[e0] at h5';simp only[if_neg h0,Sem.run_bind,zN hi hzv,Sem.run_pure,Result.andThen_ok,h5',Go.newRow,run_newObj_alloc]
end
section
variable {P:Program} {ι:Inj} {w:World} {st:St}
variable {ρ:Operand->Value} {op:Operand->OF} {env:Env} {o:Oper}
theorem K3 {t:TypeId}{z:AV}(h:Kc P t=some z)(ι:Inj):∃ i zv,P.info? t=some i/\i.zero=some zv/\VR ι z zv:=by
 unfold Kc at h;cases hi:P.info? t with
 |none=>simp[hi] at h
 |some i=>
  simp only[hi,QaK] at h;cases hz:i.zero with
  |none=>simp[hz] at h
  |some zv=>
   simp only[hz,Qat,Option.some.injEq] at h;refine⟨i,zv,rfl,hz,?_⟩;subst h;unfold ofZ;split
   ·rename_i cs;simp only[VR];refine⟨cs,rfl,?_⟩;have:=VRs.map_of (ι:=ι) (f:=ofV) (g:=id) cs.toList (λx _=>ww ι x);simpa using this
   ·exact ww ι _
def Yo (P:Program)(w:World)(kt:TypeId)(u:Value)(ens:List MapEntry)(i:Nat)(rr:Option (Nat×Value)):Prop:=
 (Instr.findAsking kt u ens i).run P w=.ok rr w/\∀ kind,P.underlying kt=some kind->Instr.findNow kind u ens i=some rr\/Instr.findNow kind u ens i=none
theorem WM (kt:TypeId)(u:Value)(i:Nat):Yo P w kt u [] i none:=⟨by simp[Instr.findAsking],λ_ _=>.inl rfl⟩
theorem GT {kt:TypeId}{u:Value}{e:MapEntry}{ens:List MapEntry}{i:Nat}(h:(Op.equal kt u e.key).run P w=.ok true w)
  (hn:∀ kind,P.underlying kt=some kind->Instr.sameNow kind u e.key=some true\/Instr.sameNow kind u e.key=none):Yo P w kt u (e :: ens) i (some (i,e.val)):=by
 refine⟨by simp[Instr.findAsking,h],λkind hk=>?_⟩;rcases hn kind hk with h1|h1<;>simp[Instr.findNow,h1]
theorem kT {kt:TypeId}{u:Value}{e:MapEntry}{ens:List MapEntry}{i:Nat}{rr:Option (Nat×Value)}(h:(Op.equal kt u e.key).run P w=.ok false w)
  (hn:∀ kind,P.underlying kt=some kind->Instr.sameNow kind u e.key=some false\/Instr.sameNow kind u e.key=none) (hr:Yo P w kt u ens (i+1) rr):Yo P w kt u (e :: ens) i rr:=by
 refine⟨by simp[Instr.findAsking,h,hr.1],λkind hk=>?_⟩;rcases hn kind hk with h1|h1
 ·simp only[Instr.findNow,h1];exact hr.2 kind hk
 ·simp[Instr.findNow,h1]
theorem vk {kt:TypeId}{kind:TypeDesc}(hk:P.underlying kt=some kind){u:Value}{ens:List MapEntry}{rr:Option (Nat×Value)}(h:Yo P w kt u ens 0 rr):(Instr.findKey kt u ens).run P w=.ok rr w:=by
 simp only[Instr.findKey,Sem.run_bind,run_underlying hk,Result.andThen_ok];rcases h.2 kind hk with h1|h1
 ·simp[h1]
 ·simp[h1,h.1]
theorem uw {d:Nat}{kt:TypeId}{x y:AV}{u v:Value}{b:Bool}(hx:VR ι x u)(hy:VR ι y v)(h:(eqF P d kt).run x y=some b) :
  ∀ kind,P.underlying kt=some kind->Instr.sameNow kind u v=some b\/Instr.sameNow kind u v=none:=by
 intro kind hk;cases d with
 |zero=>simp[eqF,NOQ] at h
 |succ d=>
  cases kind;case bool=>
   simp only[eqF,hk] at h;split at h<;>try(cases h;done)
   simp only[VR] at hx hy;subst hx;subst hy;rename_i a c;simp only[Option.some.injEq] at h;left;simp only[Instr.sameNow,<-h];cases a<;>cases c<;>rfl
  case int k0=>
   simp only[eqF,hk] at h;split at h<;>try(cases h;done)
   rename_i k a k' c;generalize hkk:eqK k k'=kk at h;cases kk
   ·cases h
   ·have:=Zn hkk;subst this;simp only[cond,Option.some.injEq,Qz] at h;simp only[VR] at hx hy;subst hx;subst hy;left;simp only[Instr.sameNow,if_true,<-h]
    congr 1
  case string=>
   simp only[eqF,hk] at h;split at h<;>try(cases h;done)
   simp only[VR] at hx hy;obtain⟨bx,rfl,hbx⟩:=hx;obtain⟨by',rfl,hby⟩:=hy;simp only[Option.some.injEq,JA] at h;left;simp only[Instr.sameNow,<-h]
   congr 1
   rw[beq_toListBytes,Qax,decide_eq_true_iff,beq_iff_eq,ByteArray.toList_eq,ByteArray.toList_eq,<-hbx,<-hby,Jj]
  all_goals
   right;rfl
theorem vf {t:TypeId}{x y:AV}{u v:Value}{q:Bool}(hx:VR ι x u)(hy:VR ι y v)(h:(eqF P 20 t).run x y=some q):(Op.equal t u v).run P w=.ok q w:=
 KO 20 t x y u v q hx hy h 10000 om
theorem jaf {kt:TypeId}{kA:AV}{u:Value}(hu:VR ι kA u):∀ (es:List (AV×AV)) (ens:List MapEntry) (i:Nat) (r:Option AV),MR ι es ens->jbn (eqF P 20 kt) kA es=some r->
  ∃ rr,Yo P w kt u ens i rr/\(r=none/\rr=none\/∃ v j x,r=some v/\rr=some (j,x)/\VR ι v x)
 |[],ens,i,r,hm,h=>by
  simp only[MR] at hm;subst hm;have:r=none:=by
   have h':some (none:Option AV)=some r:=h;cases h';rfl
  subst this;exact⟨none,WM _ _ _,.inl ⟨rfl,rfl⟩⟩
 |e :: es,ens0,i,r,hm,h=>by
  simp only[MR] at hm;obtain⟨x,ens,rfl,h1,h2,h3⟩:=hm;change (match (eqF P 20 kt).run kA e.1 with|some b=>cond b (some (some e.2)) (jbn (eqF P 20 kt) kA es)|none=>none)=some r at h;cases hq:(eqF P 20 kt).run kA e.1 with
  |none=>rw[hq] at h;cases h
  |some b=>
   rw[hq] at h;cases b
   ·obtain⟨rr,h4,h5⟩:=jaf hu es ens (i+1) r h3 h;exact⟨rr,kT (vf hu h1 hq) (uw hu h1 hq) h4,h5⟩
   ·simp only[cond,Option.some.injEq] at h;subst h;exact⟨_,GT (vf hu h1 hq) (uw hu h1 hq),.inr ⟨_,_,_,rfl,rfl,h2⟩⟩
theorem WL {kt:TypeId}{kA:AV}{u:Value}(hu:VR ι kA u)(h:(vS P kt).run kA=true)(emp:Bool)(D:Nat):(Instr.checkKey emp (D+2) kt u).run P w=.ok () w:=by
 unfold vS at h;split at h
 ·rename_i hk;simp[Instr.checkKey,run_underlying hk]
 ·rename_i hk;simp[Instr.checkKey,run_underlying hk]
 ·rename_i hk;simp[Instr.checkKey,run_underlying hk]
 ·rename_i len e hk;split at h
  ·rename_i kk he hs;obtain⟨i,hi,hsi⟩:=y7 hs;simp only at h;split at h<;>try(cases h;done)
   rename_i cs;rw[qD,jO] at h;simp only[VR] at hu;obtain⟨a,rfl,ha⟩:=hu;have hl:=ha.length;rw[Qai] at hl;have hag:Ev.isAgg P e=some false:=by simp[Ev.isAgg,he]
   have key:∀ (k s:Nat),s+k<=len->(do
    for i in Qaa s k do
     Instr.checkKey emp (D+1) e (<-part e a (i * (<-Go.sizeOf e))):Sem Unit).run P w=.ok () w:=by
    intro k;induction k with
    |zero=>intro s _;simp
    |succ k ih=>
     intro s hs;obtain⟨x,hx,_⟩:=XI (P:=P) (w:=w) ha (t:=e) (off:=s) (u:=cs.getD s .bad) (by
      have hb:Qcd (Qcc s) (jM cs)=true:=by rw[qe,jO];omega
      simp only[zc,hag,QaK,cond,hb,zk])
     have hc:(Instr.checkKey emp (D+1) e x).run P w=.ok () w:=by simp[Instr.checkKey,run_underlying he]
     have hx':(part e a (s * i.size)).run P w=.ok x w:=by rw[hsi,Nat.mul_one];exact hx
     have:=ih (s+1) om;simp only[Sem.run_bind] at this;simp only[QaY,List.forIn_cons,Sem.run_bind,j6 hi,hx',hc,Result.andThen_ok,Sem.run_pure];exact this
   have:=key len 0 om;unfold Instr.checkKey;simp only[Sem.run_bind,run_underlying hk,Result.andThen_ok];rw[<-this];simp only[Std.Legacy.Range.forIn_eq_forIn_range',Std.Legacy.Range.size,Sem.run_bind,QaH,Nat.add_sub_cancel,Nat.div_one]
  ·cases h
 ·cases h
theorem Yu {r:Nat}{x:Obj}(h:w.heap[r]? = some x)(hn:∀ c e f,x≠.cells c e f):(getObj r).run P w=.ok x w:=by
 cases x<;>first|exact absurd rfl (hn _ _ _)|(simp only[getObj,Sem.run,h])
theorem kN {x y:AV}{u v:Value}(h:wo x y=true)(hx:VR ι x u)(hy:VR ι y v):u=v/\∀ D,Instr.sameBits D v v=true:=by
 unfold wo at h;split at h
 ·split at h<;>try(cases h;done)
  rename_i a _ b;simp only[VR] at hx hy;subst hx;subst hy;have:a=b:=by cases a<;>cases b<;>first|rfl|cases h
  subst this;exact⟨rfl,λD=>by cases D<;>simp[Instr.sameBits]⟩
 ·split at h<;>try(cases h;done)
  rename_i k a _ k' b;generalize hk:eqK k k'=kk at h;cases kk
  ·cases h
  ·have:=Zn hk;subst this;simp only[cond,Qz,decide_eq_true_iff] at h;subst h;simp only[VR] at hx hy;subst hx;subst hy;exact⟨rfl,λD=>by cases D<;>simp[Instr.sameBits]⟩
 ·split at h<;>try(cases h;done)
  rename_i a _ b;rw[JA,decide_eq_true_iff] at h;subst h;simp only[VR] at hx hy;obtain⟨bx,rfl,hbx⟩:=hx;obtain⟨by',rfl,hby⟩:=hy;have:bx=by':=by
   rw[<-hby] at hbx;have:=Jj.1 hbx;cases bx;cases by';simp at this;rw[this]
  subst this;exact⟨rfl,λD=>by
   have hb:(bx == bx)=true:=by rw[beq_toListBytes];exact beq_self_eq_true _
   cases D<;>simpa[Instr.sameBits] using hb⟩
 ·cases h
theorem kM:∀ (l r:List AV) (us vs:List Value),GC l r=true->VRs ι l us->VRs ι r vs->us=vs/\∀ D,(vs.zip vs).all (λ(x,y)=>Instr.sameBits D x y)=true
 |[],r,us,vs,h,hl,hr=>by
  cases r with
  |nil=>simp only[VRs] at hl hr;subst hl;subst hr;exact⟨rfl,λ_=>rfl⟩
  |cons y r=>cases h
 |x :: l,r,us,vs,h,hl,hr=>by
  cases r with
  |nil=>cases h
  |cons y r=>
   change cond (wo x y) (GC l r) false=true at h;generalize hq:wo x y=q at h;cases q
   ·cases h
   ·simp only[VRs] at hl hr;obtain⟨u,us',rfl,hu,hus⟩:=hl;obtain⟨v,vs',rfl,hv,hvs⟩:=hr;obtain⟨h1,h2⟩:=kN hq hu hv;obtain⟨h3,h4⟩:=kM l r us' vs' h hus hvs;refine⟨by rw[h1,h3],λD=>?_⟩;have:=h4 D;simp only[List.zip_cons_cons,Qaz,h2 D,QaZ];exact this
theorem jfs {x y:AV}{u v:Value}(h:VH x y=true)(hx:VR ι x u)(hy:VR ι y v):u=v/\Instr.sameBits 10000 v v=true:=by
 unfold VH at h;split at h
 ·split at h<;>try(cases h;done)
  simp only[VR] at hx hy;obtain⟨a,rfl,ha⟩:=hx;obtain⟨b,rfl,hb⟩:=hy;obtain⟨h1,h2⟩:=kM _ _ _ _ h ha hb;have:a=b:=Array.ext' h1;subst this;refine⟨rfl,?_⟩;have key:∀ D,Instr.sameBits (D+1) (.agg a) (.agg a)=true:=λD=>by
   have:=h2 D;simp only[Instr.sameBits,BEq.rfl,QaZ];exact this
  exact key 9999
 ·obtain⟨h1,h2⟩:=kN h hx hy;exact⟨h1,h2 10000⟩
theorem jcu {kt:TypeId}{kA vA:AV}{u x:Value}(hu:VR ι kA u)(hx:VR ι vA x)(clock:Nat):∀ (es es':List (AV×AV)) (ens:List MapEntry) (i:Nat),MR ι es ens->jaO (eqF P 20 kt) kA vA es=some es'->
  (Yo P w kt u ens i none/\∀ b,MR ι es' (ens ++ [{ key:=u,val:=x,born:=b }])) \/
  (∃ j e0 old,Yo P w kt u ens i (some (i+j,old))/\ens[j]? = some e0/\e0.key=u/\Instr.sameBits 10000 u u=true/\MR ι es' (ens.modify j λe=>{ e with key:=u,val:=x }))
 |[],es',ens,i,hm,h=>by
  simp only[MR] at hm;subst hm;have h':some [(kA,vA)]=some es':=h;cases h';exact .inl ⟨WM _ _ _,λb=>by simp only[MR,QaG];exact⟨_,[],rfl,hu,hx,rfl⟩⟩
 |e :: es,es',ens0,i,hm,h=>by
  simp only[MR] at hm;obtain⟨y,ens,rfl,h1,h2,h3⟩:=hm;change (match (eqF P 20 kt).run kA e.1 with
   |some b=>cond b (cond (VH kA e.1) (some (Qao (kA,vA) es)) none) (match jaO (eqF P 20 kt) kA vA es with|some l=>some (Qao e l)|none=>none)
   |none=>none)=some es' at h
  cases hq:(eqF P 20 kt).run kA e.1 with
  |none=>rw[hq] at h;cases h
  |some b=>
   rw[hq] at h;cases b
   ·simp only[cond] at h;cases hr:jaO (eqF P 20 kt) kA vA es with
    |none=>rw[hr] at h;cases h
    |some l=>
     rw[hr] at h;simp only[Option.some.injEq] at h;subst h;have hmiss:=λrr (hb:Yo P w kt u ens (i+1) rr)=>kT (vf hu h1 hq) (uw hu h1 hq) hb;rcases jcu hu hx clock es l ens (i+1) h3 hr with ⟨h4,h5⟩|⟨j,e0,old,h4,h5,h6,h7,h8⟩
     ·refine .inl ⟨hmiss _ h4,λb=>?_⟩;simp only[Qay,MR];exact⟨_,_,rfl,h1,h2,h5 b⟩
     ·refine .inr ⟨j+1,e0,old,?_,by simpa using h5,h6,h7,?_⟩
      ·have:=hmiss _ h4;rw[show i+1+j=i+(j+1) by omega] at this;exact this
      ·simp only[List.modify_succ_cons,MR];exact⟨_,_,rfl,h1,h2,h8⟩
   ·simp only[cond] at h;generalize hk:VH kA e.1=kk at h;cases kk
    ·cases h
    ·simp only[Option.some.injEq] at h;subst h;obtain⟨h4,h5⟩:=jfs hk hu h1;refine .inr ⟨0,y,y.val,GT (vf hu h1 hq) (uw hu h1 hq),by simp,h4.symm,by rw[h4];exact h5,?_⟩;simp only[List.modify_zero_cons,MR];exact⟨_,_,rfl,hu,hx,h3⟩
theorem Hm {t:TypeId}{m x:Operand}{ok:Bool}(ho:o.op=.lookup t m x ok)(k:Sim ι st.h st.nx w)(hm:VR ι ((op m).run env) (ρ m))(hx:VR ι ((op x).run env) (ρ x)) :
  Res ι w st ((jo P op (.lookup t m x ok)).run env st) ((execOp ρ o).run P w):=by
 have hexec:(execOp ρ o).run P w=((Instr.lookup t (ρ m) (ρ x) ok).run P w).andThen λv w'=>.ok (.value v) w':=by
  simp only[execOp,ho,Sem.run_bind];cases (Instr.lookup t (ρ m) (ρ x) ok).run P w<;>simp[Result.andThen]
 rw[hexec];simp only[jo,XM];split<;>try trivial
 rename_i kt e hu;split<;>try trivial
 rename_i zero hz;obtain⟨i,zv,hi,hzv,hzr⟩:=K3 hz ι;try dsimp only
 generalize hvx:(op m).run env=vm at hm;cases vm<;>try trivial
 ·rename_i r;simp only[VR] at hm;obtain⟨hb,R,hpm,hR⟩:=hm;refine jJ λhk=>?_;cases hg:jr st.h r with
  |none=>trivial
  |some ob=>
   cases ob<;>try trivial
   rename_i es;simp only[Zz];refine qN λfr hfr=>?_;obtain⟨B,S,ens,clock,e1,hw,hmr⟩:=k.map hb hg;have hRB:=hR B S e1;subst hRB;obtain⟨rr,h4,h5⟩:=jaf (P:=P) (w:=w) hx es ens.toList 0 fr hmr hfr;cases hkd:P.underlying kt with
   |none=>
    simp[vS,hkd] at hk
   |some kind=>
    have hrun:=vk hkd h4;have hchk:=WL (P:=P) (w:=w) hx hk ens.isEmpty 9998;have jr:=Yu (P:=P) hw (λ_ _ _ h=>by cases h);rcases h5 with ⟨rfl,rfl⟩|⟨v,j,y,rfl,rfl,hv⟩
    ·refine Res.val k (x:=if ok then .tuple #[zv,.bool false] else zv) ?_ ?_
     ·simp only[Instr.lookup,Sem.run_bind,run_underlying hu,Result.andThen_ok,hpm,jr,Sem.run_pure,hchk,hrun,zN hi hzv]
     ·cases ok
      ·exact hzr
      ·simp only[cond,VR,if_true];exact⟨_,rfl,by simp[VRs,VR];exact hzr⟩
    ·refine Res.val k (x:=if ok then .tuple #[y,.bool true] else y) ?_ ?_
     ·simp only[Instr.lookup,Sem.run_bind,run_underlying hu,Result.andThen_ok,hpm,jr,Sem.run_pure,hchk,hrun]
     ·cases ok
      ·exact hv
      ·simp only[cond,VR,if_true];exact⟨_,rfl,by simp[VRs,VR];exact hv⟩
 ·simp only[VR] at hm;refine jJ λhk=>?_;cases hkd:P.underlying kt with
  |none=>simp[vS,hkd] at hk
  |some kind=>
   have hrun:=vk (P:=P) (w:=w) hkd (WM kt (ρ x) 0);have hchk:=WL (P:=P) (w:=w) hx hk true 9998;refine Res.val k (x:=if ok then .tuple #[zv,.bool false] else zv) ?_ ?_
   ·have he:(#[]:Array MapEntry).isEmpty=true:=rfl;simp only[Instr.lookup,Sem.run_bind,run_underlying hu,Result.andThen_ok,hm,Sem.run_pure,he,hchk,hrun,zN hi hzv]
   ·cases ok
    ·exact hzr
    ·simp only[cond,VR,if_true];exact⟨_,rfl,by simp[VRs,VR];exact hzr⟩
theorem UG {t:TypeId}{m x y:Operand}(ho:o.op=.mapUpdate t m x y)(k:Sim ι st.h st.nx w)(hm:VR ι ((op m).run env) (ρ m))(hx:VR ι ((op x).run env) (ρ x))(hy:VR ι ((op y).run env) (ρ y)) :
  Res ι w st ((jo P op (.mapUpdate t m x y)).run env st) ((execOp ρ o).run P w):=by
 have hexec:(execOp ρ o).run P w=((Instr.mapUpdate t (ρ m) (ρ x) (ρ y)).run P w).andThen λv w'=>.ok .skip w':=by
  simp only[execOp,ho,Sem.run_bind];cases (Instr.mapUpdate t (ρ m) (ρ x) (ρ y)).run P w<;>simp[Result.andThen]
 rw[hexec];simp only[jo,JF];split<;>try trivial
 rename_i kt e hu;try dsimp only
 generalize hvx:(op m).run env=vm at hm;cases vm<;>try trivial
 rename_i r;simp only[VR] at hm;obtain⟨hb,R,hpm,hR⟩:=hm;refine jJ λhk=>?_;cases hg:jr st.h r with
 |none=>trivial
 |some ob=>
  cases ob<;>try trivial
  rename_i es;simp only[Zz];refine qN λes' hes=>?_;rw[St.put_eq];obtain⟨B,S,ens,clock,e1,hw,hmr⟩:=k.map hb hg;have hRB:=hR B S e1;subst hRB;cases hkd:P.underlying kt with
  |none=>simp[vS,hkd] at hk
  |some kind=>
   have hchk:=WL (P:=P) (w:=w) hx hk false 9998;have jr:=Yu (P:=P) hw (λ_ _ _ h=>by cases h);have ZU:∀ ob,(setObj R ob).run P w=.ok () { w with heap:=w.heap.setIfInBounds R ob }:=λob=>by
    simp only[setObj,Sem.run,hw]
   have hfin:∀ ens' clock',MR ι es' ens'.toList->Sim ι ((jZ (jI r)).run (.map es') st.h) st.nx { w with heap:=w.heap.setIfInBounds R (.map ens' clock') }/\Grew ι w ι { w with heap:=w.heap.setIfInBounds R (.map ens' clock') }:=λens' clock' hm'=>by
    have hlt:=k.lt e1;refine k.write e1 (.map es') (.map ens' clock') (by simp only[OR];exact⟨ens',clock',rfl,hm'⟩) ?_ ?_ rfl rfl rfl ?_
    ·simp[hlt]
    ·intro j hj;simp[Qca (λe=>hj e.symm)]
    ·simp
   rcases jcu (P:=P) (w:=w) hx hy clock es es' ens.toList 0 hmr hes with ⟨h4,h5⟩|⟨j,e0,old,h4,h5,h6,h7,h8⟩
   ·obtain⟨h9,h10⟩:=hfin (ens.push { key:=ρ x,val:=ρ y,born:=clock }) (clock+1) (by simpa using h5 clock);refine⟨ι,undef,_,.inr ⟨?_,rfl⟩,Le.refl ι,?_,h9,h10,Cleanly.put ι st r _ (k.born r hb),rfl⟩
    ·have hrun:=vk hkd h4;simp only[Instr.mapUpdate,Sem.run_bind,run_underlying hu,Result.andThen_ok,hpm,jr,hchk,hrun,ZU]
    ·show VR ι qf undef;simp only[qf,undef,VR];exact⟨#[],rfl,by simp[VRs]⟩
   ·obtain⟨h9,h10⟩:=hfin (ens.modify j λe=>{ e with key:=ρ x,val:=ρ y }) clock (by simpa using h8);refine⟨ι,undef,_,.inr ⟨?_,rfl⟩,Le.refl ι,?_,h9,h10,Cleanly.put ι st r _ (k.born r hb),rfl⟩
    ·have hrun:=vk hkd h4;have hkey:((ens[0+j]?).map (·.key)).getD (ρ x)=ρ x:=by
      rw[Qab];have:ens[j]? = some e0:=by simpa using h5
      simp[this,h6]
     simp only[Instr.mapUpdate,Sem.run_bind,run_underlying hu,Result.andThen_ok,hpm,jr,hchk,hrun,hkey,Instr.keyThatStays,h7,if_true,Sem.run_pure,ZU];simp
    ·show VR ι qf undef;simp only[qf,undef,VR];exact⟨#[],rfl,by simp[VRs]⟩
end
section
variable {P:Program} {ι:Inj} {w:World} {st:St}
variable {ρ:Operand->Value} {op:Operand->OF} {env:Env} {o:Oper}
theorem jbs {t:TypeId}{x:Operand}(ho:o.op=.range t x)(k:Sim ι st.h st.nx w)(hx:VR ι ((op x).run env) (ρ x)) :
  Res ι w st ((jo P op (.range t x)).run env st) ((execOp ρ o).run P w):=by
 simp only[jo];split<;>try trivial
 rename_i hu;try dsimp only
 generalize (op x).run env=vx at hx;cases vx<;>try trivial
 rename_i s;simp only[VR] at hx;obtain⟨bs,hpx,hbs⟩:=hx;simp only[zp];rw[St.alloc_eq];refine Res.alloc k (S:=0) (x:=.stringIter bs 0) (y:=.pointer (some ⟨w.heap.size,0,none⟩)) (by simp only[OR];exact⟨bs,rfl,hbs⟩) (V8 _ _ _ _) ?_;simp[execOp,ho,Instr.range,run_underlying hu,hpx]
theorem Sim.iter {nx:Nat}{h:T AO}(k:Sim ι h nx w){b pos:Nat}{s:List Nat}(hb:ι b≠.unborn)(e:jr h b=some (.iter s pos)) :
  ∃ B S bs,ι b=.at B S/\w.heap[B]? = some (.stringIter bs pos)/\bs.data.toList.map UInt8.toNat=s:=by
 cases hι:ι b with
 |unborn=>exact absurd hι hb
 |dead=>have:=k.gone b hι _ e;cases this
 |«at» B S=>
  obtain⟨o,x,ho,hx,hr⟩:=k.obj b B S hι;rw[e] at ho;cases ho;simp only[OR] at hr;obtain⟨bs,rfl,hm⟩:=hr;exact⟨B,S,bs,rfl,hx,hm⟩
theorem jaT {r:Nat}{x y:Obj}(h:w.heap[r]? = some x)(hn:∀ c e f,x≠.cells c e f):(setObj r y).run P w=.ok () { w with heap:=w.heap.setIfInBounds r y }:=by
 cases x<;>first|exact absurd rfl (hn _ _ _)|(simp only[setObj,Sem.run,h])
theorem Sim.set {nx:Nat}{h:T AO}(k:Sim ι h nx w){b B S:Nat}(e:ι b=.at B S)(o:AO)(x:Obj)(hx:OR ι S o x) :
  Sim ι ((jZ (jI b)).run o h) nx { w with heap:=w.heap.setIfInBounds B x }/\Grew ι w ι { w with heap:=w.heap.setIfInBounds B x }:=by
 have hlt:=k.lt e;refine k.write e o x hx ?_ ?_ rfl rfl rfl ?_
 ·simp[hlt]
 ·intro j hj;simp[Qca (λe=>hj e.symm)]
 ·simp
theorem jdB {it:Operand}(ho:o.op=.next it true)(k:Sim ι st.h st.nx w)(hx:VR ι ((op it).run env) (ρ it)) :
  Res ι w st ((jo P op (.next it true)).run env st) ((execOp ρ o).run P w):=by
 simp only[jo,uF];generalize (op it).run env=vx at hx;cases vx<;>try trivial
 rename_i b off;simp only[VR] at hx;obtain⟨hb,ad,hpx,had⟩:=hx;simp only[qU];refine jJ λh0=>?_;rw[qD] at h0;subst h0;split<;>try trivial
 rename_i s pos hg;obtain⟨B,S,bs,e,hw,hbs⟩:=k.iter hb hg;rw[had B S e] at hpx;have hsz:=J0 hbs;have jr:=Yu (P:=P) hw (λ_ _ _ h=>by cases h);refine Qc (λh1=>?_) (λh1=>?_)
 ·rw[qe,jO] at h1;refine Res.val k (x:=.tuple #[.bool false]) ?_ ?_
  ·simp[execOp,ho,hpx,Instr.next,jr,show ¬ pos<bs.size by omega]
  ·simp only[VR];exact⟨_,rfl,by simp[VRs,VR]⟩
 ·have h1':pos<s.length:=by
   have:¬ Qcd (jM s) pos=true:=by rw[h1];simp
   rw[qe,jO] at this;omega
  rw[jB,zk];refine jJ λh2=>?_;rw[qe] at h2;rw[St.put_eq];have hp:pos<bs.size:=om
  have hc:s.getD pos 0=(bs[pos]'hp).toNat:=by
   rw[<-hbs];have:pos<bs.data.toList.length:=by rw[Qai];exact hp
   simp only[Qac,Qbv,Qaj this,Qat,QaJ];rfl
  have hdec:=decode_ascii bs pos hp om;obtain⟨h3,h4⟩:=k.set e (.iter s (pos+1)) (.stringIter bs (pos+1)) (by simp only[OR];exact⟨bs,rfl,hbs⟩);refine⟨ι,.tuple #[.bool true,.int .i64 pos,.int .i32 (bs[pos]'hp).toNat],_,.inl ?_,Le.refl ι,?_,h3,h4,Cleanly.put ι st b _ (k.born b hb),rfl⟩
  ·simp[execOp,ho,hpx,Instr.next,jr,hp,hdec,jaT hw (λ_ _ _ h=>by cases h),goInt]
  ·simp only[VR];refine⟨_,rfl,?_⟩;rw[hc];simp[VRs,VR]
theorem jbt {x:Operand}(ho:o.op=.panic x)(k:Sim ι st.h st.nx w)(hx:VR ι ((op x).run env) (ρ x)) :
  Res ι w st ((jo P op (.panic x)).run env st) ((execOp ρ o).run P w):=by
 simp only[jo];try dsimp only
 generalize (op x).run env=vx at hx;cases vx<;>try trivial
 rename_i t v;refine⟨rfl,ρ x,?_,hx⟩;simp only[VR] at hx;obtain⟨y,hy,_⟩:=hx;simp[execOp,ho,hy,Instr.panic,goPanic]
theorem VD {x:Operand}{s t:TypeId}(ho:o.op=.typeAssert x s t true)(k:Sim ι st.h st.nx w)(hx:VR ι ((op x).run env) (ρ x)) :
  Res ι w st ((jo P op (.typeAssert x s t true)).run env st) ((execOp ρ o).run P w):=by
 simp only[jo,Q5];split<;>try trivial
 rename_i z hz;obtain⟨i,zv,hi,hzv,hzr⟩:=K3 hz ι;split<;>try trivial
 ·rename_i want hu;try dsimp only
  generalize (op x).run env=vx at hx;cases vx<;>try trivial
  ·rename_i tt v;refine qN λb hb=>?_;unfold jgv at hb;rw[Qbu] at hb;obtain⟨it,hit,hb⟩:=hb;have hx':=hx;simp only[VR] at hx;obtain⟨y,hy,_⟩:=hx;refine Qc (λh=>?_) (λh=>?_)
   ·subst h;cases hm:Instr.missingMethod want it.methods with
    |none=>simp[hm] at hb
    |some m=>
     refine Res.val k (x:=.tuple #[zv,.bool false]) ?_ ?_
     ·simp[execOp,ho,hy,Instr.typeAssert,run_underlying hu,Q9 hit,hm,zN hi hzv]
     ·simp only[VR];exact⟨_,rfl,by simp[VRs,VR];exact hzr⟩
   ·subst h;cases hm:Instr.missingMethod want it.methods with
    |some m=>simp[hm] at hb
    |none=>
     refine Res.val k (x:=.tuple #[.iface tt y,.bool true]) ?_ ?_
     ·simp[execOp,ho,hy,Instr.typeAssert,run_underlying hu,Q9 hit,hm]
     ·rw[hy] at hx';simp only[VR] at hx';obtain⟨y',e,hy'⟩:=hx';cases e;simp only[VR];refine⟨_,rfl,?_⟩;simp only[VRs,VR];exact⟨_,_,rfl,⟨_,rfl,hy'⟩,_,_,rfl,rfl,rfl⟩
  ·simp only[VR] at hx;refine Res.val k (x:=.tuple #[zv,.bool false]) ?_ ?_
   ·simp[execOp,ho,hx,Instr.typeAssert,run_underlying hu,zN hi hzv]
   ·simp only[VR];exact⟨_,rfl,by simp[VRs,VR];exact hzr⟩
 ·rename_i d hni hu;try dsimp only
  generalize (op x).run env=vx at hx;cases vx<;>try trivial
  ·rename_i tt v;simp only[VR] at hx;obtain⟨y,hy,hv⟩:=hx;refine Qc (λh=>?_) (λh=>?_)
   ·rw[qD] at h;subst h;refine Res.val k (x:=.tuple #[y,.bool true]) ?_ ?_
    ·cases d<;>first|(exact absurd rfl (hni _))|(simp[execOp,ho,hy,Instr.typeAssert,run_underlying hu])
    ·simp only[VR];exact⟨_,rfl,by simp[VRs,VR];exact hv⟩
   ·have h':¬ tt=t:=λe=>by rw[<-qD,h] at e;cases e
    refine Res.val k (x:=.tuple #[zv,.bool false]) ?_ ?_
    ·cases d<;>first|(exact absurd rfl (hni _))|(simp[execOp,ho,hy,Instr.typeAssert,run_underlying hu,h',zN hi hzv])
    ·simp only[VR];exact⟨_,rfl,by simp[VRs,VR];exact hzr⟩
  ·simp only[VR] at hx;refine Res.val k (x:=.tuple #[zv,.bool false]) ?_ ?_
   ·cases d<;>first|(exact absurd rfl (hni _))|(simp[execOp,ho,hx,Instr.typeAssert,run_underlying hu,zN hi hzv])
   ·simp only[VR];exact⟨_,rfl,by simp[VRs,VR];exact hzr⟩
end
section
variable {P:Program} {ι:Inj} {w:World} {st:St}
variable {ρ:Operand->Value} {op:Operand->OF} {env:Env} {o:Oper}
theorem MR.length {ι:Inj}:∀ {es:List (AV×AV)} {l:List MapEntry},MR ι es l->l.length=es.length
 |[],l,h=>by simp only[MR] at h;simp[h]
 |e :: es,l,h=>by
  simp only[MR] at h;obtain⟨x,xs,rfl,_,_,h3⟩:=h;simp[MR.length h3]
theorem GS {c:Call}(ho:o.op=.call c){b:Builtin}(hc:c.callee=.builtin b) :
  (execOp ρ o).run P w=(builtin b c.argTypes o.type (c.args.map λ| .const _=>true|_=>false) (c.args.map ρ)).run P w:=by
 simp only[execOp,ho,resolve,hc,invoke,Sem.run_bind,Sem.run_pure,Result.andThen_ok];try rfl
theorem je7 {x:Option AO}{f:List (AV×AV)->ER}{res:Result Next}(h:∀ es,x=some (.map es)->Res ι w st (f es) res):Res ι w st (Zz x f) res:=by
 cases x with
 |none=>trivial
 |some ob=>
  cases ob<;>try trivial
  exact h _ rfl
theorem jjk {t:TypeId}{x:Operand}{l:List TypeId}{ty:TypeId}(k:Sim ι st.h st.nx w)(hx:VR ι ((op x).run env) (ρ x)) :
  Res ι w st ((Yk P t (op x)).run env st) (((Builtin.len_ (t :: l).toArray ty #[ρ x]).run P w).andThen λv w'=>.ok (.value v) w'):=by
 unfold Yk;split<;>try trivial
 ·rename_i hu;try dsimp only
  generalize (op x).run env=vx at hx;cases vx<;>try trivial
  ·rename_i s;simp only[VR] at hx;obtain⟨bs,hpx,hbs⟩:=hx;simp only[jB,jO];refine Res.val k (x:=.int .i64 s.length) ?_ (by simp only[VR];rfl);simp[Builtin.len_,run_underlying hu,hpx,goInt,J0 hbs]
  ·rename_i n;simp only[VR] at hx;obtain⟨bs,hpx,hbs⟩:=hx;refine Res.val k (x:=.int .i64 n) ?_ (by simp only[VR];rfl);simp[Builtin.len_,run_underlying hu,hpx,goInt,hbs]
 ·rename_i n e hu;refine Res.val k (x:=.int .i64 n) ?_ (by simp only[VR];rfl);simp[Builtin.len_,run_underlying hu,goInt]
 ·rename_i e hu;try dsimp only
  generalize (op x).run env=vx at hx;cases vx<;>try trivial
  ·rename_i b off len cap sz ex;simp only[VR] at hx;obtain⟨hb,hlc,ad,C,hpx,hC,hex,had⟩:=hx;refine Res.val k (x:=.int .i64 len) ?_ (by simp only[VR];rfl);simp[Builtin.len_,run_underlying hu,hpx,goInt]
  ·simp only[VR] at hx;refine Res.val k (x:=.int .i64 (0:Nat)) ?_ (by simp only[VR];rfl);simp[Builtin.len_,run_underlying hu,hx,goInt]
  ·rename_i n cs;simp only[VR] at hx;obtain⟨p,C,hpx,hC,_⟩:=hx;refine Res.val k (x:=.int .i64 n) ?_ (by simp only[VR];rfl);simp[Builtin.len_,run_underlying hu,hpx,goInt]
 ·rename_i kt e hu;try dsimp only
  generalize (op x).run env=vx at hx;cases vx<;>try trivial
  ·rename_i r;simp only[VR] at hx;obtain⟨hb,R,hpx,hR⟩:=hx;refine je7 λes hg=>?_
   ·simp only[jB,jO];obtain⟨B,S,ens,clock,e1,hw,hmr⟩:=k.map hb hg;have hRB:=hR B S e1;subst hRB;refine Res.val k (x:=.int .i64 es.length) ?_ (by simp only[VR];rfl);have hlen:=hmr.length;rw[Qai] at hlen;simp[Builtin.len_,run_underlying hu,hpx,goInt,Yu hw (λ_ _ _ h=>by cases h),hlen]
  ·simp only[VR] at hx;refine Res.val k (x:=.int .i64 (0:Nat)) ?_ (by simp only[VR];rfl);simp[Builtin.len_,run_underlying hu,hx,goInt]
theorem jjN {t:TypeId}{x:Operand}{l:List TypeId}{ty:TypeId}(k:Sim ι st.h st.nx w)(hx:VR ι ((op x).run env) (ρ x)) :
  Res ι w st ((ug P t (op x)).run env st) (((Builtin.cap_ (t :: l).toArray ty #[ρ x]).run P w).andThen λv w'=>.ok (.value v) w'):=by
 unfold ug;split<;>try trivial
 rename_i e hu;try dsimp only
 generalize (op x).run env=vx at hx;cases vx<;>try trivial
 ·rename_i b off len cap sz ex;cases ex<;>try trivial
  simp only[VR] at hx;obtain⟨hb,hlc,ad,C,hpx,hC,hex,had⟩:=hx;have:=hex (by simp);subst this;refine Res.val k (x:=.int .i64 C) ?_ (by simp only[VR];rfl);simp[Builtin.cap_,run_underlying hu,hpx,goInt]
 ·simp only[VR] at hx;refine Res.val k (x:=.int .i64 (0:Nat)) ?_ (by simp only[VR];rfl);simp[Builtin.cap_,run_underlying hu,hx,goInt]
theorem jht {x y z:AV}{u v:Value}(hx:VR ι x u)(hy:VR ι y v)(h:Ev.min2 x y=some z):∃ r,(Builtin.min2 u v).run P w=.ok r w/\VR ι z r:=by
 unfold Ev.min2 at h;split at h<;>try(cases h;done)
 rename_i k a k' b;generalize hk:eqK k k'=kk at h;cases kk
 ·cases h
 ·have:=Zn hk;subst this;simp only[cond,Option.some.injEq,Qx] at h;simp only[VR] at hx hy;subst hx;subst hy;subst h;refine⟨.int k (if b<a then b else a),by simp[Builtin.min2],?_⟩;simp only[VR];by_cases hb:b<a<;>simp[hb]
theorem jhw {x y z:AV}{u v:Value}(hx:VR ι x u)(hy:VR ι y v)(h:Ev.max2 x y=some z):∃ r,(Builtin.max2 u v).run P w=.ok r w/\VR ι z r:=by
 unfold Ev.max2 at h;split at h<;>try(cases h;done)
 rename_i k a k' b;generalize hk:eqK k k'=kk at h;cases kk
 ·cases h
 ·have:=Zn hk;subst this;simp only[cond,Option.some.injEq,Qx] at h;simp only[VR] at hx hy;subst hx;subst hy;subst h;refine⟨.int k (if b > a then b else a),by simp[Builtin.max2],?_⟩;simp only[VR];by_cases hb:a<b<;>simp[hb]
theorem UE {f:AV->AV->Option AV}{g:Value->Value->Sem Value}(hfg:∀ x y z u v,VR ι x u->VR ι y v->f x y=some z->∃ r,(g u v).run P w=.ok r w/\VR ι z r) :
  ∀ (l:List AV) (l':List Value) (x z:AV) (u:Value),VR ι x u->VRs ι l l'->JY f x l=some z->∃ r,(l'.foldlM g u).run P w=.ok r w/\VR ι z r
 |[],l',x,z,u,hx,hl,h=>by
  simp only[VRs] at hl;subst hl;simp only[JY,Option.some.injEq] at h;subst h;exact⟨u,by simp,hx⟩
 |y :: l,l0,x,z,u,hx,hl,h=>by
  simp only[VRs] at hl;obtain⟨v,l',rfl,hy,hl'⟩:=hl;simp only[JY] at h;cases hf:f x y with
  |none=>simp[hf] at h
  |some q=>
   simp only[hf,QaK] at h;obtain⟨r,h1,h2⟩:=hfg x y q u v hx hy hf;obtain⟨r',h3,h4⟩:=UE hfg l l' q z r h2 hl' h;exact⟨r',by simp[List.foldlM_cons,h1,h3],h4⟩
theorem Wy {v:AV}{x:Value}(hv:VR ι v x){f:Nat->ER}{res:Result Next}(h:∀ n,(∀ w',(Builtin.lenOf x).run P w'=.ok n w')->Res ι w st (f n) res):Res ι w st (JD v f) res:=by
 unfold JD;split<;>try trivial
 ·simp only[VR] at hv;obtain⟨hb,hlc,ad,C,rfl,hC,hex,had⟩:=hv;exact h _ λw'=>by simp[Builtin.lenOf]
 ·simp only[VR] at hv;subst hv;exact h _ λw'=>by simp[Builtin.lenOf]
 ·simp only[VR] at hv;obtain⟨p,C,rfl,_⟩:=hv;exact h _ λw'=>by simp[Builtin.lenOf]
 ·simp only[VR] at hv;obtain⟨bs,rfl,hbs⟩:=hv;rw[jB,jO];exact h _ λw'=>by simp[Builtin.lenOf,J0 hbs]
theorem Ym (k:Sim ι st.h st.nx w){v:AV}{x:Value}(hv:VR ι v x){size n:Nat}{f:List AV->ER}{res:Result Next}(hn:∃ m,(Builtin.lenOf x).run P w=.ok m w/\n<=m)
  (h:∀ cells (vs:Array Value),(Builtin.firstCells size n x).run P w=.ok vs w->(Builtin.firstCells size n x).run P w.drew=.ok vs w.drew->VRs ι cells vs.toList->cells.all AV.cell=true->(n=0->vs = #[])->Res ι w st (f cells) res) :
  Res ι w st (Ev.firstCells st size n v f) res:=by
 obtain⟨m0,hm0,hnm⟩:=hn;unfold Ev.firstCells;split<;>try trivial
 ·rename_i b off len cap sz ex;simp only[VR] at hv;obtain⟨hb,hlc,ad,C,rfl,hC,hex,had⟩:=hv;refine wO λm zl z cs hg=>?_;rw[jB];refine jJ λhle=>?_;rw[qe] at hle;obtain⟨B,S,c,elem,lo,hi,e',hw,_⟩:=k.row hb hg;obtain⟨vs,hrun,hvs,hlen,hcells⟩:=ZI (P:=P) k hb hg e' hle;obtain⟨vs2,hrun2,hvs2,hlen2,hcells2⟩:=ZI (P:=P) (w:=w.drew) k.drew hb hg e' hle;have e12:vs2=vs:=by
   apply List.ext_getElem?;intro j;cases h1:vs[j]? with
   |none=>
    rw[List.getElem?_eq_none_iff] at h1 ⊢;omega
   |some u=>
    have hj:j<vs2.length:=by rw[List.getElem?_eq_some_iff] at h1;obtain⟨h2,_⟩:=h1;omega
    have h3:=hcells2 j _ (Qaj hj);have h4:=hcells j u h1;have h5:w.drew.cell? ((⟨B,off,none⟩:Addr).add j)=w.cell? ((⟨B,off,none⟩:Addr).add j):=rfl;rw[h5,h4] at h3;rw[Qaj hj];exact h3.symm
  subst e12;have hall:=(JK k hb hg hle).1;have hadr:(loadCells ad (Qcf n size)).run P w=.ok vs2.toArray w/\(loadCells ad (Qcf n size)).run P w.drew=.ok vs2.toArray w.drew:=by
   rcases (had B S e').1 with h0|h0
   ·have hn0:n=0:=by
     simp only[Builtin.lenOf,Sem.run_pure,Result.ok.injEq] at hm0;omega
    subst hn0;have:Qcf 0 size=0:=Qba size;rw[this] at hlen ⊢;rw[QaQ hlen];constructor<;>simp[loadCells,loadCellsFrom]
   ·rw[h0];exact⟨hrun,hrun2⟩
  exact h _ vs2.toArray (by simpa[Builtin.firstCells] using hadr.1) (by simpa[Builtin.firstCells] using hadr.2) hvs hall (λh0=>by subst h0;have:Qcf 0 size=0:=Qba size;rw[this] at hlen;rw[QaQ hlen])
 ·simp only[VR] at hv;subst hv;exact h [] #[] (by simp[Builtin.firstCells]) (by simp[Builtin.firstCells]) (by simp[VRs]) rfl (λ_=>rfl)
 ·rename_i len cs;simp only[VR] at hv;obtain⟨p,C,rfl,hC,e0,hl⟩:=hv;refine jJ λhle=>?_;rw[qe,jO] at hle;have hle':n * size<=cs.length:=hle;rw[q8];simp only[Builtin.lenOf,Sem.run_pure,Result.ok.injEq] at hm0;rcases Nat.eq_zero_or_pos n with h0|h0
  ·subst h0;have h1:Qcf 0 size=0:=Qba size;rw[h1,Qbf];refine h [] #[] ?_ ?_ (by simp[VRs]) rfl (λ_=>rfl)<;>(cases p<;>simp[Builtin.firstCells,loadCells,loadCellsFrom])
  ·obtain⟨B,o,vs,rfl,e2,e3,e4⟩:=hl om;have hF:=k.glob.2 B vs e2;have hr1:=w8 (P:=P) (o:=o) (n:=n * size) hF om;have hr2:=w8 (P:=P) (o:=o) (n:=n * size) (k.drew.glob.2 B vs e2) om;refine h _ ((vs.drop o).take (n * size)).toArray (by simpa[Builtin.firstCells] using hr1) (by simpa[Builtin.firstCells] using hr2) ?_ (vq e0 _) (λh1=>by omega);have:=e4.back.take (n * size);rw[Qbs,Qbd hle'] at this;exact this
 ·rename_i s;simp only[VR] at hv;obtain⟨bs,rfl,hbs⟩:=hv;have he:=vu hbs 0 n;refine h _ ((bs.extract 0 n).data.map λ(b:UInt8)=>Value.int .u8 b.toNat) (by simp[Builtin.firstCells]) (by simp[Builtin.firstCells]) ?_ ?_ ?_
  ·rw[ZY _ _ he,yE,q8];simp only[QaO,QaH];exact Hs _
  ·rw[yE,List.all_map,Qah];intro _ _;rfl
  ·intro h0;subst h0;apply Array.ext';rw[ZY _ _ he];simp
theorem Y5 (ι:Inj):VR ι qf undef:=by
 simp only[qf,undef,VR];exact⟨#[],rfl,by simp[VRs]⟩
theorem jbm {x:Value}{m:Nat}(size:Nat)(h:(Builtin.lenOf x).run P w=.ok m w):∃ vs,(Builtin.firstCells size 0 x).run P w=.ok vs w:=by
 cases x;case string bs=>exact⟨_,by simp only[Builtin.firstCells,Sem.run_pure];rfl⟩
 case slice a l c=>
  cases a with
  |none=>exact⟨#[],by simp[Builtin.firstCells]⟩
  |some a=>exact⟨#[],by simp[Builtin.firstCells,loadCells,loadCellsFrom]⟩
 all_goals
  simp[Builtin.lenOf,stuck,Sem.run] at h
theorem jhL {t:TypeId}{d x:Operand}{l:List TypeId}{ty:TypeId}(k:Sim ι st.h st.nx w)(hd:VR ι ((op d).run env) (ρ d))(hx:VR ι ((op x).run env) (ρ x)) :
  Res ι w st ((vh P t (op d) (op x)).run env st) (((Builtin.copy_ (t :: l).toArray ty #[ρ d,ρ x]).run P w).andThen λv w'=>.ok (.value v) w'):=by
 unfold vh;split<;>try trivial
 rename_i e he;have hu:=uU he;split<;>try trivial
 rename_i size hs;obtain⟨i,hi,hsi⟩:=y7 hs;try dsimp only
 refine Wy (P:=P) hx λn0 hn0=>?_;generalize hvd:(op d).run env=vd at hd;cases vd<;>try trivial
 ·rename_i b off dl cap sz ex;simp only[VR] at hd;obtain⟨hb,hlc,ad,C,hpd,hC,hex,had⟩:=hd;simp only[jB];have hmin:(cond (Qcd n0 dl) n0 dl)=Nat.min n0 dl:=by
   show _=min n0 dl;rw[Nat.min_def];cases h:Qcd n0 dl
   ·have:¬ n0<=dl:=λe=>by rw[<-qe,h] at e;cases e
    rw[if_neg this];rfl
   ·rw[qe] at h;rw[if_pos h];rfl
  rw[hmin];refine Ym (P:=P) k hx ⟨n0,hn0 w,Nat.min_le_left _ _⟩ λcells vs hf _ hvs hall hv0=>wO λm zl z cs hg=>jJ λhle=>?_;rw[qe,jO] at hle;have hle':off+cells.length<=m:=hle;rw[St.put_eq];obtain⟨B,S,c,elem,lo,hi',e1,hw,_⟩:=k.row hb hg;obtain⟨w',hr,hs',hf'⟩:=Wr (P:=P) (o:=off) k hb hg e1 hvs hall hle';have hst:(storeCells ad vs.toList).run P w=.ok () w':=by
   rcases (had B S e1).1 with h0|h0
   ·have hn:Nat.min n0 dl=0:=by have:Nat.min n0 dl<=dl:=Nat.min_le_right _ _;omega
    have hz:vs = #[]:=hv0 hn;subst hz;simp[storeCells] at hr ⊢;exact hr
   ·rw[h0];exact hr
  refine⟨ι,.int .i64 (Nat.min n0 dl:Nat),w',.inl ?_,Le.refl ι,(by simp only[VR];rfl),hs',hf',Cleanly.put ι st b _ (k.born b hb),rfl⟩;simp only[Builtin.copy_];simp[run_underlying hu,hpd,hn0,j6 hi,hsi,hf,hst,goInt]
 ·simp only[VR] at hd;refine Res.val k (x:=.int .i64 (0:Nat)) ?_ (by simp only[VR];rfl);obtain⟨vs,hv⟩:=jbm (P:=P) (w:=w) size (hn0 w);have hmin:n0.min 0=0:=Nat.min_zero n0;simp only[Builtin.copy_];simp[run_underlying hu,hd,hn0,j6 hi,hsi,hmin,hv,goInt]
end
section
variable {P:Program} {ι:Inj} {w:World} {st:St}
variable {ρ:Operand->Value} {op:Operand->OF} {env:Env} {o:Oper}
def jbX (P:Program)(w:World)(i:TypeInfo)(zv:Value)(u:TypeId)(x:Value)(n:Nat)(vs:Array Value):Prop:=
 (∃ d,P.underlying u=some d/\(d=.string\/∃ e,d=.slice e)/\(∀ w',(Builtin.lenOf x).run P w'=.ok n w')/\(Builtin.firstCells i.size n x).run P w=.ok vs w/\(Builtin.firstCells i.size n x).run P w.drew=.ok vs w.drew) \/
 (∃ k kk,P.underlying u=some (.int k)/\x=.int kk (Qaq n)/\n<=9223372036854775807/\n * i.bytes<=281474976710656/\vs=if n * i.size=0 then #[] else Builtin.zeroCells zv.cells n)
theorem Xm {t e u ty:TypeId}{l:List TypeId}{i:TypeInfo}{zv:Value}(ht:P.underlying t=some (.slice e))(hi:P.info? e=some i)(hz:i.zero=some zv)
  {x:Value} {n:Nat} {vs:Array Value} (ha:jbX P w i zv u x n vs) (base:Option Addr) (sLen sCap:Nat) (hroom:sLen+n<=sCap) :
  (Builtin.append_ (t :: u :: l).toArray ty #[.slice base sLen sCap,x]).run P w =
   ((match base with|some a=>(storeCells (a.add (sLen * i.size)) vs.toList)|none=>pure ()).run P w).andThen λ_ w'=>.ok (.slice base (sLen+n) sCap) w':=by
 rcases ha with ⟨d,hd,hnd,hlen,hf,_⟩|⟨k,kk,hd,rfl,h63,h48,rfl⟩
 ·rcases hnd with rfl|⟨e',rfl⟩
  all_goals
   simp[Builtin.append_,run_underlying ht,run_underlying hd,j6 hi,hlen,hroom,hf];cases base<;>simp
 ·have hw:IntKind.i64.wrap (n:Int)=n:=by rw[IntKind.wrap_i64];omega
  have h48':¬ (281474976710656:Int)<(n:Int) * (i.bytes:Int):=by
   have:((n * i.bytes:Nat):Int)<=281474976710656:=Int.ofNat_le.2 h48;rw[Int.natCast_mul] at this;omega
  have hneg:¬ (n:Int)<0:=om
  by_cases h0:n * i.size=0
  ·simp[Builtin.append_,run_underlying ht,run_underlying hd,j6 hi,Q9 hi,asInt,asIntOf,hw,hneg,h48',hroom,h0];cases base<;>simp
  ·simp[Builtin.append_,run_underlying ht,run_underlying hd,j6 hi,Q9 hi,asInt,asIntOf,hw,hneg,h48',hroom,h0,zN hi hz];cases base<;>simp
theorem ZZ {t e u ty:TypeId}{l:List TypeId}{i:TypeInfo}{zv:Value}(ht:P.underlying t=some (.slice e))(hi:P.info? e=some i)(hz:i.zero=some zv)
  {x:Value} {n:Nat} {vs old:Array Value} (ha:jbX P w i zv u x n vs) (base:Option Addr) (sLen sCap:Nat) (hroom:¬ sLen+n<=sCap) (hc:sLen<=sCap)
  (h47:(sLen+n) * i.bytes<=140737488355328) (h63:sLen+n<=9223372036854775807) (hold:(Builtin.firstCells i.size sLen (.slice base sLen sCap)).run P w.drew=.ok old w.drew)
  {C:Nat} (hC:(Question.appendCap (sLen+n) sCap e).cut (w.tape w.drawn (.appendCap (sLen+n) sCap e))=C) :
  (Builtin.append_ (t :: u :: l).toArray ty #[.slice base sLen sCap,x]).run P w =
   .ok (.slice (some ⟨w.heap.size,0,none⟩) (sLen+n) C) (w.drew.alloc (.cells (old ++ vs ++ Builtin.zeroCells zv.cells (C - (sLen+n))) e)):=by
 have hfit:Builtin.nextslicecap (sLen+n) sCap * i.bytes<=281474976710656:=growslice_fits om h47;have hfit':¬ 281474976710656<Builtin.nextslicecap (sLen+n) sCap * i.bytes:=om
 have h63':¬ (9223372036854775807<((sLen:Int)+(n:Int))):=om
 rcases ha with ⟨d,hd,hnd,hlen,_,hf⟩|⟨k,kk,hd,rfl,hn63,h48,rfl⟩
 ·rcases hnd with rfl|⟨e',rfl⟩
  all_goals
   simp[Builtin.append_,run_underlying ht,run_underlying hd,Go.sizeOf,typeInfo,zeroValue,hi,hz,hlen,hroom,h63',hfit',Question.forced,hf,hold,Go.newRow,hC]
 ·have hw:IntKind.i64.wrap (n:Int)=n:=by rw[IntKind.wrap_i64];omega
  have h48':¬ (281474976710656:Int)<(n:Int) * (i.bytes:Int):=by
   have:((n * i.bytes:Nat):Int)<=281474976710656:=Int.ofNat_le.2 h48;rw[Int.natCast_mul] at this;omega
  have hneg:¬ (n:Int)<0:=om
  by_cases h0:n * i.size=0
  ·simp[Builtin.append_,run_underlying ht,run_underlying hd,Go.sizeOf,typeInfo,zeroValue,hi,hz,asInt,asIntOf,hw,hneg,h48',hroom,h63',hfit',Question.forced,hold,Go.newRow,hC,h0]
  ·simp[Builtin.append_,run_underlying ht,run_underlying hd,Go.sizeOf,typeInfo,zeroValue,hi,hz,asInt,asIntOf,hw,hneg,h48',hroom,h63',hfit',Question.forced,hold,Go.newRow,hC,h0]
end
section
variable {P:Program} {ι:Inj} {w:World} {st:St}
variable {ρ:Operand->Value} {op:Operand->OF} {env:Env} {o:Oper}
def Inj.kill (ι:Inj)(b:Nat):Inj:=⟨λc=>if c=b then .dead else ι c,ι.g⟩
theorem Le.kill (ι:Inj)(b:Nat):Le ι (ι.kill b):=⟨λc hc=>by
 by_cases h:c=b
 ·right;simp[Inj.kill,h]
 ·left;simp[Inj.kill,h],λ_ _ h=>h⟩
theorem YW {ι:Inj}{b c B S:Nat}(h:(ι.kill b) c=.at B S):ι c=.at B S/\c≠b:=by
 by_cases hc:c=b
 ·simp[Inj.kill,hc] at h
 ·exact⟨by simpa[Inj.kill,hc] using h,hc⟩
theorem Sim.kill {nx:Nat}{h:T AO}(k:Sim ι h nx w){b:Nat}(hb:b<nx):Sim (ι.kill b) ((jZ (jI b)).run .dead h) nx w/\Grew ι w (ι.kill b) w:=by
 have gr:Grew ι w (ι.kill b) w:=⟨rfl,rfl,rfl,φ _,λ_ _ _=>rfl,λc B S e=>.inl ⟨c,S,(YW e).1⟩,λ_ _ h=>.inl h⟩;refine⟨⟨?_,?_,?_,?_,k.glob.grew gr⟩,gr⟩
 ·intro c B S e;obtain⟨e1,hc⟩:=YW e;obtain⟨o',x',h1,h2,h3⟩:=k.obj c B S e1;exact⟨o',x',by rw[jV,if_neg hc];exact h1,h2,OR.mono (Le.kill ι b) _ _ h3⟩
 ·intro c e o' ho;by_cases hc:c=b
  ·rw[jV,if_pos hc] at ho;cases ho;rfl
  ·rw[jV,if_neg hc] at ho;exact k.gone c (by simpa[Inj.kill,hc] using e) o' ho
 ·intro c c' B S S' e e';exact k.inj c c' B S S' (YW e).1 (YW e').1
 ·intro c e;by_cases hc:c=b
  ·rw[hc];exact hb
  ·exact k.born c (by simpa[Inj.kill,hc] using e)
theorem Cleanly.kill {ι:Inj}{st:St}{b:Nat}(hb:ι b≠.unborn)(hlt:b<st.nx):Cleanly ι (ι.kill b) st ⟨st.nx,(jZ (jI b)).run .dead st.h,min st.dirty b,st.fr⟩:=by
 have h:=Cleanly.put ι st b .dead hlt;refine⟨h.nx,h.dirty,h.keep,h.above,λc _ hu=>?_,λc hu=>?_,λc h1 h2=>absurd h2 (Nat.not_lt.2 h1)⟩
 ·have:c≠b:=λe=>hb (by rw[<-e];exact hu);simp only[Inj.kill,if_neg this];exact hu
 ·simp only[Inj.kill];split<;>simp_all
theorem Sim.adopt {nx:Nat}{h:T AO}{w':World}(k:Sim ι h nx w){B S:Nat}(hfree:∀ c S',ι c≠.at B S')(hlt:B<w.heap.size)(o:AO)(x:Obj)(hx:OR (ι.add nx B S) S o x)
  (hB:w'.heap[B]? = some x) (hne:∀ j,j≠B->w'.heap[j]? = w.heap[j]?) (hgl:Gl (ι.add nx B S) w') :
  Sim (ι.add nx B S) ((jZ (jI nx)).run o h) (nx+1) w':=by
 have le:=Le.add (ι:=ι) k.born B S;refine⟨?_,?_,?_,?_,hgl⟩
 ·intro b B' T e;by_cases hb:b=nx
  ·subst hb;simp only[Inj.add,if_true] at e;cases e;exact⟨o,x,by rw[jV,if_pos rfl],hB,hx⟩
  ·have e':ι b=.at B' T:=by simpa[Inj.add,hb] using e
   obtain⟨o',x',h1,h2,h3⟩:=k.obj b B' T e';have:B'≠B:=λe=>hfree b T (by rw[<-e];exact e');exact⟨o',x',by rw[jV,if_neg hb];exact h1,by rw[hne B' this];exact h2,OR.mono le _ _ h3⟩
 ·intro b e o' ho;by_cases hb:b=nx
  ·subst hb;simp[Inj.add] at e
  ·have e':ι b=.dead:=by simpa[Inj.add,hb] using e
   rw[jV,if_neg hb] at ho;exact k.gone b e' o' ho
 ·intro b c B' S1 S2 e1 e2;by_cases hb:b=nx<;>by_cases hc:c=nx
  ·rw[hb,hc]
  ·subst hb;simp only[Inj.add,if_true] at e1;cases e1;exact absurd (by simpa[Inj.add,hc] using e2:ι c=.at B S2) (hfree c S2)
  ·subst hc;simp only[Inj.add,if_true] at e2;cases e2;exact absurd (by simpa[Inj.add,hb] using e1:ι b=.at B S1) (hfree b S1)
  ·exact k.inj b c B' S1 S2 (by simpa[Inj.add,hb] using e1) (by simpa[Inj.add,hc] using e2)
 ·intro b e;by_cases hb:b=nx
  ·omega
  ·have:=k.born b (by simpa[Inj.add,hb] using e);omega
theorem Hd {cells:List AV}{vs rest:List Value}(h:VRs ι cells vs)(hc:cells.all AV.cell=true)(elem:TypeId){S:Nat}(hS:S=vs.length+rest.length)
  {n zl:Nat} {z:List AV} {cs:T AV} (hn:n=cells.length) (hcell:∀ i,i<n->qv zl z cs i=cells.getD i .bad) :
  OR ι S (.row n zl z cs) (.cells (vs.toArray ++ rest.toArray) elem (0,0)):=by
 simp only[OR];have hl:=h.length;refine⟨_,elem,0,0,rfl,by simp[hS],om,om,λi hi=>?_⟩;have hi':i<cells.length:=om
 rw[hcell i hi];refine⟨Zp hc hi',vs.getD i undef,?_,h.get i hi'⟩;have:i<vs.length:=om
 rw[Array.getElem?_append_left (by simpa using this)];simp[Qac,Qaj this]
theorem jfN {cells:List AV}{vs rest:List Value}(h:VRs ι cells vs)(hc:cells.all AV.cell=true)(elem:TypeId){S:Nat}(hS:S=vs.length+rest.length) :
  OR ι S (.row cells.length cells.length cells .e) (.cells (vs.toArray ++ rest.toArray) elem (0,0)):=
 Hd h hc elem hS rfl λi hi=>by rw[yY,QH,Qbh hi];rfl
theorem Res.after {ι1:Inj}{st1:St}{r:ER}{res:Result Next}(hp:∀ v s,r≠.pn v s)(hl:Le ι ι1)(hg:Grew ι w ι1 w)(hc:Cleanly ι ι1 st st1)(hf:st1.fr=st.fr)(h:Res ι1 w st1 r res):Res ι w st r res:=by
 cases r with
 |no=>trivial
 |ok v st'=>
  obtain⟨ι',x,w',h1,h2,h3,h4,h5,h6,h7⟩:=h;exact⟨ι',x,w',h1,hl.trans h2,h3,h4,hg.trans h5,hc.trans h6,h7.trans hf⟩
 |pn v s=>exact absurd rfl (hp v s)
theorem Xp (z:Array Value)(n:Nat):(Builtin.zeroCells z n).size=n * z.size:=by simp[Builtin.zeroCells]
theorem WE (k:Sim ι st.h st.nx w){cells:List AV}{vs:Array Value}{zs:Array Value}{e:TypeId}{need C size:Nat}{res:Result Next}(hvs:VRs ι cells vs.toList)(hall:cells.all AV.cell=true)
  (hlen:cells.length=need * size) (hzs:zs.size=size) (hC:need<=C)
  (hr:res=.ok (.value (.slice (some ⟨w.heap.size,0,none⟩) need C)) (w.drew.alloc (.cells (vs ++ Builtin.zeroCells zs (C - need)) e))) :
  Res ι w st (.ok (.slice st.nx 0 need need size false) ⟨st.nx+1,(jZ (jI st.nx)).run (.row cells.length cells.length cells .e) st.h,st.dirty,st.fr⟩) res:=by
 refine Res.drew (λ_ _ h=>by cases h) ?_;have hl:=hvs.length;rw[Qai] at hl;have hS:C * size=vs.toList.length+(Builtin.zeroCells zs (C - need)).toList.length:=by
  rw[Qai,Qai,Xp,hl,hlen,hzs,<-QaC]
  congr 1
  omega
 refine Res.alloc (w:=w.drew) k.drew (S:=C * size) (x:=.cells (vs ++ Builtin.zeroCells zs (C - need)) e) ?_
  (Jw ι _ _ _ need C size need false (φ _) hC (λh=>by cases h) (λ_=>φ _)) hr
 have le:=Le.add (ι:=ι) k.born w.drew.heap.size (C * size);have:=jfN (rest:=(Builtin.zeroCells zs (C - need)).toList) (VRs.mono le _ _ hvs) hall e hS;simpa using this
theorem um {t e u ty:TypeId}{l:List TypeId}{i:TypeInfo}{zv:Value}(ht:P.underlying t=some (.slice e))(hi:P.info? e=some i)(hz:i.zero=some zv)(hzs:zv.cells.size=i.size)
  (k:Sim ι st.h st.nx w) {s:AV} {sv x:Value} (hs:VR ι s sv) {n:Nat} {news:List AV} {vs:Array Value} (ha:jbX P w i zv u x n vs) (hvs:VRs ι news vs.toList) (hall:news.all AV.cell=true) :
  Res ι w st (yo st i.size i.bytes s n news) (((Builtin.append_ (t :: u :: l).toArray ty #[sv,x]).run P w).andThen λv w'=>.ok (.value v) w'):=by
 unfold yo;refine jJ λhlen=>?_;rw[qD,jO] at hlen;have hlen':news.length=n * i.size:=hlen;split<;>try trivial
 ·
  simp only[VR] at hs;subst hs;refine Qc (λh0=>?_) (λh0=>?_)
  ·rw[qD] at h0;subst h0;refine Res.val k (x:=.slice none 0 0) ?_ (by simp only[VR]);rw[Xm ht hi hz ha none 0 0 (φ _)];simp
  ·have h0':n≠0:=λe=>by rw[<-qD,h0] at e;cases e
   refine jJ λh1=>jJ λh2=>?_;rw[qe] at h1 h2;have h1':n * i.bytes<=140737488355328:=h1;rw[jB,St.alloc_eq];have hC:n<=(Question.appendCap (0+n) 0 e).cut (w.tape w.drawn (.appendCap (0+n) 0 e)):=by have:=Xh (0+n) 0 e (w.tape w.drawn (.appendCap (0+n) 0 e));omega
   have:=ZZ (ty:=ty) (l:=l) ht hi hz ha none 0 0 om (φ _) (by rw[Qab];exact h1') om (old:=#[]) (by simp[Builtin.firstCells]) rfl;have hg:=WE (size:=i.size) (e:=e) k hvs hall hlen' hzs hC (res:=_) rfl;rw[hlen'] at hg;rw[this];simpa using hg
 ·rename_i b off sl cap sz ex;have hs0:=hs;simp only[VR] at hs;obtain⟨hb,hlc,ad,C,rfl,hC,hex,had⟩:=hs;rw[jB];refine wO λm zl zz cs hg=>?_;obtain⟨B,S,c,elem,lo,hi',e1,hw,hcs,hmS,hfr,hcell⟩:=k.row hb hg;obtain⟨had1,had2⟩:=had B S e1;refine Qc (λhroom=>?_) (λhroom=>?_)
  ·
   rw[qe] at hroom;have hroom':sl+n<=cap:=hroom;refine Qc (λh0=>?_) (λh0=>?_)
   ·rw[qD] at h0;subst h0;refine Res.val k (x:=.slice (some ad) sl C) ?_ hs0;have hv0:vs = #[]:=by
     have:=hvs.length;rw[hlen',Qba] at this;exact Array.toList_eq_nil_iff.1 (QaQ this)
    rw[Xm ht hi hz ha (some ad) sl C om];simp[hv0,storeCells]
   ·have h0':n≠0:=λe=>by rw[<-qD,h0] at e;cases e
    refine jJ λh1=>?_;rw[qe] at h1;have h1':off+(sl+n) * i.size<=m:=h1;rw[St.put_eq];have had1':ad=⟨B,off,none⟩:=by
     rcases had1 with h|h
     ·omega
     ·exact h
    have hsum:(sl+n) * i.size=sl * i.size+n * i.size:=QaC _ _ _;obtain⟨w',hr,hs',hf'⟩:=Wr (P:=P) (o:=off+sl * i.size) k hb hg e1 hvs hall om;refine⟨ι,.slice (some ad) (sl+n) C,w',.inl ?_,Le.refl ι,?_,hs',hf',Cleanly.put ι st b _ (k.born b hb),rfl⟩
    ·rw[Xm ht hi hz ha (some ad) sl C om];simp only[had1',yC];rw[hr];simp
    ·simp only[VR];refine⟨hb,hroom',ad,C,rfl,hC,hex,λB' S' e2=>?_⟩;rw[e1] at e2;cases e2;exact⟨had1,had2⟩
  ·have hroom':¬ sl+n<=cap:=λh=>by
    have:Qcd (Qce sl n) cap=true:=by rw[qe];exact h
    rw[this] at hroom;cases hroom
   refine jJ λh47=>jJ λh63=>?_;rw[qe] at h47 h63;have h47':(sl+n) * i.bytes<=140737488355328:=h47;have h63':sl+n<=9223372036854775807:=h63;have growth:∀ (kk:Sim ι st.h st.nx w),¬ sl+n<=C->off+sl * i.size<=m->
     ∃ olds:List Value,VRs ι (jN zl zz cs (sl * i.size) off) olds/\(jN zl zz cs (sl * i.size) off).all AV.cell=true/\(jN zl zz cs (sl * i.size) off).length=sl * i.size /\
      ((Builtin.append_ (t :: u :: l).toArray ty #[.slice (some ad) sl C,x]).run P w).andThen (λv w'=>.ok (.value v) w') =
       .ok (Next.value (.slice (some ⟨w.heap.size,0,none⟩) (sl+n) ((Question.appendCap (sl+n) C e).cut (w.tape w.drawn (.appendCap (sl+n) C e)))))
        (w.drew.alloc (.cells ((olds.toArray ++ vs) ++ Builtin.zeroCells zv.cells ((Question.appendCap (sl+n) C e).cut (w.tape w.drawn (.appendCap (sl+n) C e)) - (sl+n))) e)):=by
    intro _ hno hle;obtain⟨olds,hrun,hol,hlo,_⟩:=ZI (P:=P) (w:=w.drew) k.drew hb hg e1 hle;obtain⟨hall',hlen''⟩:=JK k hb hg hle;refine⟨olds,hol,hall',hlen'',?_⟩;have hold:(Builtin.firstCells i.size sl (.slice (some ad) sl C)).run P w.drew=.ok olds.toArray w.drew:=by
     rcases had1 with h|h
     ·have:sl=0:=om
      subst this;have h2:olds=[]:=by rw[Qba] at hlo;exact QaQ hlo
      subst h2;simp[Builtin.firstCells,loadCells,loadCellsFrom]
     ·rw[h];simpa[Builtin.firstCells] using hrun
    have:=ZZ (ty:=ty) (l:=l) ht hi hz ha (some ad) sl C hno om h47' h63' hold rfl;rw[this];simp
   cases ex
   ·
    simp only[cond];refine jJ λhsz=>jJ λho0=>jJ λhm=>?_;rw[qD] at hsz ho0 hm;subst hsz;subst ho0;have hm':sl * i.size=m:=hm;have hbn:b<st.nx:=k.born b hb;obtain⟨k1,g1⟩:=k.kill hbn;rw[St.put_eq,jB,St.alloc_eq];have hnew:∀ j,j<(sl+n) * i.size->qv zl zz (qh news cs m) j=if j<m then qv zl zz cs j else news.getD (j - m) .bad:=by
     intro j hj;rw[yO];have hsum:(sl+n) * i.size=sl * i.size+n * i.size:=QaC _ _ _;by_cases hjm:j<m
     ·rw[if_pos hjm,if_neg om]
     ·rw[if_neg hjm,if_pos om]
    by_cases hroomC:sl+n<=C
    ·have had1':ad=⟨B,0,none⟩:=by
      rcases had1 with h|h
      ·omega
      ·exact h
     have hS:=had2 rfl;have hle2:(sl+n) * i.size<=C * i.size:=QaT _ hroomC;have hsum:(sl+n) * i.size=sl * i.size+n * i.size:=QaC _ _ _;have hvl:=hvs.length;have h1:∀ v∈vs.toList,v.oneCell'=true:=by
      intro v hv;obtain⟨q,hq,rfl⟩:=List.mem_iff_getElem.1 hv;have:=hvs.get q om;have h3:=VR.cell (Zp hall om) this;simpa[Qac,Qaj hq] using h3
     obtain⟨w',c',hr,hB',hs',hc',hne,hos,htp,hou,hsz'⟩:=Xu (P:=P) (o:=sl * i.size) vs.toList 0 w c hw om om h1;have hfree:∀ c S',(ι.kill b) c≠.at B S':=λc2 S' e2=>by
      obtain⟨e3,e4⟩:=YW e2;exact e4 (k.inj c2 b B S' S e3 e1)
     have le:=(Le.kill ι b).trans (Le.add (ι:=ι.kill b) k1.born B S);have gr:Grew ι w ((ι.kill b).add st.nx B S) w':=by
      refine⟨hos,htp,hou,om,λj _ hn=>hne j (λej=>hn b S (by rw[ej];exact e1)),λc2 B2 S2 e2=>?_,λ_ _ h=>.inl h⟩;by_cases hc2:c2=st.nx
      ·subst hc2;rw[QS] at e2;cases e2;exact .inl ⟨b,S,e1⟩
      ·have:(ι.kill b) c2=.at B2 S2:=by simpa[Inj.add,hc2] using e2
       exact .inl ⟨c2,S2,(YW this).1⟩
     have hsim:=k1.adopt (w':=w') (S:=S) hfree (k.lt e1) (.row ((sl+n) * i.size) zl zz (qh news cs m)) (.cells c' elem (lo,hi')) (by
      simp only[OR];refine⟨c',elem,lo,hi',rfl,om,om,om,λj hj=>?_⟩;rw[hnew j hj,hc' j];by_cases hjm:j<m
      ·rw[if_pos hjm,if_neg om];obtain⟨q1,v,q2,q3⟩:=hcell j hjm;exact⟨q1,v,q2,VR.mono le _ _ q3⟩
      ·rw[if_neg hjm,if_pos om];refine⟨Zp hall om,vs.toList.getD (j - m) undef,?_,VR.mono le _ _ (hvs.get (j - m) om)⟩;have:j - m<vs.toList.length:=om
       rw[show j - (sl * i.size+0)=j - m by omega];simp[Qac,Qaj this]) hB' hne (k.glob.grew gr)
     refine⟨(ι.kill b).add st.nx B S,.slice (some ad) (sl+n) C,w',.inl ?_,le,?_,hsim,?_,(Cleanly.kill hb hbn).trans (Cleanly.alloc (ι.kill b) ⟨st.nx,(jZ (jI b)).run .dead st.h,min st.dirty b,st.fr⟩ _ B S),rfl⟩
     ·rw[Xm ht hi hz ha (some ad) sl C hroomC];simp only[had1',yC,Qab];rw[hr];simp
     ·rw[had1'];exact Jw (ι.kill b) st.nx B S (sl+n) C i.size (sl+n) false (φ _) hroomC (λh=>by cases h) (λ_=>by omega)
     ·exact gr
    ·obtain⟨olds,hol,hall',hlen'',hrun⟩:=growth k hroomC om;rw[hrun];refine Res.after (λ_ _ h=>by cases h) (Le.kill ι b) g1 (Cleanly.kill hb hbn) rfl ?_;refine Res.drew (λ_ _ h=>by cases h) ?_;have le:=Le.kill ι b;have hCC:=Xh (sl+n) C e (w.tape w.drawn (.appendCap (sl+n) C e));generalize (Question.appendCap (sl+n) C e).cut (w.tape w.drawn (.appendCap (sl+n) C e))=D at hCC hrun ⊢;have hvl:=hvs.length;have hol':=hol.length;have hsum:(sl+n) * i.size=sl * i.size+n * i.size:=QaC _ _ _;have hS:D * i.size=(olds ++ vs.toList).length+(Builtin.zeroCells zv.cells (D - (sl+n))).toList.length:=by
      rw[Qag,Qai (xs:=Builtin.zeroCells zv.cells (D - (sl+n))),Xp,hol',hvl,hlen'',hlen',hzs,<-QaC,<-QaC]
      congr 1
      omega
     have le2:=Le.add (ι:=ι.kill b) k1.born w.drew.heap.size (D * i.size);refine Res.alloc (w:=w.drew) (st:=⟨st.nx,_,_,st.fr⟩) k1.drew (S:=D * i.size) (x:=.cells ((olds.toArray ++ vs) ++ Builtin.zeroCells zv.cells (D - (sl+n))) e) ?_
      (Jw (ι.kill b) _ _ _ (sl+n) D i.size (sl+n) false (φ _) hCC (λh=>by cases h) (λ_=>φ _)) rfl
     have hcells:VRs ((ι.kill b).add st.nx w.drew.heap.size (D * i.size)) (jN zl zz cs (sl * i.size) 0 ++ news) (olds ++ vs.toList):=VRs.mono (le.trans le2) _ _ (hol.append hvs);have:=Hd (rest:=(Builtin.zeroCells zv.cells (D - (sl+n))).toList) hcells (by rw[QbD,hall',hall];rfl) e hS (n:=(sl+n) * i.size) (zl:=zl) (z:=zz) (cs:=qh news cs m)
      (by rw[Qag,hlen'',hlen',hsum]) (λj hj=>by
       rw[hnew j hj];by_cases hjm:j<m
       ·rw[if_pos hjm];simp only[qr,Qab,Qac];rw[QbN (by simp;omega)];simp[show j<sl * i.size by omega]
       ·rw[if_neg hjm];simp only[Qac];rw[QbO (by rw[hlen''];omega),hlen'',hm'])
     have e2:(olds ++ vs.toList).toArray=olds.toArray ++ vs:=by apply Array.ext';simp
     rw[e2] at this;simpa using this
   ·simp only[cond];have hCe:=hex (by simp);subst hCe;rw[jB];refine jJ λhle=>?_;rw[qe] at hle;have hle':off+sl * i.size<=m:=hle;rw[jB,St.alloc_eq];obtain⟨olds,hol,hall',hlen'',hrun⟩:=growth k hroom' hle';rw[hrun];have hl3:(jN zl zz cs (sl * i.size) off ++ news).length=(sl+n) * i.size:=by rw[Qag,hlen'',hlen',QaC]
    have hg2:=WE (w:=w) (size:=i.size) (e:=e) k (cells:=jN zl zz cs (sl * i.size) off ++ news) (vs:=olds.toArray ++ vs) (zs:=zv.cells) (need:=sl+n)
     (by simpa using hol.append hvs) (by rw[QbD,hall',hall];rfl) hl3 hzs (Xh (sl+n) C e (w.tape w.drawn (.appendCap (sl+n) C e))) rfl
    rw[hl3] at hg2;rw[yS];exact hg2
 ·
  rename_i sl cs;simp only[VR] at hs;obtain⟨p,rfl,e0,hl⟩:=hs;refine Qc (λ_=>trivial) (λh0=>?_);have h0':n≠0:=λe=>by rw[<-qD,h0] at e;cases e
  rw[jB];refine jJ λh1=>jJ λh2=>jJ λh3=>?_;rw[qe] at h1 h2 h3;rw[jO] at h3;have h1':(sl+n) * i.bytes<=140737488355328:=h1;have h2':sl+n<=9223372036854775807:=h2;have h3':sl * i.size<=cs.length:=h3;rw[jB,St.alloc_eq,yS,q8];have hold:∃ olds:List Value,VRs ι (cs.take (sl * i.size)) olds/\(Builtin.firstCells i.size sl (.slice p sl sl)).run P w.drew=.ok olds.toArray w.drew:=by
   rcases Nat.eq_zero_or_pos sl with h4|h4
   ·subst h4;refine⟨[],by rw[Qba,Qbf];simp[VRs],?_⟩;cases p<;>simp[Builtin.firstCells,loadCells,loadCellsFrom]
   ·obtain⟨B,o,vs',rfl,e2,e3,e4⟩:=hl h4;clear hl;have hr2:=w8 (P:=P) (o:=o) (n:=sl * i.size) (k.drew.glob.2 B vs' e2) om;refine⟨_,?_,by simpa[Builtin.firstCells] using hr2⟩;have:=e4.back.take (sl * i.size);rw[Qbs,Qbd h3'] at this;exact this
  obtain⟨olds,hol,hrun⟩:=hold;have hC:=Xh (sl+n) sl e (w.tape w.drawn (.appendCap (sl+n) sl e));have hg:=ZZ (ty:=ty) (l:=l) ht hi hz ha p sl sl om (φ _) h1' h2' hrun rfl;have hlen2:(cs.take (sl * i.size) ++ news).length=(sl+n) * i.size:=by
   rw[Qag,Qav,hlen',Qbd h3',QaC]
  have h9:=WE (size:=i.size) (e:=e) k (cells:=cs.take (sl * i.size) ++ news) (vs:=olds.toArray ++ vs) (by simpa using hol.append hvs) (by rw[QbD,vq e0,hall];rfl) hlen2 hzs hC (res:=_) rfl;rw[hlen2] at h9;rw[hg];simpa using h9
end
section
variable {P:Program} {ι:Inj} {w:World} {st:St}
variable {ρ:Operand->Value} {op:Operand->OF} {env:Env} {o:Oper}
theorem Vf {z:List AV}(h:z.all AV.cell=true):∀ n,(yQ z n).all AV.cell=true
 |0=>rfl
 |n+1=>by
  show(y6 z (yQ z n)).all AV.cell=true;rw[yS,QbD,h,Vf h n];rfl
theorem jbR {t u ty:TypeId}{l:List TypeId}{s x:Operand}(k:Sim ι st.h st.nx w)(hs:VR ι ((op s).run env) (ρ s))(hx:VR ι ((op x).run env) (ρ x)) :
  Res ι w st ((JQ P t u (op s) (op x)).run env st) (((Builtin.append_ (t :: u :: l).toArray ty #[ρ s,ρ x]).run P w).andThen λv w'=>.ok (.value v) w'):=by
 unfold JQ;split<;>try trivial
 rename_i e he;have ht:=uU he;split<;>try trivial
 rename_i i z hi hz;obtain⟨i',zv,hi',hzv,hr⟩:=YN hz ι;rw[hi] at hi';cases hi';generalize hcc:cond (lall AV.cell z) (Qcb (jM z) i.size) false=cc;cases cc<;>try trivial
 have hcell:z.all AV.cell=true/\z.length=i.size:=by
  cases hh:lall AV.cell z
  ·rw[hh] at hcc;cases hcc
  ·rw[hh] at hcc;simp only[cond] at hcc;rw[qD,jO] at hcc;rw[Jn] at hh;exact⟨hh,hcc⟩
 have hzs:zv.cells.size=i.size:=by have:=hr.length;rw[Qai] at this;omega
 simp only[cond];split<;>try trivial
 ·rename_i k0 hu;refine zj hx λkk n hn=>jJ λh1=>jJ λh2=>?_;rw[qe] at h1 h2;have hrep:VRs ι (yQ z n) (Builtin.zeroCells zv.cells n).toList:=by
   have:Builtin.zeroCells zv.cells n=madeCells zv.cells (n * zv.cells.size):=rfl;rw[this,gK];exact vH hr n
  refine um ht hi hzv hzs k hs (vs:=if n * i.size=0 then #[] else Builtin.zeroCells zv.cells n) (.inr ⟨k0,kk,hu,hn,h2,h1,rfl⟩) ?_ (Vf hcell.1 n);by_cases h0:n * i.size=0
  ·rw[if_pos h0];have h3:=hrep.length;rw[Qai,Xp,hzs,h0] at h3;have h4:yQ z n=[]:=QaQ h3.symm;rw[h4];simp[VRs]
  ·rw[if_neg h0];exact hrep
 ·rename_i e' hu;refine Wy (P:=P) hx λn hn=>Ym (P:=P) k hx ⟨n,hn w,φ _⟩ λcells vs hf hf' hvs hall _=>?_;exact um ht hi hzv hzs k hs (.inl ⟨_,hu,.inr ⟨_,rfl⟩,hn,hf,hf'⟩) hvs hall
 ·rename_i hu;refine Wy (P:=P) hx λn hn=>Ym (P:=P) k hx ⟨n,hn w,φ _⟩ λcells vs hf hf' hvs hall _=>?_;exact um ht hi hzv hzs k hs (.inl ⟨_,hu,.inl rfl,hn,hf,hf'⟩) hvs hall
def KA (b:Builtin):Bool:=match b with | .recover=>false|_=>true
theorem jgL (x:Operand)(l:List Operand)(hx:∀ y∈l,VR ι ((op y).run env) (ρ y)):VRs ι (yb (λx:OF=>x.run env) (l.map op)) (l.map ρ):=by
 rw[yE,QaP];exact VRs.map_of l hx
theorem jbK {b:Builtin}(hb:KA b=true){ts:Array TypeId}{ty:TypeId}{cs:Array Bool}{args:Array Operand}(k:Sim ι st.h st.nx w)(hx:∀ x∈args.toList,VR ι ((op x).run env) (ρ x)) :
  Res ι w st ((qw P b ts (yb op args.toList)).run env st) ((Go.builtin b ts ty cs (args.map ρ)).run P w):=by
 rw[yE];obtain⟨args⟩:=args;obtain⟨ts⟩:=ts;simp only at hx;unfold qw;split
 all_goals try trivial
 ·rename_i x t _ heq ht
  match args,heq with
  |[y],heq=>
   simp only[ν,ξ,List.cons.injEq,and_true] at heq;subst heq;simp only at ht;subst ht;simp only[Go.builtin,Sem.run_bind,Sem.run_pure,Qbw,ν,ξ];exact jjk k (hx y (by simp))
 ·rename_i x t _ heq ht
  match args,heq with
  |[y],heq=>
   simp only[ν,ξ,List.cons.injEq,and_true] at heq;subst heq;simp only at ht;subst ht;simp only[Go.builtin,Sem.run_bind,Sem.run_pure,Qbw,ν,ξ];exact jjN k (hx y (by simp))
 ·rename_i s x t u _ heq ht
  match args,heq with
  |[y,y'],heq=>
   simp only[ν,ξ,List.cons.injEq,and_true] at heq;obtain⟨rfl,rfl⟩:=heq;simp only at ht;subst ht;simp only[Go.builtin,Sem.run_bind,Sem.run_pure,Qbw,ν,ξ];exact jbR k (hx y (by simp)) (hx y' (by simp))
 ·rename_i d x t _ heq ht
  match args,heq with
  |[y,y'],heq=>
   simp only[ν,ξ,List.cons.injEq,and_true] at heq;obtain⟨rfl,rfl⟩:=heq;simp only at ht;subst ht;simp only[Go.builtin,Sem.run_bind,Sem.run_pure,Qbw,ν,ξ];exact jhL k (hx y (by simp)) (hx y' (by simp))
 ·rename_i x l heq
  match args,heq with
  |y :: l',heq=>
   simp only[ν,List.cons.injEq] at heq;obtain⟨rfl,rfl⟩:=heq;refine qN λv hv=>?_;obtain⟨r,h1,h2⟩:=UE (P:=P) (w:=w) (f:=Ev.min2) (g:=Builtin.min2) (λx y z u v=>jht) _ _ _ _ _ (hx y (by simp)) (jgL (env:=env) (op:=op) (ρ:=ρ) y l' (λq hq=>hx q (by simp[hq]))) hv;refine Res.val k (x:=r) ?_ h2;simp only[Go.builtin,Sem.run_bind,Sem.run_pure,Qbw,ν,Builtin.min_,h1,Result.andThen_ok]
 ·rename_i x l heq
  match args,heq with
  |y :: l',heq=>
   simp only[ν,List.cons.injEq] at heq;obtain⟨rfl,rfl⟩:=heq;refine qN λv hv=>?_;obtain⟨r,h1,h2⟩:=UE (P:=P) (w:=w) (f:=Ev.max2) (g:=Builtin.max2) (λx y z u v=>jhw) _ _ _ _ _ (hx y (by simp)) (jgL (env:=env) (op:=op) (ρ:=ρ) y l' (λq hq=>hx q (by simp[hq]))) hv;refine Res.val k (x:=r) ?_ h2;simp only[Go.builtin,Sem.run_bind,Sem.run_pure,Qbw,ν,Builtin.max_,h1,Result.andThen_ok]
def Zq (o:Op):Bool:=
 match o with
 |.defer _=>false
 |.call c=>match c.callee with
  |.builtin b=>KA b
  |_=>false
 |_=>true
theorem jag (hc:Zq o.op=true)(k:Sim ι st.h st.nx w)(hx:∀ x∈o.op.operands.toList,VR ι ((op x).run env) (ρ x)) :
  Res ι w st ((jo P op o.op).run env st) ((execOp ρ o).run P w):=by
 cases ho:o.op<;>rw[ho] at hc hx<;>simp only[Op.operands] at hx;case move x=>exact kK (.inl ho) k (hx x (by simp))
 case assign x=>exact kK (.inr ho) k (hx x (by simp))
 case pick c a b=>exact jdA ho k (hx c (by simp)) (hx a (by simp)) (hx b (by simp))
 case alloc t=>exact jby ho k
 case box t x=>exact jfq ho k (hx x (by simp))
 case build t ps=>exact jbw ho k (λp hp=>hx p.2 (by simp;exact⟨p.1,by simpa using hp⟩))
 case buildSlice t n ps=>exact VE ho k (λp hp=>hx p.2 (by simp;exact⟨p.1,by simpa using hp⟩))
 case load t a=>exact jdC ho k (hx a (by simp))
 case store t a x=>exact jbq ho k (hx a (by simp)) (hx x (by simp))
 case nilCheck x=>exact Ka ho k (hx x (by simp))
 case binOp b t x y s=>exact jbx ho k (hx x (by simp)) (hx y (by simp))
 case unOp b t x=>exact jdz ho k (hx x (by simp))
 case convert s d x=>exact GA ho k (hx x (by simp))
 case makeInterface t x=>exact vZ ho k (hx x (by simp))
 case makeFunc f first caps=>
  cases f<;>try trivial
  exact Kb ho k (λx hxm=>hx x (by simp;right;exact hxm))
 case makeMap t r=>
  cases r<;>try trivial
  exact Gy ho k
 case makeSlice t l c=>exact UH ho k (hx l (by simp)) (hx c (by simp))
 case slice t x lo hi mx=>exact jbr ho k (hx x (by simp)) (λa ha=>hx a (by simp[ha])) (λa ha=>hx a (by simp[ha])) (λa ha=>hx a (by simp[ha]))
 case fieldAddr s x f=>exact UJ ho k (hx x (by simp))
 case field s x f=>exact jbv ho k (hx x (by simp))
 case indexAddr t x i=>exact UI ho k (hx x (by simp)) (hx i (by simp))
 case index t x i=>exact jbu ho k (hx x (by simp)) (hx i (by simp))
 case lookup t m x ok=>exact Hm ho k (hx m (by simp)) (hx x (by simp))
 case mapUpdate t m x y=>exact UG ho k (hx m (by simp)) (hx x (by simp)) (hx y (by simp))
 case range t x=>exact jbs ho k (hx x (by simp))
 case next it s=>
  cases s<;>try trivial
  exact jdB ho k (hx it (by simp))
 case typeAssert x s t ok=>
  cases ok<;>try trivial
  exact VD ho k (hx x (by simp))
 case panic x=>exact jbt ho k (hx x (by simp))
 case extract x i=>exact Gz ho k (hx x (by simp))
 case call c=>
  simp only[Zq] at hc;split at hc
  ·rename_i b hb;have:(jo P op (.call c))=qw P b c.argTypes (yb op c.args.toList):=by simp only[jo,hb]
   rw[this,GS ho hb];exact jbK hc k (λx hxm=>hx x (by simp[Call.operands,hb];simpa using hxm))
  ·cases hc
 case defer c=>cases hc
 all_goals trivial
end
def zh (t:T AV)(x:Nat):AV:=((JS (jI x)).run t).getD qf
def idx (x:Nat):List Nat->Option Nat
 |[]=>none
 |n :: ns=>if n=x then some 0 else(idx x ns).map (· + 1)
theorem UX (x:Nat):∀ (ns:List Nat) (k:Nat),
  (List.rec (motive:=λ_=>(Nat->Option OF)) (λ_=>none) (λn _ ih i=>cond (Qcb n x) (some ⟨λenv=>yr .bad env.rs i⟩) (ih (Qcc i))) ns k:Option OF)
   = (idx x ns).map λi=>⟨λenv=>yr .bad env.rs (k+i)⟩
 |[],k=>rfl
 |n :: ns,k=>by
  show cond (Qcb n x) _ _=_;simp only[idx];cases h:Qcb n x
  ·have:n≠x:=λe=>by rw[<-qD,h] at e;cases e
   rw[if_neg this];refine(UX x ns (Qcc k)).trans ?_;rw[Option.map_map]
   congr 1
   funext i
   simp only[Function.comp]
   congr 2
   funext env
   congr 1
   omega
  ·rw[qD] at h;rw[if_pos h];rfl
theorem Us (x:Nat)(ns:List Nat):jeW x ns=(idx x ns).map λi=>⟨λenv=>yr .bad env.rs i⟩:=by
 unfold jeW;rw[UX]
 congr 1
 funext i
 rw[Qab]
def DRs (ι:Inj):List (FuncId×List AV)->List Deferred->Prop
 |[],l=>l=[]
 |p :: ps,l=>∃ cap dargs ds,l={ target:=.fn (.func p.1) cap,args:=dargs } :: ds/\VRs ι p.2 (dargs ++ cap).toList/\DRs ι ps ds
theorem DRs.mono {ι ι':Inj}(h:Le ι ι'):∀ (ps:List (FuncId×List AV)) (l:List Deferred),DRs ι ps l->DRs ι' ps l
 |[],_,k=>k
 |p :: ps,l,k=>by
  simp only[DRs] at k ⊢;obtain⟨cap,dargs,ds,rfl,h1,h2⟩:=k;exact⟨cap,dargs,ds,rfl,VRs.mono h _ _ h1,DRs.mono h ps ds h2⟩
structure Rel (ι:Inj)(U N:Nat)(t:T AV)(ns:List Nat)(rs:List AV)(st:St)(a:Act)(w:World):Prop where
 sim:Sim ι st.h st.nx w
 size:N<=a.tmps.size
 env:∀ x,inU U x=true->idx x ns=none->VR ι (zh t x) (a.tmps.getD x undef)
 recs:∀ x i,idx x ns=some i->VR ι (rs.getD i .bad) (a.tmps.getD x undef)
 len:ns.length=rs.length
 ds:DRs ι st.fr a.defers
section
variable {P:Program} {ι:Inj} {w:World} {st:St} {U N:Nat} {t:T AV} {ns:List Nat} {rs:List AV} {a:Act}
theorem Rel.opd (r:Rel ι U N t ns rs st a w)(x:Operand):VR ι ((jL U ns x).run ⟨t,rs⟩) (a.eval x):=by
 cases x with
 |tmp x=>
  simp only[jL,Us];cases h:idx x ns with
  |some i=>
   simp only[Qat,zk];exact r.recs x i h
  |none=>
   simp only[QaS];cases hu:inU U x
   ·simp[VR]
   ·have:=r.env x hu h;simp only[cond,zh] at this ⊢;cases hg:(JS (jI x)).run t<;>rw[hg] at this<;>exact this
 |const v=>exact ww ι v
 |global g=>simp[jL,VR]
 |func f=>simp only[jL,VR,Act.eval];exact⟨#[],rfl,by simp[VRs]⟩
theorem Rel.mono (r:Rel ι U N t ns rs st a w){ι':Inj}(h:Le ι ι'){st':St}{w':World}(hs:Sim ι' st'.h st'.nx w')(hf:st'.fr=st.fr):Rel ι' U N t ns rs st' a w':=
 ⟨hs,r.size,λx hu hx=>VR.mono h _ _ (r.env x hu hx),λx i hx=>VR.mono h _ _ (r.recs x i hx),r.len,by rw[hf];exact DRs.mono h _ _ r.ds⟩
theorem uE (a:Act)(d:Nat)(v:Value)(x:Nat)(hd:d<a.tmps.size):(a.put (some d) v).tmps.getD x undef=if d=x then v else a.tmps.getD x undef:=by
 simp only[Act.put,QbE,Array.getElem?_setIfInBounds];by_cases h:d=x
 ·subst h;simp[hd]
 ·simp[h]
theorem gL (a:Act)(d:Option Nat)(v:Value):(a.put d v).tmps.size=a.tmps.size:=by
 cases d<;>simp[Act.put]
theorem Vh (a:Act)(d:Option Nat)(v:Value):(a.put d v).defers=a.defers:=by cases d<;>rfl
theorem Rel.put (r:Rel ι U N t ns rs st a w){d:Option Nat}(hd:∀ x,d=some x->x<N){v:AV}{y:Value}(hv:VR ι v y) :
  Rel ι U N t (qn d ns) ((yK d).run v rs) st (a.put d y) w:=by
 cases d with
 |none=>exact r
 |some d=>
  have hlt:d<a.tmps.size:=Qas (hd d rfl) r.size;refine⟨r.sim,by rw[gL];exact r.size,λx hu hx=>?_,λx i hx=>?_,by simp[qn,yK,r.len],by rw[Vh];exact r.ds⟩
  ·rw[uE a d y x hlt];simp only[qn,idx] at hx;split at hx
   ·cases hx
   ·rename_i hne;rw[if_neg hne];exact r.env x hu (by simpa using hx)
  ·rw[uE a d y x hlt];simp only[qn,idx] at hx;split at hx
   ·rename_i he;rw[if_pos he];simp only[Option.some.injEq] at hx;subst hx;exact hv
   ·rename_i hne;rw[if_neg hne,Qbu] at *;obtain⟨j,hj,rfl⟩:=hx;exact r.recs x j hj
theorem vY (U:Nat):∀ (ns:List Nat) (rs:List AV) (t:T AV),ns.length=rs.length->∀ x,inU U x=true->
  zh ((zt U ns).run rs t) x=match idx x ns with|some i=>rs.getD i .bad|none=>zh t x
 |[],rs,t,_,x,_=>rfl
 |n :: ns,[],t,h,x,_=>by simp at h
 |n :: ns,v :: rs,t,h,x,hx=>by
  have ih:=vY U ns rs t (by simpa using h) x hx;have e:(zt U (n :: ns)).run (v :: rs) t=cond (inU U n) ((jZ (jI n)).run v ((zt U ns).run rs t)) ((zt U ns).run rs t):=by
   show(LF.run (cond (inU U n) _ _)) _ _=_;cases inU U n<;>rfl
  rw[e];simp only[idx];by_cases hn:n=x
  ·subst hn;rw[hx,if_pos rfl];simp only[cond,zh,Q2,if_true,QaJ];rfl
  ·rw[if_neg hn];have h2:zh (cond (inU U n) ((jZ (jI n)).run v ((zt U ns).run rs t)) ((zt U ns).run rs t)) x=zh ((zt U ns).run rs t) x:=by
    cases inU U n
    ·rfl
    ·simp only[cond,zh,Q2,if_neg (λe=>hn e.symm:¬ x=n)]
   rw[h2,ih];cases idx x ns<;>rfl
theorem Rel.flush (r:Rel ι U N t ns rs st a w):Rel ι U N ((zt U ns).run rs t) [] [] st a w:=by
 refine⟨r.sim,r.size,λx hu _=>?_,λx i hx=>by simp[idx] at hx,rfl,r.ds⟩;rw[vY U ns rs t r.len x hu];cases h:idx x ns with
 |none=>exact r.env x hu h
 |some i=>exact r.recs x i h
def wpO (P:Program)(ops:Array Oper)(Q:Exit->Act->World->Prop):List Nat->Act->World->Prop
 |[],a,w=>Q .normal a w
 |i :: rest,a,w=>
  match ops[i]? with
  |none=>wpO P ops Q rest a w
  |some o=>if Region.wanted o (yielded ops a.tmps) then o.wp P a w (wpO P ops Q rest) Q else wpO P ops Q rest (a.put o.dst undef) w
theorem wB {ops:Array Oper}{Q:Exit->Act->World->Prop}:∀ (l:List Nat) (a:Act) (w:World),wpO P ops Q l a w->wpOps P ops Q l a w
 |[],a,w,h=>h
 |i :: l,a,w,h=>by
  simp only[wpO] at h;simp only[wpOps];split
  ·rename_i ho;rw[ho] at h;exact wB l a w h
  ·rename_i o ho;simp only[ho] at h;split
   ·rename_i hw;simp only[hw,if_true] at h;exact .inl (Oper.wp_mono (λa w=>wB l a w) h)
   ·rename_i hw;simp only[hw,if_false] at h;exact wB l _ w h
def Enters (P : Program) (f : FuncId) : Prop := ∃ fn, P.funcs[f]? = some fn ∧ fn.body.isSome = true ∧ (fn.name == "runtime.NumGoroutine") = false
def zH (ι:Inj)(w:World)(st st':St)(v:AV)(x:Value)(w':World):Prop:=
 ∃ ι',Le ι ι'/\VR ι' v x/\Sim ι' st'.h st'.nx w'/\Grew ι w ι' w'/\Cleanly ι ι' st st'
def zS (P:Program)(call:qx):Prop:=
 ∀ (f:FuncId) (args:List AV) (st:St) (ι:Inj) (w:World) (vs:Array Value),Sim ι st.h st.nx w->VRs ι args vs.toList->
  match call f args st with
  |.no=>True
  |.ok v st'=>Enters P f/\Calls P f vs w λe w'=>∃ x,e=.returned x/\zH ι w st st' v x w'
  |.pn v st'=>Enters P f/\Calls P f vs w λe w'=>∃ x,e=.panicked [{ v:=x,recovered:=false }]/\zH ι w st st' v x w'
def Post (ι:Inj)(U N:Nat)(w:World)(st:St)(r:R)(Q:Exit->Act->World->Prop):Prop:=
 match r with
 |.no=>False
 |.go t' st'=>∀ ι' a' w',Le ι ι'->Rel ι' U N t' [] [] st' a' w'->Grew ι w ι' w'->Cleanly ι ι' st st'->Q .normal a' w'
 |.ex id t' st'=>∀ ι' a' w',Le ι ι'->Rel ι' U N t' [] [] st' a' w'->Grew ι w ι' w'->Cleanly ι ι' st st'->Q (.exit id) a' w'
 |.rt t' st'=>∀ ι' a' w',Le ι ι'->Rel ι' U N t' [] [] st' a' w'->Grew ι w ι' w'->Cleanly ι ι' st st'->Q .ret a' w'
 |.pn v t' st'=>∀ ι' a' w' x,Le ι ι'->Rel ι' U N t' [] [] st' a' w'->Grew ι w ι' w'->Cleanly ι ι' st st'->VR ι' v x->Q (.panic [{ v:=x,recovered:=false }]) a' w'
theorem Post.step {ι':Inj}{w':World}{st':St}{r:R}{Q:Exit->Act->World->Prop}(hl:Le ι ι')(hg:Grew ι w ι' w')(hc:Cleanly ι ι' st st')(h:Post ι U N w st r Q):Post ι' U N w' st' r Q:=by
 cases r with
 |no=>exact h
 |go t s=>exact λι2 a2 w2 l2 r2 g2 c2=>h ι2 a2 w2 (hl.trans l2) r2 (hg.trans g2) (hc.trans c2)
 |ex i t s=>exact λι2 a2 w2 l2 r2 g2 c2=>h ι2 a2 w2 (hl.trans l2) r2 (hg.trans g2) (hc.trans c2)
 |rt t s=>exact λι2 a2 w2 l2 r2 g2 c2=>h ι2 a2 w2 (hl.trans l2) r2 (hg.trans g2) (hc.trans c2)
 |pn v t s=>exact λι2 a2 w2 x l2 r2 g2 c2 hv=>h ι2 a2 w2 x (hl.trans l2) r2 (hg.trans g2) (hc.trans c2) hv
theorem vj {o:Oper}{c:Call}{ff:Operand}(ho:o.op=.call c)(hc:c.callee=.value ff){f:FuncId}{cv:Array Value}(hf:a.eval ff=.func (.func f) #[] cv)(he:Enters P f) :
  (execOp a.eval o).run P w=.ok (.enter f ((c.args.map a.eval) ++ cv)) w:=by
 obtain⟨fn,h1,h2,h3⟩:=he;have h2':fn.body.isNone=false:=by cases hb:fn.body<;>simp[hb] at h2 ⊢
 simp only[execOp,ho,resolve,hc,hf,Deferred.ofValue,Sem.run_bind,Sem.run_pure,Result.andThen_ok,invoke,callFunc,run_program,h1,h3,h2'];simp
theorem jdM {o:Oper}{c:Call}{ff:Operand}(ho:o.op=.defer c)(hc:c.callee=.value ff){f:FuncId}{cv:Array Value}(hf:a.eval ff=.func (.func f) #[] cv) :
  (execOp a.eval o).run P w=.ok (.defer { target:=.fn (.func f) cv,args:=c.args.map a.eval }) w:=by
 simp only[execOp,ho,resolve,hc,hf,Deferred.ofValue,Sem.run_bind,Sem.run_pure,Result.andThen_ok];simp
theorem jhc {call:qx}(hcall:zS P call)(r:Rel ι U N t ns rs st a w){o:Oper}(hd:∀ x,o.dst=some x->x<N){next:RF}{n:Nat}{K:Act->World->Prop}{Q:Exit->Act->World->Prop}
  (hp:Post ι U N w st ((XY P (jL U ns) (zt U ns) o next).run call n t rs st) Q)
  (hk:∀ ι' rs' st' a' w',Le ι ι'->Grew ι w ι' w'->Cleanly ι ι' st st'->Rel ι' U N t (qn o.dst ns) rs' st' a' w'->
   Post ι' U N w' st' (next.run call n t rs' st') Q->K a' w') :
  o.wp P a w K Q:=by
 unfold XY at hp;unfold Oper.wp;split at hp
 ·
  rename_i f args hco;have hcs:∃ c,o.op=.call c/\c.callee=.value f/\args=c.args.toList:=by
   unfold qm at hco;split at hco
   ·rename_i c hoc;split at hco
    ·rename_i f' hf';cases hco;exact⟨c,hoc,hf',rfl⟩
    ·cases hco
   ·cases hco
  obtain⟨c,hoc,hcf,rfl⟩:=hcs;have hvf:=r.opd f;try dsimp only at hp
  generalize hfv:(jL U ns f).run ⟨t,rs⟩=fv at hp hvf;cases fv<;>try(exact hp.elim)
  rename_i fid caps;simp only[VR] at hvf;obtain⟨cv,hcv,hcaps⟩:=hvf;simp only[yS,yE] at hp;have hargs:VRs ι (c.args.toList.map (λx=>(jL U ns x).run ⟨t,rs⟩) ++ caps) ((c.args.map a.eval) ++ cv).toList:=by
   rw[QbP,Qbi];exact(VRs.map_of _ λx _=>r.opd x).append hcaps
  have hC:=hcall fid _ st ι w ((c.args.map a.eval) ++ cv) r.sim hargs;generalize call fid (c.args.toList.map (λx=>(jL U ns x).run ⟨t,rs⟩) ++ caps) st=er at hp hC;cases er with
  |no=>exact hp.elim
  |ok v st'=>
   obtain⟨hen,hcs⟩:=hC;rw[vj hoc hcf hcv hen];simp only[Oper.upon];refine Calls.mono hcs λe w' he=>?_;obtain⟨x,rfl,ι',hl,hv,hs,hg,hcl⟩:=he;have hcl':Cleanly ι ι' st (back st st'):=⟨hcl.nx,hcl.dirty,hcl.keep,hcl.above,hcl.u,hcl.le,hcl.n⟩;have r':=(r.mono hl (st':=back st st') hs rfl).put hd hv;exact hk ι' _ _ _ _ hl hg hcl' r' (Post.step hl hg hcl' hp)
  |pn v st'=>
   obtain⟨hen,hcs⟩:=hC;rw[vj hoc hcf hcv hen];simp only[Oper.upon];refine Calls.mono hcs λe w' he=>?_;obtain⟨x,rfl,ι',hl,hv,hs,hg,hcl⟩:=he;have hcl':Cleanly ι ι' st (back st st'):=⟨hcl.nx,hcl.dirty,hcl.keep,hcl.above,hcl.u,hcl.le,hcl.n⟩;have r':=(r.mono hl (st':=back st st') hs rfl).flush;exact hp ι' _ _ x hl r' hg hcl' hv
 ·rename_i hco;try dsimp only at hp
  cases hcalm:Zq o.op
  ·
   cases ho:o.op<;>rw[ho] at hcalm hp hco<;>simp only[Zq] at hcalm<;>try(cases hcalm;done)
   case call c=>
    exfalso;simp only[jo] at hp;split at hcalm
    ·rename_i b hb;simp only[hb] at hp;cases b<;>simp only[KA] at hcalm<;>try(cases hcalm;done)
     have:qw P .recover c.argTypes (yb (jL U ns) c.args.toList)=NOE:=by
      unfold qw;split<;>first|rfl|contradiction|simp_all
     rw[this] at hp;exact hp
    ·rename_i hnb;cases hcc:c.callee with
     |builtin b=>exact hnb b hcc
     |value f=>simp[qm,hcc] at hco
     |invoke r m=>rw[hcc] at hp;exact hp
   case defer c=>
    simp only[jo] at hp;cases hf:c.callee<;>rw[hf] at hp<;>try(exact hp.elim)
    ·rename_i f;have hvf:=r.opd f;try dsimp only at hp
     generalize hfv:(jL U ns f).run ⟨t,rs⟩=fv at hp hvf;cases fv<;>try(exact hp.elim)
     rename_i fid caps;simp only[VR] at hvf;obtain⟨cv,hcv,hcaps⟩:=hvf;rw[jdM ho hf hcv];simp only[Oper.upon];simp only[yS,yE] at hp;have hargs:VRs ι (c.args.toList.map (λx=>(jL U ns x).run ⟨t,rs⟩) ++ caps) ((c.args.map a.eval) ++ cv).toList:=by
      rw[QbP,Qbi];exact(VRs.map_of _ λx _=>r.opd x).append hcaps
     have hcl:Cleanly ι ι st ⟨st.nx,st.h,st.dirty,Qao (fid,c.args.toList.map (λx=>(jL U ns x).run ⟨t,rs⟩) ++ caps) st.fr⟩:=⟨φ _,φ _,λ_ _ _=>rfl,λ_ _=>rfl,λ_ _ h=>h,λ_ h=>h,λ_ h1 h2=>absurd h2 (Nat.not_lt.2 h1)⟩;have r1:Rel ι U N t ns rs ⟨st.nx,st.h,st.dirty,Qao (fid,c.args.toList.map (λx=>(jL U ns x).run ⟨t,rs⟩) ++ caps) st.fr⟩
       { a with defers:={ target:=.fn (.func fid) cv,args:=c.args.map a.eval } :: a.defers } w:=
      ⟨r.sim,r.size,r.env,r.recs,r.len,by simp only[DRs];exact⟨cv,_,_,rfl,hargs,r.ds⟩⟩
     exact hk ι _ _ _ _ (Le.refl ι) (Grew.refl ι w) hcl (r1.put hd (Y5 ι)) (Post.step (Le.refl ι) (Grew.refl ι w) hcl hp)
  ·have hres:=jag (P:=P) (ρ:=a.eval) (op:=jL U ns) (env:=⟨t,rs⟩) hcalm r.sim (λx _=>r.opd x);generalize (jo P (jL U ns) o.op).run ⟨t,rs⟩ st=er at hp hres;cases er with
   |no=>exact hp.elim
   |ok v st'=>
    obtain⟨ι',x,w',hr,hl,hv,hs,hg,hcl,hfr⟩:=hres;have r':=(r.mono hl hs hfr).put hd hv;rcases hr with hr|⟨hr,rfl⟩
    ·rw[hr];exact hk ι' _ _ _ _ hl hg hcl r' (Post.step hl hg hcl hp)
    ·rw[hr];exact hk ι' _ _ _ _ hl hg hcl r' (Post.step hl hg hcl hp)
   |pn v st'=>
    obtain⟨rfl,x,hr,hv⟩:=hres;rw[hr];exact hp ι a w x (Le.refl ι) r.flush (Grew.refl ι w) (Cleanly.refl ι st') hv
end
section
variable {P:Program} {ι:Inj} {w:World} {st:St} {U N:Nat} {t:T AV} {ns:List Nat} {rs:List AV} {a:Act}
theorem HX {v:AV}{x:Value}(h:VR ι v x)(h1:∀ b,v≠.bool b)(h2:v≠.bad)(b:Bool):x≠.bool b:=by
 intro e;subst e;cases v<;>simp only[VR] at h;case bool c=>exact h1 c rfl
 case bad=>exact h2 rfl
 case lptr=>obtain⟨_,_,_,h,_⟩:=h;cases h
 all_goals
  first
  |(cases h;done)
  |(obtain⟨_,h,_⟩:=h;cases h;done)
  |(obtain⟨_,_,h,_⟩:=h;cases h;done)
  |(obtain⟨_,_,_,_,h,_⟩:=h;cases h;done)
theorem jb6 (r:Rel ι U N t ns rs st a w)(ops:Array Oper)(o:Oper) :
  match ye (jL U ns) ops o with
  |none=>Region.wanted o (yielded ops a.tmps)=true
  |some wf=>∀ b,wf.run ⟨t,rs⟩=some b->Region.wanted o (yielded ops a.tmps)=b:=by
 unfold ye Region.wanted;cases hg:o.guard with
 |none=>rfl
 |some jw=>
  obtain⟨j,want⟩:=jw;simp only;cases hd:(ops[j]?).bind (·.dst) with
  |none=>simp
  |some d=>
   simp only;intro b hb;have hv:=r.opd (.tmp d);simp only[Act.eval] at hv;generalize (jL U ns (.tmp d)).run ⟨t,rs⟩=v at hb hv;have hy:yielded ops a.tmps j=match a.tmps[d]? with|some (.bool b)=>some b|_=>none:=by
    unfold yielded;rw[hd];rfl
   rw[hy];have jr:a.tmps.getD d undef=(a.tmps[d]?).getD undef:=by simp[QbE]
   rw[jr] at hv;split at hb
   ·rename_i c;simp only[Option.some.injEq] at hb;simp only[VR] at hv;cases hq:a.tmps[d]? with
    |none=>rw[hq] at hv;simp[undef] at hv
    |some x=>
     rw[hq] at hv;simp only[QaJ] at hv;subst hv;simp only;subst hb;cases c<;>cases want<;>rfl
   ·cases hb
   ·rename_i h1 h2;simp only[Option.some.injEq] at hb;subst hb;have hn:=HX hv (λb e=>h1 b e) (λe=>h2 e);cases hq:a.tmps[d]? with
    |none=>rfl
    |some x=>
     rw[hq] at hn;simp only[QaJ] at hn;cases x<;>first|rfl|(exact absurd rfl (hn _))
theorem uf (U:Nat)(ops:Array Oper)(o:Oper)(l:List Oper)(ns:List Nat) :
 yT P U ops (o :: l) ns=vT (ye (jL U ns) ops o) o.dst (XY P (jL U ns) (zt U ns) o (yT P U ops l (qn o.dst ns))) (yT P U ops l (qn o.dst ns)):=rfl
theorem Vn {call:qx}(hcall:zS P call){n:Nat}(ops:Array Oper){Q:Exit->Act->World->Prop}:∀ (l:List Oper) (il:List Nat),il.map (λi=>ops[i]?)=l.map some->(∀ o∈l,∀ x,o.dst=some x->x<N)->
  ∀ (ι:Inj) (ns:List Nat) (t:T AV) (rs:List AV) (st:St) (a:Act) (w:World),Rel ι U N t ns rs st a w->Post ι U N w st ((yT P U ops l ns).run call n t rs st) Q->wpO P ops Q il a w
 |[],il,hil,_,ι,ns,t,rs,st,a,w,r,hp=>by
  have:il=[]:=by simpa using hil
  subst this;exact hp ι a w (Le.refl ι) r.flush (Grew.refl ι w) (Cleanly.refl ι st)
 |o :: l,[],hil,_,ι,ns,t,rs,st,a,w,r,hp=>by simp at hil
 |o :: l,i :: il,hil,hd,ι,ns,t,rs,st,a,w,r,hp=>by
  simp only[ν,List.cons.injEq] at hil;obtain⟨hi,hil⟩:=hil;have ih:=Vn (Q:=Q) hcall (n:=n) ops l il hil (λo ho=>hd o (by simp[ho]));rw[uf] at hp;simp only[wpO,hi];have hw:=jb6 r ops o;have hstep:Post ι U N w st ((XY P (jL U ns) (zt U ns) o (yT P U ops l (qn o.dst ns))).run call n t rs st) Q->o.wp P a w (wpO P ops Q il) Q:=λhp=>
   jhc hcall r (hd o (by simp)) hp λι' rs' st' a' w' _ _ _ r' hp'=>ih ι' _ t rs' st' a' w' r' hp'
  unfold vT at hp;generalize ye (jL U ns) ops o=wf at hp hw;cases wf with
  |none=>
   simp only at hw;rw[if_pos hw];exact hstep hp
  |some wf=>
   simp only at hw;try dsimp only at hp
   cases hb:wf.run ⟨t,rs⟩ with
   |none=>rw[hb] at hp;exact hp.elim
   |some b=>
    rw[hb] at hp;have hwb:=hw b hb;cases b
    ·rw[if_neg (by rw[hwb];simp)];exact ih ι _ t _ st _ w (r.put (hd o (by simp)) (Y5 ι)) hp
    ·rw[if_pos hwb];exact hstep hp
theorem jb5 {c:Code}{Q:Exit->Act->World->Prop}(J:Nat->Act->World->Prop)(hz:∀ a w,¬ J 0 a w)
  (round:∀ k a w,J (k+1) a w->c.wp P (Exit.then (λa' w'=>J k a' w') Q) a w) {k0:Nat} (h:J k0 a w):(Code.loop c).wp P Q a w:=by
 intro b k cs;have key:∀ n a w,J n a w->∃ e a' w',Q e a' w'/\Arrives P (lone (b.at a (.code c :: .inLoop c :: k)) cs w) b k cs e a' w':=by
  intro n;induction n with
  |zero=>intro a w hJ;exact absurd hJ (hz a w)
  |succ n ih=>
   intro a w hJ;obtain⟨e,a₁,w₁,hq,harr⟩:=round n a w hJ b (.inLoop c :: k) cs;cases e with
   |normal=>
    obtain⟨e₂,a₂,w₂,hq₂,harr₂⟩:=ih a₁ w₁ hq;exact⟨e₂,a₂,w₂,hq₂,.of_steps (Steps.trans harr (.one step_inLoop)) harr₂⟩
   |exit id=>exact⟨_,a₁,w₁,hq,.pass (x:=.inLoop c) rfl (λ_ _=>.inl (by simp)) harr⟩
   |goto l=>exact⟨_,a₁,w₁,hq,.pass (x:=.inLoop c) rfl (λ_ _=>.inl (by simp)) harr⟩
   |ret=>exact⟨_,a₁,w₁,hq,.pass (x:=.inLoop c) rfl (λ_ _=>.inl (by simp)) harr⟩
   |panic ch=>exact⟨_,a₁,w₁,hq,.pass (x:=.inLoop c) rfl (λ_ _=>.inl (by simp)) harr⟩
   |outgrown=>exact⟨_,a₁,w₁,hq,.pass (x:=.inLoop c) rfl (λ_ _=>.inl (by simp)) harr⟩
 obtain⟨e,a',w',hq,harr⟩:=key _ a w h;exact⟨e,a',w',hq,.of_steps (.one step_loop) harr⟩
def Xo (P:Program):Prop:=
 ∀ (call:qx),zS P call->∀ (n:Nat) (U N:Nat) (ops:Array Oper),zI P ops=true->(∀ o∈ops.toList,∀ x,o.dst=some x->x<N)->
  ∀ (ι:Inj) (t:T AV) (st:St) (a:Act) (w:World) (Q:Exit->Act->World->Prop) (id:Nat),Rel ι U N t [] [] st a w->Post ι U N w st ((YF P U ops).run call n t [] [] st) Q->(Code.region id ops true).wp P Q a w
theorem Gk {α:Type}(p:α->Bool)(l:List α):Vw p l=l.all p:=by
 induction l with
 |nil=>rfl
 |cons a l ih=>show cond (p a) (Vw p l) false=_;rw[ih];cases h:p a<;>simp[h]
theorem ZX {id:Nat}{ops:Array Oper}{d:Bool}(h:Qb N (.region id ops d)=true):∀ o∈ops.toList,∀ x,o.dst=some x->x<N:=by
 change Vw _ ops.toList=true at h;rw[Gk,Qah] at h;intro o ho x hx;have:=h o ho;rw[hx] at this;simp only at this;rw[qe] at this;exact this
theorem jcJ (ops:Array Oper):(Qae ops.size).map (λi=>ops[i]?)=ops.toList.map some:=by
 apply Qbr
 ·simp
 ·intro i h1 h2;simp at h1;simp[h1]
theorem qF {a b:Bool}(h:cond a b false=true):a=true/\b=true:=by
 cases a
 ·cases h
 ·exact⟨rfl,h⟩
theorem jao {call:qx}(hcall:zS P call)(hdraw:Xo P){n:Nat}:∀ (c:Code),Qb N c=true->∀ (ι:Inj) (t:T AV) (st:St) (a:Act) (w:World) (Q:Exit->Act->World->Prop),
  Rel ι U N t [] [] st a w->Post ι U N w st ((comp P U c).run call n t st) Q->c.wp P Q a w:=by
 intro c;induction c with
 |skip=>exact λ_ ι t st a w Q r hp=>wp_skip (hp ι a w (Le.refl ι) r (Grew.refl ι w) (Cleanly.refl ι st))
 |region id ops d=>
  intro hd ι t st a w Q r hp;have hdst:=ZX hd;cases d with
  |false=>
   refine wp_region (wB _ _ _ ?_);exact Vn hcall (n:=n) ops ops.toList (Qae ops.size) (jcJ ops) hdst ι [] t [] st a w r hp
  |true=>
   change Post ι U N w st ((cond (zI P ops) (⟨λcall n t st=>(YF P U ops).run call n t [] [] st⟩:CF) NOC).run call n t st) Q at hp;cases ho:zI P ops
   ·rw[ho] at hp;exact hp.elim
   ·rw[ho] at hp;exact hdraw call hcall n U N ops ho hdst ι t st a w Q id r hp
 |seq x y ihx ihy=>
  intro hd ι t st a w Q r hp;obtain⟨hdx,hdy⟩:=qF (show cond (Qb N x) (Qb N y) false=true from hd);change Post ι U N w st (match (comp P U x).run call n t st with | .go env st=>(comp P U y).run call n env st|r=>r) Q at hp;refine wp_seq (ihx hdx ι t st a w _ r ?_);generalize (comp P U x).run call n t st=rx at hp;cases rx with
  |no=>exact hp
  |go t' st'=>exact λι' a' w' hl r' hg hc=>ihy hdy ι' t' st' a' w' Q r' (Post.step hl hg hc hp)
  |ex i t' st'=>exact hp
  |rt t' st'=>exact hp
  |pn v t' st'=>exact hp
 |cond x a1 b1 iha ihb=>
  intro hd ι t st a w Q r hp;obtain⟨hda,hdb⟩:=qF (show cond (Qb N a1) (Qb N b1) false=true from hd);change Post ι U N w st (match (jL U [] x).run ⟨t,[]⟩ with | .bool q=>_root_.cond q ((comp P U a1).run call n t st) ((comp P U b1).run call n t st)|_=>.no) Q at hp;have hv:=r.opd x;generalize (jL U [] x).run ⟨t,[]⟩=v at hp hv;cases v<;>try(exact hp.elim)
  rename_i q;simp only[VR] at hv;refine wp_cond hv ?_;cases q
  ·exact ihb hdb ι t st a w Q r hp
  ·exact iha hda ι t st a w Q r hp
 |block id x ih=>
  intro hd ι t st a w Q r hp;change Post ι U N w st (match (comp P U x).run call n t st with | .ex id' env st=>_root_.cond (Qcb id' id) (.go env st) (.ex id' env st)|r=>r) Q at hp;refine wp_block (ih hd ι t st a w _ r ?_);generalize (comp P U x).run call n t st=rx at hp;cases rx with
  |no=>exact hp
  |go t' st'=>exact hp
  |ex i t' st'=>
   intro ι' a' w' hl r' hg hc;simp only at hp;cases hb:Qcb i id
   ·rw[hb] at hp;have hne:¬ i=id:=λe=>by rw[<-qD,hb] at e;cases e
    simp only[Exit.inBlock,if_neg hne];exact hp ι' a' w' hl r' hg hc
   ·rw[hb] at hp;rw[qD] at hb;simp only[Exit.inBlock,if_pos hb];exact hp ι' a' w' hl r' hg hc
  |rt t' st'=>exact hp
  |pn v t' st'=>exact hp
 |loop x ih=>
  intro hd ι t st a w Q r hp;change Post ι U N w st (ZB (comp P U x) call n n t st) Q at hp;refine jb5 (λk a w=>∃ ι t st,Rel ι U N t [] [] st a w/\Post ι U N w st (ZB (comp P U x) call n k t st) Q) (λa w h=>?_) (λk a w h=>?_) ⟨ι,t,st,r,hp⟩
  ·obtain⟨ι,t,st,r,hp⟩:=h;exact hp
  ·obtain⟨ι,t,st,r,hp⟩:=h;refine ih hd ι t st a w _ r ?_;change Post ι U N w st (match (comp P U x).run call n t st with | .go env st=>ZB (comp P U x) call n k env st|r=>r) Q at hp;generalize (comp P U x).run call n t st=rx at hp;cases rx with
   |no=>exact hp
   |go t' st'=>exact λι' a' w' hl r' hg hc=>⟨ι',t',st',r',Post.step hl hg hc hp⟩
   |ex i t' st'=>exact hp
   |rt t' st'=>exact hp
   |pn v t' st'=>exact hp
 |rangeFunc f ps a1 b1=>exact λ_ ι t st a w Q r hp=>hp.elim
 |exit id=>exact λ_ ι t st a w Q r hp=>wp_exit (hp ι a w (Le.refl ι) r (Grew.refl ι w) (Cleanly.refl ι st))
 |scope x=>exact λ_ ι t st a w Q r hp=>hp.elim
 |label l=>exact λ_ ι t st a w Q r hp=>hp.elim
 |goto l=>exact λ_ ι t st a w Q r hp=>hp.elim
 |ret=>exact λ_ ι t st a w Q r hp=>wp_ret (hp ι a w (Le.refl ι) r (Grew.refl ι w) (Cleanly.refl ι st))
 |_=>exact λ_ ι t st a w Q r hp=>hp.elim
end
section
variable {P:Program} {ι:Inj} {w:World} {st:St} {U N:Nat} {t:T AV} {a:Act}
def Ve (tmps:Array Value):ResultVar->Sem Value
 |.tmp t=>pure (tmps.getD t undef)
 |.cell b t=>do loadVar t (<-asAddr (tmps.getD b undef))
theorem jaU {r:ResultVar}(h:Rel ι U N t [] [] st a w){v:AV}(hv:(JO P U r).run ⟨t,[]⟩ st=some v) :
  ∃ x,(Ve a.tmps r).run P w=.ok x w/\VR ι v x:=by
 cases r with
 |tmp x=>
  simp only[JO,Option.some.injEq] at hv;subst hv;exact⟨a.tmps.getD x undef,by simp[Ve],h.opd (.tmp x)⟩
 |cell b ty=>
  simp only[JO] at hv;have hop:=h.opd (.tmp b);obtain⟨x,hx,hvx⟩:=H1 h.sim hop hv;refine⟨x,?_,hvx⟩;have hptr:(∃ bb o,(jL U [] (.tmp b)).run ⟨t,[]⟩=.ptr bb o)\/∃ cs o,(jL U [] (.tmp b)).run ⟨t,[]⟩=.lptr cs o:=by
   generalize (jL U [] (.tmp b)).run ⟨t,[]⟩=q at hv;unfold qI at hv;split at hv
   ·cases q<;>first|(cases hv;done)|exact .inl ⟨_,_,rfl⟩|exact .inr ⟨_,_,rfl⟩
   ·cases q<;>first|(cases hv;done)|exact .inl ⟨_,_,rfl⟩|exact .inr ⟨_,_,rfl⟩
   ·cases hv
  obtain⟨ad,had⟩:∃ ad,a.eval (.tmp b)=.pointer (some ad):=by
   rcases hptr with ⟨bb,o,hp⟩|⟨cs,o,hp⟩<;>(rw[hp] at hop;simp only[VR] at hop)
   ·obtain⟨_,ad,had,_⟩:=hop;exact⟨ad,had⟩
   ·obtain⟨_,_,_,had,_⟩:=hop;exact⟨_,had⟩
  simp only[Act.eval] at had hx;rw[had] at hx;simp only[Instr.loadAt,Instr.sureAddr,Sem.run_bind,Sem.run_pure,Result.andThen_ok] at hx;simp only[Ve,had,asAddr,Sem.run_bind,Sem.run_pure,Result.andThen_ok];exact hx
theorem vG (h:Rel ι U N t [] [] st a w):∀ (l:List ResultVar) (vs:List AV),yA P U l ⟨t,[]⟩ st=some vs->
  ∃ xs:List Value,(l.mapM (Ve a.tmps)).run P w=.ok xs w/\VRs ι vs xs
 |[],vs,hv=>by
  have:some ([]:List AV)=some vs:=hv;cases this;exact⟨[],by simp,by simp[VRs]⟩
 |r :: l,vs,hv=>by
  change (match (JO P U r).run ⟨t,[]⟩ st,yA P U l ⟨t,[]⟩ st with|some v,some vs=>some (Qao v vs)|_,_=>none)=some vs at hv;cases h1:(JO P U r).run ⟨t,[]⟩ st with
  |none=>rw[h1] at hv;cases hv
  |some v=>
   cases h2:yA P U l ⟨t,[]⟩ st with
   |none=>rw[h1,h2] at hv;cases hv
   |some vs'=>
    rw[h1,h2] at hv;simp only[Option.some.injEq] at hv;subst hv;obtain⟨x,hx,hvx⟩:=jaU h h1;obtain⟨xs,hxs,hvxs⟩:=vG h l vs' h2;refine⟨x :: xs,?_,by simp only[VRs];exact⟨x,xs,rfl,hvx,hvxs⟩⟩;rw[List.mapM_cons];simp only[Sem.run_bind,hx,hxs,Result.andThen_ok,Sem.run_pure]
theorem Hh (fn:Func)(tmps:Array Value):results fn tmps=(do let vs <-fn.results.mapM (Ve tmps);pure (if h:vs.size=1 then vs[0] else .tuple vs)):=by
 unfold results
 congr 2
theorem Vd (h:Rel ι U N t [] [] st a w){fn:Func}{vs:List AV}(hv:yA P U fn.results.toList ⟨t,[]⟩ st=some vs) :
  ∃ x,(results fn a.tmps).run P w=.ok x w/\VR ι (zd vs) x:=by
 obtain⟨xs,hxs,hvxs⟩:=vG h _ _ hv;refine⟨if h:xs.toArray.size=1 then xs.toArray[0] else .tuple xs.toArray,?_,?_⟩
 ·rw[Hh,Array.mapM_eq_mapM_toList];simp only[Sem.run_bind,Sem.run_map];rw[hxs];simp
 ·unfold zd;split
  ·rename_i v;simp only[VRs] at hvxs;obtain⟨x,xs',rfl,hx,rfl⟩:=hvxs;simpa using hx
  ·rename_i vs' hne;have hl:=hvxs.length;have:¬ xs.toArray.size=1:=by
    intro e;rw[List.size_toArray,hl] at e
    match vs,e with
    |[v],_=>exact hne v rfl
   rw[dif_neg this];simp only[VR];exact⟨_,rfl,by simpa using hvxs⟩
theorem Yj:∀ (l:List AV) (i:Nat) (t:T AV) (x:Nat),zh (zy l i t) x=if i<=x/\x<i+l.length then l.getD (x - i) .bad else zh t x
 |[],i,t,x=>by
  have:¬ (i<=x/\x<i+([]:List AV).length):=by simp
  rw[if_neg this];rfl
 |v :: l,i,t,x=>by
  have e:zy (v :: l) i t=zy l (i+1) ((jZ (jI i)).run v t):=rfl;rw[e,Yj l (i+1)];by_cases h:x=i
  ·subst h;rw[if_neg om,if_pos (by simp)];simp[zh,Q2]
  ·by_cases h2:i+1<=x/\x<i+1+l.length
   ·rw[if_pos h2,if_pos (by simp;omega)];obtain⟨k,hk⟩:∃ k,x - i=k+1:=⟨x - i - 1,om⟩;have hk':x - (i+1)=k:=om
    rw[hk,hk'];simp
   ·rw[if_neg h2,if_neg (by simp;omega)];simp only[zh,Q2,if_neg h]
theorem kO {args:List AV}{vs:Array Value}(hs:Sim ι st.h st.nx w)(hargs:VRs ι args vs.toList)(hfr:st.fr=[]) :
  Rel ι U N (zy args 0 .e) [] [] st { tmps:=vs ++ QaD (N - vs.size) undef,defers:=[] } w:=by
 have hl:=hargs.length;rw[Qai] at hl;refine⟨hs,by simp;omega,λx hu _=>?_,λx i hx=>by simp[idx] at hx,rfl,by rw[hfr];simp[DRs]⟩;rw[Yj];by_cases h:0<=x/\x<0+args.length
 ·rw[if_pos h,QaH];have hx:x<vs.size:=om
  have:=hargs.get x om;have e:(vs ++ QaD (N - vs.size) undef).getD x undef=vs.toList.getD x undef:=by
   simp[QbE,Array.getElem?_append,hx,Qac]
  rw[e];exact this
 ·rw[if_neg h];have hx:¬ x<vs.size:=om
  have e:(vs ++ QaD (N - vs.size) undef).getD x undef=undef:=by
   simp only[QbE,Array.getElem?_append,if_neg hx];by_cases h2:x - vs.size<N - vs.size
   ·simp[h2]
   ·simp[h2]
  have e2:zh (.e:T AV) x=qf:=by simp[zh,QH]
  rw[e,e2];exact Y5 ι
def MdR (ι:Inj):Md->FrameMode->Prop
 |.calm,u=>u=.returning
 |.pan v,u=>∃ x,u=.panicking [{ v:=x,recovered:=false }]/\VR ι v x
 |.done,u=>∃ x,u=.panicking [{ v:=x,recovered:=true }]
theorem MdR.mono {ι ι':Inj}(h:Le ι ι'){m:Md}{u:FrameMode}(k:MdR ι m u):MdR ι' m u:=by
 cases m with
 |calm=>exact k
 |pan v=>obtain⟨x,e,hv⟩:=k;exact⟨x,e,VR.mono h _ _ hv⟩
 |done=>exact k
def Fin (ι:Inj)(w:World)(st:St)(r:ER)(R:Ending->World->Prop):Prop:=
 match r with
 |.no=>False
 |.ok v st'=>∀ x w',zH ι w st st' v x w'->R (.returned x) w'
 |.pn v st'=>∀ x w',zH ι w st st' v x w'->R (.panicked [{ v:=x,recovered:=false }]) w'
theorem Fin.step {ι':Inj}{w':World}{st':St}{r:ER}{R:Ending->World->Prop}(hl:Le ι ι')(hg:Grew ι w ι' w')(hc:Cleanly ι ι' st st')(h:Fin ι w st r R):Fin ι' w' st' r R:=by
 cases r with
 |no=>exact h
 |ok v s=>exact λx w2 ⟨ι2,l2,v2,s2,g2,c2⟩=>h x w2 ⟨ι2,hl.trans l2,v2,s2,hg.trans g2,hc.trans c2⟩
 |pn v s=>exact λx w2 ⟨ι2,l2,v2,s2,g2,c2⟩=>h x w2 ⟨ι2,hl.trans l2,v2,s2,hg.trans g2,hc.trans c2⟩
def jg2 (P:Program)(D:DF):Prop:=
 ∀ (f:FuncId) (args:List AV) (m:Md) (st:St) (ι:Inj) (w:World) (vs:Array Value) (u:FrameMode),st.fr=[]->Sim ι st.h st.nx w->VRs ι args vs.toList->MdR ι m u->
  match D.run f args m st with
  |.no=>True
  |.ok m' st'=>Enters P f/\CallsD P f vs u w λe u' w'=>∃ y ι',e=.returned y/\Le ι ι'/\MdR ι' m' u'/\Sim ι' st'.h st'.nx w'/\Grew ι w ι' w'/\Cleanly ι ι' st st'
theorem Zh {D:DF}(hD:jg2 P D){fn:Func}{tmps:Array Value}{R:Ending->World->Prop}:∀ (ds:List (FuncId×List AV)) (dl:List Deferred) (ι:Inj) (st:St) (w:World) (m:Md) (u:FrameMode),
  Rel ι U N t [] [] st ⟨tmps,[]⟩ w->st.fr=[]->DRs ι ds dl->MdR ι m u->Fin ι w st (yZ P U D fn.results.toList ds t st m) R->Leaves P fn tmps R dl u w
 |[],dl,ι,st,w,m,u,r,hfr,hd,hm,hf=>by
  simp only[DRs] at hd;subst hd;cases m with
  |calm=>
   simp only[MdR] at hm;subst hm;change Fin ι w st (match yA P U fn.results.toList ⟨t,[]⟩ st with|some vs=>.ok (zd vs) st|none=>.no) R at hf;cases hv:yA P U fn.results.toList ⟨t,[]⟩ st with
   |none=>rw[hv] at hf;exact hf.elim
   |some vs=>
    rw[hv] at hf;obtain⟨x,hx,hvx⟩:=Vd r hv;exact⟨x,hx,hf x w ⟨ι,Le.refl ι,hvx,r.sim,Grew.refl ι w,Cleanly.refl ι st⟩⟩
  |pan v=>
   obtain⟨x,rfl,hvx⟩:=hm;exact hf x w ⟨ι,Le.refl ι,hvx,r.sim,Grew.refl ι w,Cleanly.refl ι st⟩
  |done=>exact hf.elim
 |d :: ds,dl,ι,st,w,m,u,r,hfr,hd,hm,hf=>by
  simp only[DRs] at hd;obtain⟨cap,dargs,dl',rfl,hargs,hd'⟩:=hd;change Fin ι w st (match D.run d.1 d.2 m st.bare with
   |.ok m' st'=>(match m' with
    |.calm=>yZ P U D fn.results.toList ds t st'.bare .calm
    |.pan v=>yZ P U D fn.results.toList ds t st'.bare (.pan v)
    |.done=>yZ P U D fn.results.toList ds t st'.bare .calm)
   |.no=>.no) R at hf
  have h1:=hD d.1 d.2 m st.bare ι w (dargs ++ cap) u rfl r.sim hargs hm;generalize D.run d.1 d.2 m st.bare=dr at hf h1;cases dr with
  |no=>exact hf.elim
  |ok m' st'=>
   obtain⟨hen,hcall⟩:=h1;have hu:u≠.run:=by
    cases m with
    |calm=>simp only[MdR] at hm;rw[hm];simp
    |pan v=>obtain⟨x,rfl,_⟩:=hm;simp
    |done=>obtain⟨x,rfl⟩:=hm;simp
   refine⟨hu,.func d.1,cap,d.1,dargs ++ cap,rfl,?_,?_⟩
   ·obtain⟨fn',h1,h2,h3⟩:=hen;have h2':fn'.body.isNone=false:=by cases hb:fn'.body<;>simp[hb] at h2 ⊢
    simp only[invoke,callFunc,Sem.run_bind,run_program,Result.andThen_ok,h1,h3,h2'];simp
   ·refine CallsD.mono hcall λe u' w' he=>?_;obtain⟨y,ι',rfl,hl,hm',hs,hg,hcl⟩:=he;have hcl':Cleanly ι ι' st st'.bare:=⟨hcl.nx,hcl.dirty,hcl.keep,hcl.above,hcl.u,hcl.le,hcl.n⟩;have r':Rel ι' U N t [] [] st'.bare ⟨tmps,[]⟩ w':=r.mono hl (st':=st'.bare) hs (by rw[hfr];rfl);have hf':=Fin.step hl hg hcl' hf;have ZU:∃ m2,MdR ι' m2 (settle u')/\Fin ι' w' st'.bare (yZ P U D fn.results.toList ds t st'.bare m2) R:=by
     cases m' with
     |calm=>
      simp only[MdR] at hm';subst hm';exact⟨.calm,rfl,hf'⟩
     |pan v=>
      obtain⟨x,rfl,hv⟩:=hm';exact⟨.pan v,⟨x,rfl,hv⟩,hf'⟩
     |done=>
      obtain⟨x,rfl⟩:=hm';exact⟨.calm,rfl,hf'⟩
    obtain⟨m2,hm2,hf2⟩:=ZU;exact Zh hD ds dl' ι' st'.bare w' m2 (settle u') r' rfl (DRs.mono hl _ _ hd') hm2 hf2
end
section
variable {P:Program} {ι:Inj} {w:World} {st:St} {U N:Nat} {t:T AV} {a:Act}
theorem z6 {ops:Array Oper}{Q:Exit->Act->List Frame->World->Prop}{cs:List Frame}:∀ (l:List Nat) (a:Act) (w:World),
  wpO P ops (λe a w=>Q e a cs w) l a w->wpOpsS P ops Q l a cs w
 |[],a,w,h=>h
 |i :: l,a,w,h=>by
  simp only[wpO] at h;simp only[wpOpsS];split
  ·rename_i ho;rw[ho] at h;exact z6 l a w h
  ·rename_i o ho;simp only[ho] at h;split
   ·rename_i hw;rw[if_pos hw] at h;unfold Oper.wp at h;generalize (execOp a.eval o).run P w=r at h ⊢;cases r with
    |halt x w'=>cases x<;>exact h
    |ok n w'=>
     cases n<;>simp only[Oper.upon] at h ⊢;case value v=>exact z6 l _ _ h
     case skip=>exact z6 l _ _ h
     case defer d=>exact z6 l _ _ h
     case enter f args=>
      refine Calls.mono h λe w'' he=>?_;cases e with
      |returned v=>exact z6 l _ _ he
      |panicked c=>exact he
      |outgrown=>exact he
     case row row args=>exact Rows.mono h λ_ _ he=>z6 l _ _ he
   ·rename_i hw;rw[if_neg hw] at h;exact z6 l _ _ h
theorem ji2 {o:Oper}(h:ZD o=true):o.guard=none/\∀ (ρ:Operand->Value) (w:World),(execOp ρ o).run P w=.ok .recover w:=by
 unfold ZD at h;split at h
 ·rename_i c hc;split at h
  ·rename_i hb;split at h
   ·rename_i hg;refine⟨hg,λρ w=>?_⟩;simp[execOp,hc,resolve,hb,invoke,builtin]
   ·cases h
  ·cases h
 ·cases h
theorem jeV {m:Md}{u:FrameMode}(hm:MdR ι m u)(c:Frame)(cs:List Frame)(hc:c.mode=u) :
  ∃ x u',VR ι (Xa m) x/\MdR ι (Xw m) u' /\
   (recoverD (c :: cs)=some (x,{ c with mode:=u' } :: cs)\/(recoverD (c :: cs)=none/\x=.nilIface/\{ c with mode:=u' }=c)):=by
 cases m with
 |calm=>
  simp only[MdR] at hm;subst hm;exact⟨.nilIface,c.mode,by simp[Xa,VR],hc,.inr ⟨by simp[recoverD,hc],rfl,rfl⟩⟩
 |pan v=>
  obtain⟨x,rfl,hv⟩:=hm;exact⟨x,.panicking [{ v:=x,recovered:=true }],hv,⟨x,rfl⟩,.inl (by simp[recoverD,hc])⟩
 |done=>
  obtain⟨x,rfl⟩:=hm;exact⟨.nilIface,c.mode,by simp[Xa,VR],⟨x,hc⟩,.inr ⟨by simp[recoverD,hc],rfl,rfl⟩⟩
def K0 (ι:Inj)(w:World)(st:St)(r:DR)(e:Ending)(u':FrameMode)(w':World):Prop:=
 ∃ m' st',r=.ok m' st'/\∃ y ι',e=.returned y/\Le ι ι'/\MdR ι' m' u'/\Sim ι' st'.h st'.nx w'/\Grew ι w ι' w'/\Cleanly ι ι' st st'
theorem H2 {fn:Func}{m:Md}{ι':Inj}{st':St}{w':World}{r:Rel ι' U N t [] [] st' a w'}{c:Frame}{cs:List Frame}{u':FrameMode}(hl:Le ι ι')(hg:Grew ι w ι' w')(hc:Cleanly ι ι' st st')
  (hm:MdR ι' m u') {dr:DR} (hdr:dr≠.no)
  (hdef:dr=(match st'.fr with|[]=>(match yA P U fn.results.toList ⟨t,[]⟩ st' with|some _=>.ok m st'|none=>.no)|_=>.no)) :
  a.defers=[]/\∃ u'',({ c with mode:=u' } :: cs)=({ c with mode:=u'' } :: cs:List Frame)/\∃ v,(results fn a.tmps).run P w'=.ok v w'/\K0 ι w st dr (.returned v) u'' w':=by
 have hds:=r.ds;cases hfr:st'.fr with
 |cons d ds=>rw[hfr] at hdef;exact absurd hdef hdr
 |nil=>
  rw[hfr] at hdef hds;simp only[DRs] at hds;cases hv:yA P U fn.results.toList ⟨t,[]⟩ st' with
  |none=>rw[hv] at hdef;exact absurd hdef hdr
  |some vs=>
   rw[hv] at hdef;obtain⟨x,hx,_⟩:=Vd r hv;exact⟨hds,u',rfl,x,hx,m,st',hdef,x,ι',rfl,hl,hm,r.sim,hg,hc⟩
theorem jjt {ops:Array Oper}{o:Oper}{l:List Oper}(h:ops.toList=o :: l):Qae ops.size=0 :: (Qaa 1 l.length)/\ops[0]? = some o/\(Qaa 1 l.length).map (λi=>ops[i]?)=l.map some:=by
 have hs:ops.size=l.length+1:=by rw[<-Qai,h];rfl
 refine⟨?_,?_,?_⟩
 ·rw[hs,List.range_eq_range',QaY]
 ·rw[<-QbF,h];rfl
 ·apply Qbr
  ·simp
  ·intro i h1 h2;simp at h1;simp only[List.getElem_map,List.getElem_range'];rw[<-QbF,h,Qbe,Nat.add_comm];simp[h1]
theorem GK {call:qx}(hcall:zS P call)(hdraw:Xo P){n:Nat}{fn:Func}{f:FuncId}{ops:Array Oper}{o:Oper}{l:List Oper}(hops:ops.toList=o :: l)(ho:ZD o=true)
  {id:Nat} {rest:Option Code} {B:CF} (hf:P.funcs[f]? = some fn) (hb:fn.body=some (match rest with|some c=>.seq (.region id ops false) c|none=>.region id ops false))
  (hB:match rest with|some c=>Qb fn.ntmps c=true/\B=comp P U c|none=>B=⟨λ_ _ env st=>.go env st⟩) (hd:∀ o∈ops.toList,∀ x,o.dst=some x->x<fn.ntmps)
  {args:List AV} {m:Md} {vs:Array Value} {u:FrameMode} (hfr:st.fr=[]) (hs:Sim ι st.h st.nx w) (hargs:VRs ι args vs.toList) (hm:MdR ι m u)
  (hr:(VQ P fn U o (yT P U ops l (qn o.dst [])) B).run call n args m st≠.no) :
  CallsD P f vs u w (K0 ι w st ((VQ P fn U o (yT P U ops l (qn o.dst [])) B).run call n args m st)):=by
 obtain⟨hg,hrec⟩:=ji2 (P:=P) ho;obtain⟨hrange,h0,hil⟩:=jjt hops;refine callsD_of_wpS hf hb λc₀ cs hc=>?_;obtain⟨x,u',hvx,hm',hrd⟩:=jeV hm c₀ cs hc;generalize hres:(VQ P fn U o (yT P U ops l (qn o.dst [])) B).run call n args m st=dr at hr ⊢;have hres':Vu P fn U (Xw m) (match (yT P U ops l (qn o.dst [])).run call n (zy args 0 .e) ((yK o.dst).run (Xa m) []) st with
  |.go env st=>B.run call n env st
  |r=>r)=dr:=hres
 have r0:Rel ι U fn.ntmps (zy args 0 .e) [] [] st { tmps:=vs ++ QaD (fn.ntmps - vs.size) undef,defers:=[] } w:=kO hs hargs hfr;have r1:=r0.put (hd o (by rw[hops];simp)) hvx;have hcs:∃ cs',cs'={ c₀ with mode:=u' } :: cs/\∀ (Q:Exit->Act->List Frame->World->Prop),wpOpsS P ops Q (Qaa 1 l.length) ({ tmps:=vs ++ QaD (fn.ntmps - vs.size) undef,defers:=[]:Act }.put o.dst x) cs' w->
   wpOpsS P ops Q (Qae ops.size) { tmps:=vs ++ QaD (fn.ntmps - vs.size) undef,defers:=[] } (c₀ :: cs) w:=by
  refine⟨_,rfl,λQ h=>?_⟩;rw[hrange];simp only[wpOpsS,h0];rw[if_pos (by simp[Region.wanted,hg])];rw[hrec];simp only;rcases hrd with h1|⟨h1,rfl,h2⟩
  ·rw[h1];exact h
  ·rw[h1];simp only;rw[h2] at h;exact h
 obtain⟨cs',hcs',hcsW⟩:=hcs;have fin:∀ (r:R),Vu P fn U (Xw m) r=dr->Post ι U fn.ntmps w st r (λe a' w'=>bodyPostS P fn c₀ cs (K0 ι w st dr) e a' cs' w'):=by
  intro r hrr;cases r with
  |no=>exact(hr (by rw[<-hrr];rfl)).elim
  |go t' st'=>
   intro ι' a' w' hl r' hg' hc';have:=H2 (P:=P) (ι:=ι) (w:=w) (st:=st) (fn:=fn) (r:=r') (c:=c₀) (cs:=cs) (u':=u') hl hg' hc' (MdR.mono hl hm') (dr:=dr) hr hrr.symm;simp only[bodyPostS];obtain⟨h1,u'',h2,h3⟩:=this;exact⟨h1,u'',by rw[hcs',h2],h3⟩
  |ex i t' st'=>exact(hr (by rw[<-hrr];rfl)).elim
  |rt t' st'=>
   intro ι' a' w' hl r' hg' hc';have:=H2 (P:=P) (ι:=ι) (w:=w) (st:=st) (fn:=fn) (r:=r') (c:=c₀) (cs:=cs) (u':=u') hl hg' hc' (MdR.mono hl hm') (dr:=dr) hr hrr.symm;simp only[bodyPostS];obtain⟨h1,u'',h2,h3⟩:=this;exact⟨h1,u'',by rw[hcs',h2],h3⟩
  |pn v t' st'=>exact(hr (by rw[<-hrr];rfl)).elim
 cases rest with
 |none=>
  subst hB;refine wpS_region (hcsW _ (z6 _ _ _ ?_));refine Vn hcall (n:=n) ops l _ hil (λq hq=>hd q (by rw[hops];simp[hq])) ι _ _ _ st _ w r1 (fin _ ?_);rw[<-hres'];generalize (yT P U ops l (qn o.dst [])).run call n (zy args 0 .e) ((yK o.dst).run (Xa m) []) st=r;cases r<;>rfl
 |some c=>
  obtain⟨hdc,rfl⟩:=hB;refine wpS_seq (wpS_region (hcsW _ (z6 _ _ _ ?_)));refine Vn hcall (n:=n) ops l _ hil (λq hq=>hd q (by rw[hops];simp[hq])) ι _ _ _ st _ w r1 ?_;generalize (yT P U ops l (qn o.dst [])).run call n (zy args 0 .e) ((yK o.dst).run (Xa m) []) st=r at hres';cases r with
  |no=>exact(hr (by rw[<-hres'];rfl)).elim
  |go t' st'=>
   intro ι' a' w' hl r' hg' hc';exact wpS_of_wp (jao hcall hdraw c hdc ι' t' st' a' w' _ r' (Post.step hl hg' hc' (fin _ hres')))
  |ex i t' st'=>exact fin _ hres'
  |rt t' st'=>exact fin _ hres'
  |pn v t' st'=>exact fin _ hres'
theorem Zb (h:okP P=true){f:FuncId}{fn:Func}{c:Code}(hf:P.funcs[f]? = some fn)(hb:fn.body=some c):Qb fn.ntmps c=true/\Enters P f:=by
 unfold okP at h;rw[Gk,Qah] at h;have hm:fn∈P.funcs.toList:=by
  rw[Qau] at hf;obtain⟨h1,h2⟩:=hf;rw[<-h2];simp
 have:=h fn hm;rw[hb] at this;obtain⟨h1,h2⟩:=qF this;refine⟨h1,fn,hf,by rw[hb];rfl,?_⟩
 cases hq : fn.name == "runtime.NumGoroutine"
 ·rfl
 ·rw[hq] at h2;cases h2
theorem jfy (hok:okP P=true){call:qx}(hcall:zS P call)(hdraw:Xo P)(n:Nat):jg2 P ⟨λf args m st=>(yM P f).run call n args m st⟩:=by
 intro f args m st ι w vs u hfr hs hargs hm;have key:(yM P f).run call n args m st≠.no->Enters P f/\CallsD P f vs u w (K0 ι w st ((yM P f).run call n args m st)):=by
  intro hr;unfold yM at hr ⊢;cases hf:P.funcs[f]? with
  |none=>rw[hf] at hr;exact absurd rfl hr
  |some fn=>
   rw[hf] at hr;simp only at hr ⊢;split at hr
   ·rename_i id ops c hb;obtain⟨h1,h2⟩:=Zb hok hf hb;refine⟨h2,?_⟩;split at hr
    ·rename_i o l hops;cases ho:ZD o
     ·rw[ho] at hr;exact absurd rfl hr
     ·rw[ho] at hr;simp only[cond_true] at hr ⊢;obtain⟨h3,h4⟩:=qF (show cond (Qb fn.ntmps (.region id ops false)) (Qb fn.ntmps c) false=true from h1);exact GK hcall hdraw hops ho (rest:=some c) hf hb ⟨h4,rfl⟩ (ZX h3) hfr hs hargs hm hr
    ·exact absurd rfl hr
   ·rename_i id ops hb;obtain⟨h1,h2⟩:=Zb hok hf hb;refine⟨h2,?_⟩;split at hr
    ·rename_i o l hops;cases ho:ZD o
     ·rw[ho] at hr;exact absurd rfl hr
     ·rw[ho] at hr;simp only[cond_true] at hr ⊢;exact GK hcall hdraw hops ho (rest:=none) hf hb rfl (ZX h1) hfr hs hargs hm hr
    ·exact absurd rfl hr
   ·exact absurd rfl hr
 show match (yM P f).run call n args m st with | .no=>True | .ok m' st'=>_
 generalize hdr:(yM P f).run call n args m st=dr at key;cases dr with
 |no=>trivial
 |ok m' st'=>
  obtain⟨h1,h2⟩:=key (by simp);refine⟨h1,CallsD.mono h2 λe u' w' he=>?_⟩;obtain⟨m2,st2,e1,y,ι',e2,h3,h4,h5,h6,h7⟩:=he;cases e1;exact⟨y,ι',e2,h3,h4,h5,h6,h7⟩
theorem jfO {ι:Inj}{w:World}{st:St}{r:ER}:(r=.no\/Fin ι w st r λe w'=>(∃ v st' x,r=.ok v st'/\e=.returned x/\zH ι w st st' v x w') \/
  (∃ v st' x,r=.pn v st'/\e=.panicked [{ v:=x,recovered:=false }]/\zH ι w st st' v x w')):=by
 cases r with
 |no=>exact .inl rfl
 |ok v st'=>exact .inr λx w' hd=>.inl ⟨v,st',x,rfl,rfl,hd⟩
 |pn v st'=>exact .inr λx w' hd=>.inr ⟨v,st',x,rfl,rfl,hd⟩
theorem GP (hok:okP P=true){call:qx}(hcall:zS P call)(hdraw:Xo P)(n:Nat):zS P (λf args st=>(Qo P f).run call n args st):=by
 intro f args st ι w vs hs hargs;show match (Qo P f).run call n args st with | .no=>True | .ok v st'=>_ | .pn v st'=>_
 generalize hr:(Qo P f).run call n args st=r;have key:r≠.no->Enters P f/\Calls P f vs w λe w'=>(∃ v st' x,r=.ok v st'/\e=.returned x/\zH ι w st st' v x w') \/
  (∃ v st' x,r=.pn v st'/\e=.panicked [{ v:=x,recovered:=false }]/\zH ι w st st' v x w'):=by
  intro hne;unfold Qo GU at hr;cases hf:P.funcs[f]? with
  |none=>rw[hf] at hr;exact absurd hr.symm hne
  |some fn=>
   rw[hf] at hr;simp only at hr;cases hb:fn.body with
   |none=>rw[hb] at hr;exact absurd hr.symm hne
   |some c=>
    rw[hb] at hr;simp only at hr;obtain⟨h1,h2⟩:=Zb hok hf hb;refine⟨h2,calls_of_wp_defers hf hb ?_⟩;have hfin:=(jfO (ι:=ι) (w:=w) (st:=st) (r:=r)).resolve_left hne;generalize hR:(λe w'=>(∃ v st' x,r=.ok v st'/\e=Ending.returned x/\zH ι w st st' v x w') \/
     (∃ v st' x,r=.pn v st'/\e=Ending.panicked [{ v:=x,recovered:=false }]/\zH ι w st st' v x w'))=RR at hfin ⊢
    have hD:=jfy hok hcall hdraw n;have r0:Rel ι (qX fn c) fn.ntmps (zy args 0 .e) [] [] st.bare { tmps:=vs ++ QaD (fn.ntmps - vs.size) undef,defers:=[] } w:=kO (st:=st.bare) hs hargs rfl;refine jao hcall hdraw (n:=n) c h1 ι _ st.bare _ w _ r0 ?_;have hst:(⟨st.nx,st.h,st.dirty,[]⟩:St)=st.bare:=rfl;rw[hst] at hr;generalize (comp P (qX fn c) c).run call n (zy args 0 .e) st.bare=rc at hr;have leave:∀ (t':T AV) (st':St) (ι':Inj) (a':Act) (w':World) (m:Md) (u:FrameMode),Le ι ι'->Rel ι' (qX fn c) fn.ntmps t' [] [] st' a' w'->Grew ι w ι' w'->Cleanly ι ι' st.bare st'->MdR ι' m u->
      yZ P (qX fn c) ⟨λf args m st=>(yM P f).run call n args m st⟩ fn.results.toList st'.fr t' st'.bare m=r->Leaves P fn a'.tmps RR a'.defers u w':=by
     intro t' st' ι' a' w' m u hl r' hg hc hm hlr;have r2:Rel ι' (qX fn c) fn.ntmps t' [] [] st'.bare ⟨a'.tmps,[]⟩ w':=⟨r'.sim,r'.size,r'.env,r'.recs,r'.len,by simp[DRs,St.bare]⟩;refine Zh hD st'.fr a'.defers ι' st'.bare w' m u r2 rfl r'.ds hm ?_;rw[hlr];exact Fin.step hl hg (show Cleanly ι ι' st st'.bare from⟨hc.nx,hc.dirty,hc.keep,hc.above,hc.u,hc.le,hc.n⟩) hfin
    cases rc with
    |no=>exact absurd hr.symm hne
    |go t' st'=>exact λι' a' w' hl r' hg hc=>leave t' st' ι' a' w' .calm .returning hl r' hg hc rfl hr
    |ex i t' st'=>exact absurd hr.symm hne
    |rt t' st'=>exact λι' a' w' hl r' hg hc=>leave t' st' ι' a' w' .calm .returning hl r' hg hc rfl hr
    |pn v t' st'=>exact λι' a' w' x hl r' hg hc hv=>leave t' st' ι' a' w' (.pan v) (.panicking [{ v:=x,recovered:=false }]) hl r' hg hc ⟨x,rfl,hv⟩ hr
 cases r with
 |no=>trivial
 |ok v st'=>
  obtain⟨h1,h2⟩:=key (by simp);refine⟨h1,Calls.mono h2 λe w' he=>?_⟩;rcases he with ⟨v1,st1,x,e1,e2,hd⟩|⟨v1,st1,x,e1,_⟩
  ·cases e1;exact⟨x,e2,hd⟩
  ·cases e1
 |pn v st'=>
  obtain⟨h1,h2⟩:=key (by simp);refine⟨h1,Calls.mono h2 λe w' he=>?_⟩;rcases he with ⟨v1,st1,x,e1,_⟩|⟨v1,st1,x,e1,e2,hd⟩
  ·cases e1
  ·cases e1;exact⟨x,e2,hd⟩
theorem kL (hok:okP P=true)(hdraw:Xo P)(n:Nat):∀ d,zS P (VG P n d)
 |0=>λf args st ι w vs _ _=>trivial
 |d+1=>GP hok (kL hok hdraw n d) hdraw n
theorem jeS (hok:okP P=true)(hdraw:Xo P){n d:Nat}{f:FuncId}(h:jdf (VG P n d f [] st0)=true)(w:World)(hgl:Gl ⟨λ_=>.unborn,λ_=>none⟩ w) :
  Calls P f #[] w λe w'=>e=.returned (.bool true)/\w'.os=w.os/\w'.tape=w.tape/\w'.output=w.output/\w.heap.size<=w'.heap.size/\∀ k,k<w.heap.size->w'.heap[k]? = w.heap[k]?:=by
 have hs:Sim ⟨λ_=>.unborn,λ_=>none⟩ st0.h st0.nx w:=
  ⟨λb B S e=>(by cases e),λb e=>(by cases e),λb b' B S S' e=>(by cases e),λb e=>absurd rfl e,hgl⟩
 have hc:=kL hok hdraw n d f [] st0 ⟨λ_=>.unborn,λ_=>none⟩ w #[] hs (by simp[VRs]);generalize VG P n d f [] st0=r at h hc;cases r with
 |no=>cases h
 |pn v st'=>cases h
 |ok v st'=>
  obtain⟨_,hcalls⟩:=hc;refine Calls.mono hcalls λe w' he=>?_;obtain⟨x,rfl,ι',_,hv,_,hg,_⟩:=he;cases v<;>try(cases h;done)
  rename_i b;have:b=true:=h;subst this;simp only[VR] at hv;subst hv;exact⟨rfl,hg.os,hg.tape,hg.output,hg.size,λk hk=>hg.keep k hk (λb S e=>by cases e)⟩
end
theorem jdG {x y:AV}(h:GD x y=true):x=y:=by
 unfold GD at h;split at h
 all_goals try(split at h<;>try(cases h;done))
 ·rename_i a _ b;cases a<;>cases b<;>first|rfl|cases h
 ·rename_i k a _ k' b;obtain⟨h1,h2⟩:=qF h;rw[Qz,decide_eq_true_iff] at h2;rw[Zn h1,h2]
 ·obtain⟨h1,h2⟩:=qF h;rw[qD] at h1 h2;rw[h1,h2]
 ·rfl
 ·rename_i ex _ b' o' len' cap' sz' ex';obtain⟨h1,g1⟩:=qF h;obtain⟨h2,g2⟩:=qF g1;obtain⟨h3,g3⟩:=qF g2;obtain⟨h4,g4⟩:=qF g3;obtain⟨h5,g5⟩:=qF g4;clear h g1 g2 g3 g4;rw[qD] at h1 h2 h3 h4 h5;subst h1;subst h2;subst h3;subst h4;subst h5;cases ex<;>cases ex'<;>first|rfl|cases g5
 ·rfl
 ·rw[qD] at h;rw[h]
 ·rfl
 ·rfl
 ·rfl
 ·cases h
theorem UK {a b:List AV}(h:ZV a b=true):a=b:=by unfold ZV at h;exact @of_decide_eq_true _ (_) h
theorem VJ {x y:AV}(h:XO x y=true):x=y:=by
 unfold XO at h;split at h
 ·split at h<;>try(cases h;done)
  obtain⟨h1,h2⟩:=qF h;rw[qD] at h1;have h2:=UK h2;rw[h1,h2]
 ·split at h<;>try(cases h;done)
  obtain⟨h1,h2⟩:=qF h;rw[qD] at h1;have h2:=UK h2;rw[h1,h2]
 ·split at h<;>try(cases h;done)
  obtain⟨h1,h2⟩:=qF h;rw[qD] at h1;have h2:=UK h2;rw[h1,h2]
 ·split at h<;>try(cases h;done)
  rw[JA] at h;simp at h;rw[h]
 ·exact jdG h
theorem VI:∀ {l r:List AV},wq l r=true->l=r
 |[],r,h=>by
  cases r with
  |nil=>rfl
  |cons y r=>cases h
 |x :: l,r,h=>by
  cases r with
  |nil=>cases h
  |cons y r=>
   obtain⟨h1,h2⟩:=qF (show cond (XO x y) (wq l r) false=true from h);rw[VJ h1,VI h2]
theorem jhG {x y:AV}(h:jbA x y=true):x=y:=by
 unfold jbA at h;split at h
 ·split at h<;>try(cases h;done)
  rw[VI h]
 ·exact VJ h
def hide (ι:Inj)(n:Nat):Inj:=⟨λb=>if b<n then ι b else .unborn,ι.g⟩
theorem zn {ι:Inj}{n b B S:Nat}(h:hide ι n b=.at B S):ι b=.at B S/\b<n:=by
 unfold hide at h;dsimp only at h;split at h
 ·rename_i hb;exact⟨h,hb⟩
 ·cases h
mutual
theorem VR.hide {ι ι0:Inj}{n:Nat}(hn:∀ b,ι0 b≠.unborn->b<n):∀ (x:AV) (v0 v:Value),VR ι0 x v0->VR ι x v->VR (hide ι n) x v
 |.bool _,_,_,_,k=>k
 |.int _ _,_,_,_,k=>k
 |.str _,_,_,_,k=>k
 |.zstr _,_,_,_,k=>k
 |.ptr b o,v0,v,k0,k=>by
  simp only[VR] at k0 k ⊢;have hb:=hn b k0.1;obtain⟨h1,a,rfl,h2⟩:=k;have e:Ev.hide ι n b=ι b:=by simp[Ev.hide,hb]
  rw[e];exact⟨h1,a,rfl,h2⟩
 |.nilp,_,_,_,k=>k
 |.slice b o len cap sz ex,v0,v,k0,k=>by
  simp only[VR] at k0 k ⊢;have hb:=hn b k0.1;obtain⟨h1,h2,a,C,rfl,h3,h4,h5⟩:=k;have e:Ev.hide ι n b=ι b:=by simp[Ev.hide,hb]
  rw[e];exact⟨h1,h2,a,C,rfl,h3,h4,h5⟩
 |.nils,_,_,_,k=>k
 |.map r,v0,v,k0,k=>by
  simp only[VR] at k0 k ⊢;have hb:=hn r k0.1;obtain⟨h1,a,rfl,h2⟩:=k;have e:Ev.hide ι n r=ι r:=by simp[Ev.hide,hb]
  rw[e];exact⟨h1,a,rfl,h2⟩
 |.nilm,_,_,_,k=>k
 |.fn f caps,v0,v,k0,k=>by
  simp only[VR] at k0 k ⊢;obtain⟨cv,rfl,hc⟩:=k;obtain⟨cv0,rfl,hc0⟩:=k0;exact⟨cv,rfl,VRs.hide hn caps _ _ hc0 hc⟩
 |.nilf,_,_,_,k=>k
 |.iface t x,v0,v,k0,k=>by
  simp only[VR] at k0 k ⊢;obtain⟨y,rfl,hy⟩:=k;obtain⟨y0,rfl,hy0⟩:=k0;exact⟨y,rfl,VR.hide hn x _ _ hy0 hy⟩
 |.nilif,_,_,_,k=>k
 |.agg cs,v0,v,k0,k=>by
  simp only[VR] at k0 k ⊢;obtain⟨cv,rfl,hc⟩:=k;obtain⟨cv0,rfl,hc0⟩:=k0;exact⟨cv,rfl,VRs.hide hn cs _ _ hc0 hc⟩
 |.tup cs,v0,v,k0,k=>by
  simp only[VR] at k0 k ⊢;obtain⟨cv,rfl,hc⟩:=k;obtain⟨cv0,rfl,hc0⟩:=k0;exact⟨cv,rfl,VRs.hide hn cs _ _ hc0 hc⟩
 |.lst m cs,v0,v,k0,k=>by
  simp only[VR] at k0 k ⊢;obtain⟨p,C,rfl,h1,h3,h2⟩:=k;obtain⟨p0,C0,rfl,_,_,h0⟩:=k0;refine⟨p,C,rfl,h1,h3,λhm=>?_⟩;obtain⟨B,o,vs,e1,e2,e3,e4⟩:=h2 hm;obtain⟨_,_,_,_,_,_,e0⟩:=h0 hm;exact⟨B,o,vs,e1,e2,e3,e4⟩
 |.xlst m cs,v0,v,k0,k=>by
  simp only[VR] at k0 k ⊢;obtain⟨p,rfl,h3,h2⟩:=k;obtain⟨p0,rfl,_,h0⟩:=k0;refine⟨p,rfl,h3,λhm=>?_⟩;obtain⟨B,o,vs,e1,e2,e3,e4⟩:=h2 hm;obtain⟨_,_,_,_,_,_,e0⟩:=h0 hm;exact⟨B,o,vs,e1,e2,e3,e4⟩
 |.lptr cs j,v0,v,k0,k=>by
  simp only[VR] at k0 k ⊢;obtain⟨B,o,vs,e1,e5,e2,e3,e4⟩:=k;obtain⟨_,_,_,_,_,_,_,e0⟩:=k0;exact⟨B,o,vs,e1,e5,e2,e3,e4⟩
 |.bad,_,_,_,k=>k
theorem VRs.hide {ι ι0:Inj}{n:Nat}(hn:∀ b,ι0 b≠.unborn->b<n):∀ (xs:List AV) (vs0 vs:List Value),VRs ι0 xs vs0->VRs ι xs vs->VRs (hide ι n) xs vs
 |[],_,_,_,k=>k
 |x :: xs,l0,l,k0,k=>by
  simp only[VRs] at k0 k ⊢;obtain⟨v,vs,rfl,h1,h2⟩:=k;obtain⟨v0,vs0,rfl,h10,h20⟩:=k0;exact⟨v,vs,rfl,VR.hide hn x _ _ h10 h1,VRs.hide hn xs _ _ h20 h2⟩
end
theorem MR.hide {ι ι0:Inj}{n:Nat}(hn:∀ b,ι0 b≠.unborn->b<n):∀ (es:List (AV×AV)) (l0 l:List MapEntry),MR ι0 es l0->MR ι es l->MR (hide ι n) es l
 |[],_,_,_,k=>k
 |e :: es,l0,l,k0,k=>by
  simp only[MR] at k0 k ⊢;obtain⟨x,xs,rfl,h1,h2,h3⟩:=k;obtain⟨x0,xs0,rfl,h10,h20,h30⟩:=k0;exact⟨x,xs,rfl,VR.hide hn _ _ _ h10 h1,VR.hide hn _ _ _ h20 h2,MR.hide hn es _ _ h30 h3⟩
def obnd (n:Nat)(o:AO):Prop:=∃ ι0 S0 x0,(∀ b,ι0 b≠.unborn->b<n)/\OR ι0 S0 o x0
def vbnd (n:Nat)(v:AV):Prop:=∃ ι0 x0,(∀ b,ι0 b≠.unborn->b<n)/\VR ι0 v x0
theorem vbnd.hide {n:Nat}{v:AV}(h:vbnd n v){ι:Inj}{x:Value}(k:VR ι v x):VR (hide ι n) v x:=by
 obtain⟨ι0,x0,hn,h0⟩:=h;exact VR.hide hn v x0 x h0 k
theorem vbnd.mono {n m:Nat}{v:AV}(h:vbnd n v)(hm:n<=m):vbnd m v:=by
 obtain⟨ι0,x0,hn,h0⟩:=h;exact⟨ι0,x0,λb hb=>Qas (hn b hb) hm,h0⟩
theorem obnd.mono {n m:Nat}{o:AO}(h:obnd n o)(hm:n<=m):obnd m o:=by
 obtain⟨ι0,S0,x0,hn,h0⟩:=h;exact⟨ι0,S0,x0,λb hb=>Qas (hn b hb) hm,h0⟩
theorem obnd.hide {n:Nat}{o:AO}(h:obnd n o){ι:Inj}{S:Nat}{x:Obj}(k:OR ι S o x):OR (hide ι n) S o x:=by
 obtain⟨ι0,S0,x0,hn,h0⟩:=h;cases o with
 |row m zl z cs=>
  simp only[OR] at h0 k ⊢;obtain⟨c,elem,lo,hi,rfl,h1,h2,h3,h4⟩:=k;obtain⟨c0,elem0,lo0,hi0,rfl,_,_,_,h40⟩:=h0;exact⟨c,elem,lo,hi,rfl,h1,h2,h3,λi hi=>let ⟨a,v,b,d⟩:=h4 i hi;let ⟨_,v0,_,d0⟩:=h40 i hi;⟨a,v,b,VR.hide hn _ _ _ d0 d⟩⟩
 |map es=>
  simp only[OR] at h0 k ⊢;obtain⟨ens,clock,rfl,hm⟩:=k;obtain⟨ens0,clock0,rfl,hm0⟩:=h0;exact⟨ens,clock,rfl,MR.hide hn _ _ _ hm0 hm⟩
 |iter s pos=>exact k
 |dead=>exact k
def Pu (F:St->ER):Prop:=∀ st v st',F st=.ok v st'->st'=st/\∀ st2,F st2=.ok v st2
theorem Pu.no:Pu λ_=>.no:=λst v st' h=>by cases h
theorem Pu.ok (v:AV):Pu λst=>.ok v st:=λst v' st' h=>by cases h;exact⟨rfl,λ_=>rfl⟩
theorem Pu.cond {b:Bool}{F G:St->ER}(hF:Pu F)(hG:Pu G):Pu λst=>cond b (F st) (G st):=by cases b<;>assumption
theorem Pu.bool {x:AV}{F:Bool->St->ER}(h:∀ b,Pu (F b)):Pu λst=>Ye x λb=>F b st:=by
 cases x<;>first|exact h _|exact Pu.no
theorem Pu.ptr {x:AV}{F:Nat->Nat->St->ER}(h:∀ b o,Pu (F b o)):Pu λst=>qU x λb o=>F b o st:=by
 cases x<;>first|exact h _ _|exact Pu.no
theorem Pu.agg {x:AV}{F:List AV->St->ER}(h:∀ b,Pu (F b)):Pu λst=>JE x λb=>F b st:=by
 cases x<;>first|exact h _|exact Pu.no
theorem Pu.str {x:AV}{F:List Nat->St->ER}(h:∀ b,Pu (F b)):Pu λst=>zp x λb=>F b st:=by
 cases x<;>first|exact h _|exact Pu.no
theorem Pu.some {α:Type}{x:Option α}{F:α->St->ER}(h:∀ b,Pu (F b)):Pu λst=>jQ x λb=>F b st:=by
 cases x<;>first|exact h _|exact Pu.no
theorem Pu.nat {x:AV}{F:Nat->St->ER}(h:∀ b,Pu (F b)):Pu λst=>qt x λb=>F b st:=by
 unfold qt;split
 ·simp only[jB];exact h _
 ·exact Pu.no
theorem Pu.force {n:Nat}{F:Nat->St->ER}(h:∀ b,Pu (F b)):Pu λst=>force n λb=>F b st:=by
 simp only[jB];exact h _
theorem Pu.opt {x:Option OF}{d:Nat}{env:Env}{F:Nat->St->ER}(h:∀ b,Pu (F b)):Pu λst=>optF x d env λb=>F b st:=by
 cases x
 ·exact h _
 ·exact Pu.nat h
end Go.Ev
end
