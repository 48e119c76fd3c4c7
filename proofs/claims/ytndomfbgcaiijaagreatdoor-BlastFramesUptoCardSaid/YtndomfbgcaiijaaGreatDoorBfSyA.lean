import Derived.Still
import Derived.Recover
import Derived.Laws.AppendOwn
import Derived.Laws.NewBlocks
import Derived.Below
import Derived.WalkKit
import Derived.Laws.MakeOwn
import Derived.Laws.Strings
import Derived.Laws.Concat
import Derived.Laws.StructEq
import Derived.Laws.BytesString
import Derived.Orders
set_option linter.unusedVariables false
set_option linter.unusedSimpArgs false
theorem haa {p:Prop}(h:p:=by rfl):p:=h
theorem hac {p:Prop}(h:p:=by simp):p:=h
theorem hae {p:Prop}(h:p:=by (simp;omega)):p:=h
abbrev Lb:=List (List Nat)
abbrev Lc:=List Nat
abbrev Ld:=List Int
theorem aI {a b : Prop} (x : a) (y : b) : a ∧ b := ⟨x, y⟩
theorem a4 {a b c d : Prop} (x : a) (y : b) (z : c) (w : d) : a ∧ b ∧ c ∧ d := ⟨x, y, z, w⟩
theorem a8 {a b c d e f g h : Prop} (x : a) (y : b) (z : c) (w : d) (x1 : e) (y1 : f) (z1 : g) (w1 : h) : a ∧ b ∧ c ∧ d ∧ e ∧ f ∧ g ∧ h := ⟨x, y, z, w, x1, y1, z1, w1⟩
theorem om {p : Prop} (h : p := by omega) : p := h
theorem dc {p : Prop} (h : p := by decide) : p := h
open Nat renaming reduceAdd -> γ, reduceSub -> ε, le_refl -> η, le_trans -> χ, zero_le -> Qae, zero_add -> Qaj, lt_or_ge -> Qaq, lt_of_lt_of_le -> Qat, mul_one -> Qaz, mul_le_mul_right -> QaA, sub_zero -> QaF, add_mul -> QaJ, succ_pos -> QaS, zero_mul -> QaV, le_succ -> Qbd, add_assoc -> Qbj, add_zero -> Qbq, min_eq_left -> Qbx, mod_eq_of_lt -> Qby, add_comm -> QbB, add_sub_cancel -> QbI, beq -> QcA, succ -> QcB, ble -> QcC, add -> QcD, mul -> QcE, sub -> QcF
open List renaming map_cons -> ζ, map_nil -> θ, getD_cons_zero -> κ, getD_cons_succ -> μ, length_cons -> τ, length_append -> υ, length_nil -> φ, range -> ω, getElem_mem -> Qaa, getD_eq_getElem?_getD -> Qab, length_map -> Qac, getElem?_eq_getElem -> Qad, getD -> Qaf, range' -> Qag, all_eq_true -> Qah, cons_append -> Qai, cons -> Qal, nil_append -> Qam, length_take -> Qas, length_drop -> Qav, map_append -> Qay, append_assoc -> QaB, all_cons -> QaC, take_zero -> QaG, all_append -> QaN, mem_map -> QaQ, map_congr_left -> QaR, mem_cons -> QaT, append_nil -> QaU, map_map -> Qbc, getElem?_map -> Qbf, ext_getElem -> Qbg, eq_nil_of_length_eq_zero -> Qbi, getElem?_eq_some_iff -> Qbk, drop_zero -> Qbl, mem_iff_getElem -> Qbm, range'_succ -> Qbn, replicate -> Qbr, range_succ -> Qbs, getElem?_append_left -> Qbt, drop_drop -> Qbw, take_succ_eq_append_getElem -> QbG, getElem?_take -> QbH, getElem?_append_right -> QbK, map_toArray -> QbL, getElem?_drop -> QbR, mem_of_mem_take -> QbS, take_take -> QbT, foldr_cons -> QbV, take_add_one -> QbX, getElem_map -> QbY, flatMap_cons -> Qcm
open Int renaming ofNat -> Qar, natCast_nonneg -> QbU, toNat_natCast -> Qck
open Bool renaming eq_iff_iff -> Qaw, or_eq_true -> QaE, false_eq_true -> QaP, true_and -> QbJ, or_eq_false_iff -> QbW
open Array renaming length_toList -> Qan, getElem?_eq_some_iff -> Qax, replicate -> QaK, toList_map -> Qbz, getElem?_toList -> QbM, getD_eq_getD_getElem? -> QbZ, toList_append -> Qcn, getElem?_eq_getElem -> Qcv, getElem?_setIfInBounds_ne -> Qcw
open Option renaming map_some -> Qau, getD_some -> QaM, bind_some -> Qbe, map_none -> Qbh, map_eq_some_iff -> QbA
open Function renaming comp_def -> Qcl
noncomputable section
namespace Go.Ev
inductive T (α:Type) where
 |e
 |n (v:Option α) (l r:T α)
inductive AV where
 |bool (b:Bool)
 |int (k:IntKind) (n:Int)
 |str (s:Lc)
 |zstr (n:Nat)
 |ptr (b o:Nat)
 |nilp
 |slice (b o len cap sz:Nat) (ex:Bool)
 |nils
 |map (r:Nat)
 |nilm
 |fn (f:FuncId) (caps:List AV)
 |nilf
 |iface (t:TypeId) (v:AV)
 |nilif
 |agg (cs:List AV)
 |tup (vs:List AV)
 |lst (n:Nat) (cs:List AV)
 |xlst (n:Nat) (cs:List AV)
 |lptr (cs:List AV) (o:Nat)
 |bad
instance:Inhabited AV:=⟨.bad⟩
inductive AO where
 |row (n zl:Nat) (z:List AV) (cs:T AV)
 |map (es:List (AV×AV))
 |iter (s:Lc) (pos:Nat)
 |dead
inductive Md where
 |calm
 |pan (v:AV)
 |done
abbrev Fr:=List (FuncId×List AV)
structure St where
 nx:Nat
 h:T AO
 dirty:Nat
 fr:Fr
structure Env where
 t:T AV
 rs:List AV
inductive ER where
 |no
 |ok (v:AV) (st:St)
 |pn (v:AV) (st:St)
inductive DR where
 |no
 |ok (m:Md) (st:St)
inductive R where
 |no
 |go (env:T AV) (st:St)
 |ex (id:Nat) (env:T AV) (st:St)
 |rt (env:T AV) (st:St)
 |pn (v:AV) (env:T AV) (st:St)
abbrev qG:=FuncId->List AV->St->ER
structure GF (α:Type) where
 run:T α->Option α
structure SF (α:Type) where
 run:α->T α->T α
structure OF where
 run:Env->AV
structure EF where
 run:Env->St->ER
structure CF where
 run:qG->Nat->T AV->St->R
structure RF where
 run:qG->Nat->T AV->List AV->St->R
inductive TE where
 |none
 |rd (a v:AV)
 |wr (pre post:T AO)
structure RD where
 run:qG->Nat->T AV->List AV->List TE->St->R
structure FF where
 run:qG->Nat->List AV->St->ER
structure LF where
 run:List AV->T AV->T AV
section plain
def T.val {α:Type}(t:T α):Option α:=T.casesOn t none (λv _ _=>v)
def T.left {α:Type}(t:T α):T α:=T.casesOn t .e (λ_ l _=>l)
def T.right {α:Type}(t:T α):T α:=T.casesOn t .e (λ_ _ r=>r)
def jK (n:Nat):List Bool:=
 Nat.rec (motive:=λ_=>Nat->List Bool) (λ_=>[]) (λ_ ih n=>cond (QcA n 0) [] (Qal (QcA (Nat.mod n 2) 1) (ih (Nat.div n 2)))) (QcB n) n
def QX {α:Type}(p:List Bool):GF α:=
 List.rec (motive:=λ_=>GF α) ⟨λt=>T.val t⟩ (λb _ ih=>cond b ⟨λt=>ih.run (T.left t)⟩ ⟨λt=>ih.run (T.right t)⟩) p
def j2 {α:Type}(p:List Bool):SF α:=
 List.rec (motive:=λ_=>SF α) ⟨λx t=>T.casesOn t (.n (some x) .e .e) (λ_ l r=>.n (some x) l r)⟩
  (λb _ ih=>cond b
   ⟨λx t=>T.casesOn t (.n none (ih.run x .e) .e) (λv l r=>.n v (ih.run x l) r)⟩
   ⟨λx t=>T.casesOn t (.n none .e (ih.run x .e)) (λv l r=>.n v l (ih.run x r))⟩) p
def force {α:Type}(n:Nat)(k:Nat->α):α:=Nat.rec (motive:=λ_=>α) (k 0) (λm _=>k (QcB m)) n
def jv (h:T AO)(b:Nat):Option AO:=force b λb=>(QX (jK b)).run h
def u4 (h:T AO)(b:Nat)(o:AO):T AO:=force b λb=>(j2 (jK b)).run o h
def jP {α:Type}(l:List α):Nat:=List.rec (motive:=λ_=>Nat) 0 (λ_ _ ih=>force ih QcB) l
def yt {α:Type}(d:α)(l:List α):Nat->α:=
 List.rec (motive:=λ_=>Nat->α) (λ_=>d) (λa _ ih i=>Nat.rec (motive:=λ_=>α) a (λm _=>ih m) i) l
def zp {α:Type}(l:List α):Nat->List α:=
 List.rec (motive:=λ_=>Nat->List α) (λ_=>[]) (λa l ih i=>Nat.rec (motive:=λ_=>List α) (Qal a l) (λm _=>ih m) i) l
def yl {α:Type}(l:List α):Nat->List α:=
 List.rec (motive:=λ_=>Nat->List α) (λ_=>[]) (λa _ ih i=>Nat.rec (motive:=λ_=>List α) [] (λm _=>Qal a (ih m)) i) l
def yN {α:Type}(l r:List α):List α:=List.rec (motive:=λ_=>List α) r (λa _ ih=>Qal a ih) l
def lall (p:AV->Bool)(l:List AV):Bool:=List.rec (motive:=λ_=>Bool) true (λa _ ih=>cond (p a) ih false) l
def Ga {α:Type}(p:α->Bool)(l:List α):Bool:=List.rec (motive:=λ_=>Bool) true (λa _ ih=>cond (p a) ih false) l
def yj {α β:Type}(f:α->β)(l:List α):List β:=List.rec (motive:=λ_=>List β) [] (λa _ ih=>Qal (f a) ih) l
def AV.plain:AV->Bool
 |.tup _=>false
 |.bad=>false
 |_=>true
def qe:AV:=.tup []
def ofV:Value->AV
 |.bool b=>.bool b
 |.int k n=>.int k n
 |.string s=>.str (s.data.toList.map UInt8.toNat)
 |.pointer none=>.nilp
 |.slice none 0 0=>.nils
 |.map none=>.nilm
 |.nilFunc=>.nilf
 |.nilIface=>.nilif
 |_=>.bad
def jdD:Value->List AV
 |.agg cs=>cs.toList.map ofV
 |v=>[ofV v]
def AV.cells:AV->List AV
 |.agg cs=>cs
 |v=>[v]
def AV.cell:AV->Bool
 |.agg _=>false
 |.tup _=>false
 |.bad=>false
 |_=>true
def inU (U t:Nat):Bool:=QcA (Nat.mod (Nat.shiftRight U t) 2) 1
def jlX (t:Nat)(ns:Lc):Option OF:=
 List.rec (motive:=λ_=>(Nat->Option OF)) (λ_=>none)
  (λn _ ih i=>cond (QcA n t) (some ⟨λenv=>yt .bad env.rs i⟩) (ih (QcB i))) ns 0
def jS (U:Nat)(ns:Lc):Operand->OF
 |.tmp t=>match jlX t ns with
  |some f=>f
  |none=>cond (inU U t) ⟨λenv=>match (QX (jK t)).run env.t with|some v=>v|none=>qe⟩ ⟨λ_=>.bad⟩
 |.const v=>⟨λ_=>ofV v⟩
 |.global _=>⟨λ_=>.bad⟩
 |.func f=>⟨λ_=>.fn f []⟩
def zeroCells (P:Program)(t:TypeId):Option (List AV):=
 (P.info? t).bind λi=>i.zero.map jdD
def isAgg (P:Program)(t:TypeId):Option Bool:=
 (P.underlying t).map λ| .struct _=>true | .array _ _=>true|_=>false
def sizeOf (P:Program)(t:TypeId):Option Nat:=(P.info? t).map (·.size)
def qD (zl:Nat)(z:List AV)(cs:T AV)(i:Nat):AV:=
 force i λi=>match (QX (jK i)).run cs with|some v=>v|none=>yt .bad z (Nat.mod i zl)
def jR (zl:Nat)(z:List AV)(cs:T AV)(k:Nat):Nat->List AV:=
 Nat.rec (motive:=λ_=>Nat->List AV) (λ_=>[]) (λ_ ih i=>Qal (qD zl z cs i) (ih (QcB i))) k
def qk (l:List AV):T AV->Nat->T AV:=
 List.rec (motive:=λ_=>T AV->Nat->T AV) (λcs _=>cs) (λv _ ih cs i=>force i λi=>ih ((j2 (jK i)).run v cs) (QcB i)) l
def St.alloc (st:St)(o:AO)(k:Nat->St->ER):ER:=
 force st.nx λb=>k b ⟨QcB b,(j2 (jK b)).run o st.h,st.dirty,st.fr⟩
def St.put (st:St)(b:Nat)(o:AO)(k:St->ER):ER:=
 force b λb=>k ⟨st.nx,(j2 (jK b)).run o st.h,force st.dirty λd=>cond (QcC d b) d b,st.fr⟩
def newRow (st:St)(cells:List AV):ER:=
 force (jP cells) λn=>st.alloc (.row n n cells .e) λb st=>.ok (.ptr b 0) st
@[inline] def Z4 (v:AV) (k:Bool->ER):ER:=match v with | .bool b=>k b|_=>.no
@[inline] def ya (v:AV) (k:Nat->Nat->ER):ER:=match v with | .ptr b o=>k b o|_=>.no
@[inline] def Qy (v:AV) (k:List AV->ER):ER:=match v with | .agg cs=>k cs|_=>.no
@[inline] def zV (v:AV) (k:Lc->ER):ER:=match v with | .str cs=>k cs|_=>.no
@[inline] def yg (o:Option AO) (k:Nat->Nat->List AV->T AV->ER):ER:=match o with|some (.row n zl z cs)=>k n zl z cs|_=>.no
@[inline] def Xz (o:Option AO) (k:List (AV×AV)->ER):ER:=match o with|some (.map es)=>k es|_=>.no
@[inline] def jN {α:Type} (o:Option α) (k:α->ER):ER:=match o with|some a=>k a|none=>.no
def qv (v:AV)(k:Nat->ER):ER:=match v with | .int _ (.ofNat n)=>force n k|_=>.no
def NOE:EF:=⟨λ_ _=>.no⟩
def yW:IntKind->Nat
 |.i8=>127 | .i16=>32767 | .i32=>2147483647 | .i64=>9223372036854775807
 |.u8=>255 | .u16=>65535 | .u32=>4294967295 | .u64=>18446744073709551615
def sgn:IntKind->Bool
 |.i8=>true | .i16=>true | .i32=>true | .i64=>true|_=>false
def qU (k:IntKind)(x:Int):Int:=
 match x with
 |.ofNat n=>force n λn=>cond (QcC n (yW k)) (.ofNat n) (k.wrap (.ofNat n))
 |.negSucc n=>force n λn=>cond (sgn k) (cond (QcC n (yW k)) (.negSucc n) (k.wrap (.negSucc n))) (k.wrap (.negSucc n))
def ltI (a b:Int):Bool:=
 match a,b with
 |.ofNat m,.ofNat n=>QcC (QcB m) n
 |.negSucc _,.ofNat _=>true
 |.ofNat _,.negSucc _=>false
 |.negSucc m,.negSucc n=>QcC (QcB n) m
def eqI (a b:Int):Bool:=
 match a,b with
 |.ofNat m,.ofNat n=>QcA m n
 |.negSucc m,.negSucc n=>QcA m n
 |_,_=>false
def eqK (a b:IntKind):Bool:=
 match a with
 |.i8=>(match b with | .i8=>true|_=>false) | .i16=>(match b with | .i16=>true|_=>false)
 |.i32=>(match b with | .i32=>true|_=>false) | .i64=>(match b with | .i64=>true|_=>false)
 |.u8=>(match b with | .u8=>true|_=>false) | .u16=>(match b with | .u16=>true|_=>false)
 |.u32=>(match b with | .u32=>true|_=>false) | .u64=>(match b with | .u64=>true|_=>false)
def Za (op:BinOp)(k:IntKind)(x y:Int):Option Int:=
 let a:=BitVec.ofInt k.bits x
 let b:=BitVec.ofInt k.bits y
 match op with
 |.and=>some (k.wrap (a &&& b).toNat)
 |.or=>some (k.wrap (a |||b).toNat)
 |.xor=>some (k.wrap (a ^^^ b).toNat)
 |.andNot=>some (k.wrap (a &&& ~~~b).toNat)
 |_=>none
def KU (op:BinOp)(k:IntKind)(x y:Int):Option Int:=
 match x,y with
 |.ofNat m,.ofNat n=>
  cond (QcC m (yW k)) (cond (QcC n (yW k))
   (match op with
    |.and=>some (.ofNat (Nat.land m n))
    |.or=>some (.ofNat (Nat.lor m n))
    |.xor=>some (.ofNat (Nat.xor m n))
    |op=>Za op k (.ofNat m) (.ofNat n))
   (Za op k (.ofNat m) (.ofNat n))) (Za op k (.ofNat m) (.ofNat n))
 |x,y=>Za op k x y
inductive BF where
 |mk (run:IntKind->Int->Int->Option AV)
def BF.run:BF->IntKind->Int->Int->Option AV | .mk f=>f
def QN:BinOp->BF
 |.add=>⟨λk a b=>some (.int k (qU k (Int.add a b)))⟩
 |.sub=>⟨λk a b=>some (.int k (qU k (Int.sub a b)))⟩
 |.mul=>⟨λk a b=>some (.int k (qU k (Int.mul a b)))⟩
 |.quo=>⟨λk a b=>cond (eqI b (.ofNat 0)) none (match a,b with
  |.ofNat m,.ofNat n=>some (.int k (qU k (.ofNat (Nat.div m n))))
  |a,b=>some (.int k (k.wrap (a.tdiv b))))⟩
 |.rem=>⟨λk a b=>cond (eqI b (.ofNat 0)) none (match a,b with
  |.ofNat m,.ofNat n=>some (.int k (.ofNat (Nat.mod m n)))
  |a,b=>some (.int k (a.tmod b)))⟩
 |.eql=>⟨λ_ a b=>some (.bool (eqI a b))⟩
 |.neq=>⟨λ_ a b=>some (.bool (cond (eqI a b) false true))⟩
 |.lss=>⟨λ_ a b=>some (.bool (ltI a b))⟩
 |.leq=>⟨λ_ a b=>some (.bool (cond (ltI b a) false true))⟩
 |.gtr=>⟨λ_ a b=>some (.bool (ltI b a))⟩
 |.geq=>⟨λ_ a b=>some (.bool (cond (ltI a b) false true))⟩
 |.and=>⟨λk a b=>(KU .and k a b).map (.int k)⟩
 |.or=>⟨λk a b=>(KU .or k a b).map (.int k)⟩
 |.xor=>⟨λk a b=>(KU .xor k a b).map (.int k)⟩
 |.andNot=>⟨λk a b=>(Za .andNot k a b).map (.int k)⟩
 |.shl=>⟨λ_ _ _=>none⟩
 |.shr=>⟨λ_ _ _=>none⟩
def Z1 (op:BinOp)(k:IntKind)(a b:Int):Option AV:=
 match op with
 |.shl=>cond (ltI b (.ofNat 0)) none (some (.int k (k.wrap (a * 2 ^ (min b.toNat k.bits)))))
 |.shr=>cond (ltI b (.ofNat 0)) none (some (.int k (a.fdiv (2 ^ (min b.toNat k.bits)))))
 |_=>none
def ZF (a:Lc):Lc->Bool:=
 List.rec (motive:=λ_=>Lc->Bool) (λb=>match b with|[]=>true|_=>false)
  (λx _ ih b=>match b with|[]=>false|y :: b=>cond (QcA x y) (ih b) false) a
def bytesLess:Lc->Lc->Bool
 |_,[]=>false
 |[],_ :: _=>true
 |a :: x,b :: y=>QcC (QcB a) b ||(QcA a b && bytesLess x y)
def ur (op:BinOp)(a b:Lc):Option AV:=
 match op with
 |.add=>cond (QcC (QcD (jP a) (jP b)) 9223372036854775807) (some (.str (yN a b))) none
 |.eql=>some (.bool (ZF a b))
 |.neq=>some (.bool (cond (ZF a b) false true))
 |.lss=>some (.bool (bytesLess a b))
 |.leq=>some (.bool (bytesLess a b ||ZF a b))
 |.gtr=>some (.bool (!(bytesLess a b ||ZF a b)))
 |.geq=>some (.bool (!bytesLess a b))
 |_=>none
def zA (P:Program)(t:TypeId)(cs:List AV)(off:Nat):Option AV:=
 (isAgg P t).bind λg=>cond g ((sizeOf P t).map λs=>.agg (yl (zp cs off) s)) (cond (QcC (QcB off) (jP cs)) (some (yt .bad cs off)) none)
structure QF where
 run:AV->AV->Option Bool
def NOQ:QF:=⟨λ_ _=>none⟩
def eqF (P:Program):Nat->TypeId->QF
 |0,_=>NOQ
 |d+1,t=>
  match P.underlying t with
  |some .bool=>⟨λx y=>match x,y with | .bool a,.bool b=>some (cond a b (cond b false true))|_,_=>none⟩
  |some (.int _)=>⟨λx y=>match x,y with | .int k a,.int k' b=>cond (eqK k k') (some (eqI a b)) none|_,_=>none⟩
  |some .string=>⟨λx y=>match x,y with | .str a,.str b=>some (ZF a b)|_,_=>none⟩
  |some (.pointer _)=>⟨λx y=>match x,y with | .nilp,.nilp=>some true | .nilp,.ptr _ _=>some false | .ptr _ _,.nilp=>some false|_,_=>none⟩
  |some (.slice _)=>⟨λx y=>match x,y with | .nils,.nils=>some true | .nils,.slice _ _ _ _ _ _=>some false | .slice _ _ _ _ _ _,.nils=>some false | .lst (_+1) _,.nils=>some false|_,_=>none⟩
  |some (.map _ _)=>⟨λx y=>match x,y with | .nilm,.nilm=>some true | .nilm,.map _=>some false | .map _,.nilm=>some false|_,_=>none⟩
  |some (.func _ _ _)=>⟨λx y=>match x,y with | .nilf,.nilf=>some true | .nilf,.fn _ _=>some false | .fn _ _,.nilf=>some false|_,_=>none⟩
  |some (.interface _)=>⟨λx y=>match x,y with | .nilif,.iface _ _=>some false | .iface _ _,.nilif=>some false|_,_=>none⟩
  |some (.struct fields)=>
   cond (P.stoodInHeld t || fields.toList.any λf => f.name == "_") NOQ
   ⟨λx y=>match x,y with
    |.agg xs,.agg ys=>
     fields.toList.foldr (λf r=>(zA P f.type xs f.offset).bind λu=>(zA P f.type ys f.offset).bind λv=>
      ((eqF P d f.type).run u v).bind λq=>cond q r (some false)) (some true)
    |_,_=>none⟩
  |some (.array len e)=>
   match sizeOf P e with
   |some n=>
    ⟨λx y=>match x,y with
     |.agg xs,.agg ys=>
      (Qag 0 len).foldr (λi r=>(zA P e xs (QcE i n)).bind λu=>(zA P e ys (QcE i n)).bind λv=>
       ((eqF P d e).run u v).bind λq=>cond q r (some false)) (some true)
     |_,_=>none⟩
   |none=>NOQ
  |_=>NOQ
def kI (c:Bool)(x y:AV):Option Bool:=
 match x,y with
 |.nilif,.nilif=>cond c (some true) none
 |.nilif,.iface _ _=>some false
 |.iface _ _,.nilif=>some false
 |_,_=>none
def Qk (P:Program)(op:BinOp)(t:TypeId)(c:Bool)(x y:OF):EF:=
 match P.underlying t with
 |some (.interface _)=>
  match op with
  |.eql=>⟨λenv st=>jN (kI c (x.run env) (y.run env)) λb=>.ok (.bool b) st⟩
  |.neq=>⟨λenv st=>jN (kI c (x.run env) (y.run env)) λb=>.ok (.bool (cond b false true)) st⟩
  |_=>NOE
 |some (.int _)=>
  match op with
  |.shl=>⟨λenv st=>match x.run env,y.run env with | .int k a,.int _ b=>jN (Z1 .shl k a b) λv=>.ok v st|_,_=>.no⟩
  |.shr=>⟨λenv st=>match x.run env,y.run env with | .int k a,.int _ b=>jN (Z1 .shr k a b) λv=>.ok v st|_,_=>.no⟩
  |op=>⟨λenv st=>match x.run env,y.run env with
   |.int k a,.int k' b=>cond (eqK k k') (jN ((QN op).run k a b) λv=>.ok v st) .no
   |_,_=>.no⟩
 |some .string=>⟨λenv st=>match x.run env,y.run env with | .str a,.str b=>jN (ur op a b) λv=>.ok v st|_,_=>.no⟩
 |_=>
  cond (P.eqGuardType P.depth t) NOE <|
  match op with
  |.eql=>⟨λenv st=>jN ((eqF P 20 t).run (x.run env) (y.run env)) λb=>.ok (.bool b) st⟩
  |.neq=>⟨λenv st=>jN ((eqF P 20 t).run (x.run env) (y.run env)) λb=>.ok (.bool (cond b false true)) st⟩
  |_=>NOE
def YR (op:UnOp)(x:OF):EF:=
 match op with
 |.neg=>⟨λenv st=>match x.run env with | .int k n=>.ok (.int k (k.wrap (0 - n))) st|_=>.no⟩
 |.xor=>⟨λenv st=>match x.run env with | .int k n=>jN (Za .xor k (if k.signed then -1 else k.max) n) λm=>.ok (.int k m) st|_=>.no⟩
 |.not=>⟨λenv st=>Z4 (x.run env) λb=>.ok (.bool (cond b false true)) st⟩
 |.plus=>NOE
def Y9:List AV->Option Lc
 |[]=>some []
 |.int .u8 (.ofNat n) :: l=>cond (QcC n 255) ((Y9 l).map (n :: ·)) none
 |_=>none
def JZ (P:Program)(src dst:TypeId)(x:OF):EF:=
 match P.underlying src,P.underlying dst with
 |some (.int _),some (.int k)=>⟨λenv st=>match x.run env with | .int _ n=>.ok (.int k (qU k n)) st|_=>.no⟩
 |some .string,some .string=>⟨λenv st=>zV (x.run env) λs=>.ok (.str s) st⟩
 |some (.slice e),some .string=>
  match P.underlying e with
  |some (.int .u8)=>⟨λenv st=>match x.run env with
   |.nils=>.ok (.str []) st
   |.slice b o len _ _ _=>yg (jv st.h b) λn zl z cs=>cond (QcC (QcD o len) n)
    (cond (QcC len 4096) (jN (Y9 (jR zl z cs len o)) λs=>.ok (.str s) st)
     (match cs,z with | .e,[.int .u8 (.ofNat 0)]=>cond (QcA zl 1) (.ok (.zstr len) st) .no|_,_=>.no)) .no
   |_=>.no⟩
  |_=>NOE
 |some .string,some (.slice e)=>
  match P.underlying e with
  |some (.int .u8)=>⟨λenv st=>zV (x.run env) λs=>force (jP s) λn=>
   st.alloc (.row n n (yj (λc=>.int .u8 (.ofNat c)) s) .e) λb st=>.ok (.slice b 0 n n 1 false) st⟩
  |_=>NOE
 |_,_=>NOE
def elemOf (P:Program)(t:TypeId):Option TypeId:=
 match P.underlying t with
 |some (.slice e)=>some e
 |_=>none
def wM (P:Program)(t:TypeId)(len cap:OF):EF:=
 match elemOf P t with
 |some e=>
  match P.info? e,zeroCells P e with
  |some i,some z=>
   cond (cond (lall AV.cell z) (QcA (jP z) i.size) false) ⟨λenv st=>qv (len.run env) λl=>qv (cap.run env) λc=>
    cond (QcC l c) (cond (QcC (QcE i.bytes c) 140737488355328) (cond (QcC c 9223372036854775807)
     (force (QcE c i.size) λn=>st.alloc (.row n i.size z .e) λb st=>.ok (.slice b 0 l c i.size true) st) .no) .no) .no⟩ NOE
  |_,_=>NOE
 |none=>NOE
def optF (x:Option OF)(d:Nat)(env:Env)(k:Nat->ER):ER:=
 match x with
 |none=>k d
 |some v=>qv (v.run env) k
def Xa (P:Program)(t:TypeId)(x:OF)(lo hi mx:Option OF):EF:=
 match P.underlying t with
 |some .string=>
  match mx with
  |none=>⟨λenv st=>zV (x.run env) λs=>force (jP s) λn=>optF lo 0 env λl=>optF hi n env λh=>
    cond (QcC l h) (cond (QcC h n) (.ok (.str (yl (zp s l) (QcF h l))) st) .no) .no⟩
  |some _=>NOE
 |some (.slice e)=>
  match sizeOf P e with
  |some sz=>
   match mx with
   |none=>⟨λenv st=>match x.run env with
     |.nils=>optF lo 0 env λl=>optF hi 0 env λh=>cond (QcA l 0) (cond (QcA h 0) (.ok .nils st) .no) .no
     |.slice b o len cap sz' ex=>optF lo 0 env λl=>optF hi len env λh=>
      cond (QcA sz' sz) (cond (QcC l h) (cond (QcC h cap) (force (QcF h l) λk=>force (QcD o (QcE l sz)) λo=>force (QcF cap l) λc=>.ok (.slice b o k c sz ex) st) .no) .no) .no
     |.lst n cs=>optF lo 0 env λl=>optF hi n env λh=>
      cond (QcC l h) (cond (QcC h n) (cond (QcC (QcE h sz) (jP cs)) (.ok (.lst (QcF h l) (yl (zp cs (QcE l sz)) (QcE (QcF h l) sz))) st) .no) .no) .no
     |_=>.no⟩
   |some mx=>
    match hi with
    |none=>NOE
    |some hi=>⟨λenv st=>match x.run env with
     |.slice b o _ cap _ _=>optF lo 0 env λl=>qv (hi.run env) λh=>qv (mx.run env) λm=>
      cond (QcC l h) (cond (QcC h m) (cond (QcC m cap)
       (force (QcF h l) λk=>force (QcD o (QcE l sz)) λo=>force (QcF m l) λc=>.ok (.slice b o k c sz true) st) .no) .no) .no
     |.lst n cs=>optF lo 0 env λl=>qv (hi.run env) λh=>qv (mx.run env) λm=>
      cond (QcC l h) (cond (QcA h m) (cond (QcC m n) (cond (QcC (QcE h sz) (jP cs))
       (.ok (.xlst (QcF h l) (yl (zp cs (QcE l sz)) (QcE (QcF h l) sz))) st) .no) .no) .no) .no
     |_=>.no⟩
  |none=>NOE
 |some (.array n e)=>
  match sizeOf P e with
  |some sz=>
   match mx with
   |none=>⟨λenv st=>ya (x.run env) λb o=>optF lo 0 env λl=>optF hi n env λh=>
    cond (QcC l h) (cond (QcC h n)
     (force (QcF h l) λk=>force (QcD o (QcE l sz)) λo=>force (QcF n l) λc=>.ok (.slice b o k c sz true) st) .no) .no⟩
   |some _=>NOE
  |none=>NOE
 |_=>NOE
structure KF where
 run:AV->T AO->Option AV
def qV (P:Program)(t:TypeId):KF:=
 match isAgg P t,sizeOf P t with
 |some true,some k=>⟨λa h=>match a with
  |.ptr b o=>(match jv h b with|some (.row n zl z cs)=>cond (QcC (QcD o k) n) (some (.agg (jR zl z cs k o))) none|_=>none)
  |.lptr cs o=>cond (QcC (QcD o k) (jP cs)) (some (.agg (yl (zp cs o) k))) none
  |_=>none⟩
 |some false,some _=>⟨λa h=>match a with
  |.ptr b o=>(match jv h b with|some (.row n zl z cs)=>cond (QcC (QcB o) n) (some (qD zl z cs o)) none|_=>none)
  |.lptr cs o=>cond (QcC (QcB o) (jP cs)) (some (yt .bad cs o)) none
  |_=>none⟩
 |_,_=>⟨λ_ _=>none⟩
def Y1 (P:Program)(t:TypeId)(a:OF):EF:=
 ⟨λenv st=>match (qV P t).run (a.run env) st.h with|some v=>.ok v st|none=>.no⟩
def jcq (P:Program)(t:TypeId)(a x:OF):EF:=
 match sizeOf P t with
 |some k=>⟨λenv st=>ya (a.run env) λb o=>yg (jv st.h b) λn zl z cs=>
  cond (QcA (jP (x.run env).cells) k) (cond (QcC (QcD o k) n) (cond (lall AV.cell (x.run env).cells)
   (st.put b (.row n zl z (qk (x.run env).cells cs o)) λst=>.ok qe st) .no) .no) .no⟩
 |none=>NOE
def wT (cells:List AV)(place:Nat->Option (Nat×Nat))(l:List (Nat×AV)):Option (List AV):=
 match l with
 |[]=>some cells
 |(i,v) :: rest=>
  match place i with
  |some (off,size)=>
   cond v.plain (cond (QcA (jP v.cells) size) (cond (QcC (QcD off size) (jP cells))
    (wT (yN (yl cells off) (yN v.cells (zp cells (QcD off size)))) place rest) none) none) none
  |none=>none
def gI (P:Program)(fields:Array Field)(i:Nat):Option (Nat×Nat):=
 (fields[i]?).bind λf=>(sizeOf P f.type).map λs=>(f.offset,s)
def YY (env:Env)(ps:List (Nat×OF)):List (Nat×AV):=yj (λp=>(p.1,p.2.run env)) ps
def UJ (P:Program)(t:TypeId)(ps:List (Nat×OF)):EF:=
 match zeroCells P t,P.underlying t with
 |some z,some (.struct fields)=>cond (fields.toList.all λf=>(sizeOf P f.type).isSome) ⟨λenv st=>jN (wT z (gI P fields) (YY env ps)) λcs=>.ok (.agg cs) st⟩ NOE
 |some z,some (.array _ e)=>
  match sizeOf P e with
  |some s=>⟨λenv st=>jN (wT z (λi=>some (QcE i s,s)) (YY env ps)) λcs=>.ok (.agg cs) st⟩
  |none=>NOE
 |_,_=>NOE
def qP (z:List AV)(n:Nat):List AV:=Nat.rec (motive:=λ_=>List AV) [] (λ_ ih=>yN z ih) n
def ZX (P:Program)(t:TypeId)(len:Nat)(ps:List (Nat×OF)):EF:=
 match elemOf P t with
 |some e=>
  match sizeOf P e,zeroCells P e with
  |some s,some z=>
   cond (cond (QcC (QcE len s) 16777216) (QcA (jP z) s) false) ⟨λenv st=>jN (wT (qP z len) (λi=>some (QcE i s,s)) (YY env ps)) λcells=>
    cond (lall AV.cell cells) (force (jP cells) λn=>st.alloc (.row n n cells .e) λb st=>.ok (.slice b 0 len len s true) st) .no⟩ NOE
  |_,_=>NOE
 |none=>NOE
def Y3 (P:Program)(s:TypeId)(x:OF)(f:Nat):EF:=
 match P.underlying s with
 |some (.struct fields)=>
  match fields[f]? with
  |some f=>
   match sizeOf P f.type with
   |some (_+1)=>⟨λenv st=>match x.run env with
    |.ptr b o=>force (QcD o f.offset) λo=>.ok (.ptr b o) st
    |.lptr cs o=>.ok (.lptr cs (QcD o f.offset)) st
    |_=>.no⟩
   |_=>NOE
  |none=>NOE
 |_=>NOE
def Wy (P:Program)(s:TypeId)(x:OF)(f:Nat):EF:=
 match P.underlying s with
 |some (.struct fields)=>
  match fields[f]? with
  |some f=>⟨λenv st=>Qy (x.run env) λcs=>jN (zA P f.type cs f.offset) λv=>.ok v st⟩
  |none=>NOE
 |_=>NOE
def XI (P:Program)(t:TypeId)(x i:OF):EF:=
 match P.underlying t with
 |some (.array n e)=>
  match sizeOf P e with
  |some s=>⟨λenv st=>ya (x.run env) λb o=>qv (i.run env) λi=>cond (QcC (QcB i) n) (force (QcD o (QcE i s)) λo=>.ok (.ptr b o) st) .no⟩
  |none=>NOE
 |some (.slice e)=>
  match sizeOf P e with
  |some s=>⟨λenv st=>match x.run env with
   |.slice b o len _ _ _=>qv (i.run env) λi=>cond (QcC (QcB i) len) (force (QcD o (QcE i s)) λo=>.ok (.ptr b o) st) .no
   |.lst n cs=>qv (i.run env) λi=>cond (QcC (QcB i) n) (.ok (.lptr cs (QcE i s)) st) .no
   |_=>.no⟩
  |none=>NOE
 |_=>NOE
def vV (P:Program)(t:TypeId)(x i:OF):EF:=
 match P.underlying t with
 |some (.array n e)=>
  match sizeOf P e with
  |some s=>⟨λenv st=>Qy (x.run env) λcs=>qv (i.run env) λi=>cond (QcC (QcB i) n) (jN (zA P e cs (QcE i s)) λv=>.ok v st) .no⟩
  |none=>NOE
 |some .string=>⟨λenv st=>zV (x.run env) λs=>qv (i.run env) λi=>cond (QcC (QcB i) (jP s)) (.ok (.int .u8 (.ofNat (yt 0 s i))) st) .no⟩
 |_=>NOE
def ZU (q:QF)(k:AV)(es:List (AV×AV)):Option (Option AV):=
 List.rec (motive:=λ_=>Option (Option AV)) (some none) (λe _ ih=>match q.run k e.1 with|some b=>cond b (some (some e.2)) ih|none=>none) es
def Wz (x y:AV):Bool:=
 match x with
 |.bool a=>(match y with | .bool b=>cond a b (cond b false true)|_=>false)
 |.int k a=>(match y with | .int k' b=>cond (eqK k k') (eqI a b) false|_=>false)
 |.str a=>(match y with | .str b=>ZF a b|_=>false)
 |_=>false
def jdt (l:List AV):List AV->Bool:=
 List.rec (motive:=λ_=>List AV->Bool) (λr=>match r with|[]=>true|_=>false)
  (λx _ ih r=>match r with|y :: r=>cond (Wz x y) (ih r) false|[]=>false) l
def Vy (x y:AV):Bool:=
 match x with
 |.agg l=>(match y with | .agg r=>jdt l r|_=>false)
 |x=>Wz x y
def vI (q:QF)(k v:AV)(es:List (AV×AV)):Option (List (AV×AV)):=
 List.rec (motive:=λ_=>Option (List (AV×AV))) (some [(k,v)])
  (λe es ih=>match q.run k e.1 with
   |some b=>cond b (cond (Vy k e.1) (some (Qal (k,v) es)) none) (match ih with|some l=>some (Qal e l)|none=>none)
   |none=>none) es
structure PF where
 run:AV->Bool
def Zv (P:Program)(t:TypeId):PF:=
 match P.underlying t with
 |some .bool=>⟨λ_=>true⟩
 |some (.int _)=>⟨λ_=>true⟩
 |some .string=>⟨λ_=>true⟩
 |some (.array len e)=>
  match P.underlying e,sizeOf P e with
  |some (.int _),some 1=>⟨λk=>match k with | .agg cs=>QcA (jP cs) len|_=>false⟩
  |_,_=>⟨λ_=>false⟩
 |_=>⟨λ_=>false⟩
def ofZ:Value->AV
 |.agg cs=>.agg (cs.toList.map ofV)
 |v=>ofV v
def UP (P:Program)(t:TypeId):Option AV:=(P.info? t).bind λi=>i.zero.map ofZ
def JM (P:Program)(t:TypeId)(m k:OF)(ok:Bool):EF:=
 match P.underlying t with
 |some (.map kt e)=>
  match UP P e with
  |some zero=>
   ⟨λenv st=>match m.run env with
    |.nilm=>cond ((Zv P kt).run (k.run env)) (.ok (cond ok (.tup [zero,.bool false]) zero) st) .no
    |.map r=>cond ((Zv P kt).run (k.run env)) (Xz (jv st.h r) λes=>jN (ZU (eqF P 20 kt) (k.run env) es) λo=>
     match o with
     |some v=>.ok (cond ok (.tup [v,.bool true]) v) st
     |none=>.ok (cond ok (.tup [zero,.bool false]) zero) st) .no
    |_=>.no⟩
  |none=>NOE
 |_=>NOE
def zn (P:Program)(t:TypeId)(m k v:OF):EF:=
 match P.underlying t with
 |some (.map kt _)=>
  ⟨λenv st=>match m.run env with
   |.map r=>cond ((Zv P kt).run (k.run env)) (Xz (jv st.h r) λes=>jN (vI (eqF P 20 kt) (k.run env) (v.run env) es) λes=>st.put r (.map es) λst=>.ok qe st) .no
   |_=>.no⟩
 |_=>NOE
def firstCells (st:St)(size n:Nat)(v:AV)(k:List AV->ER):ER:=
 match v with
 |.slice b o _ _ _ _=>yg (jv st.h b) λm zl z cs=>force (QcE n size) λc=>cond (QcC (QcD o c) m) (k (jR zl z cs c o)) .no
 |.nils=>k []
 |.lst _ cs=>cond (QcC (QcE n size) (jP cs)) (k (yl cs (QcE n size))) .no
 |.str s=>k (yj (λ(n:Nat)=>AV.int .u8 (.ofNat n)) (yl s n))
 |_=>.no
def JJ (v:AV)(k:Nat->ER):ER:=
 match v with
 |.slice _ _ n _ _ _=>k n
 |.nils=>k 0
 |.lst n _=>k n
 |.str s=>force (jP s) k
 |_=>.no
def qO (st:St)(size bytes:Nat)(s:AV)(n:Nat)(news:List AV):ER:=
 cond (QcA (jP news) (QcE n size)) (match s with
 |.nils=>cond (QcA n 0) (.ok .nils st) (cond (QcC (QcE n bytes) 140737488355328) (cond (QcC n 9223372036854775807)
   (force (QcE n size) λm=>st.alloc (.row m m news .e) λb st=>.ok (.slice b 0 n n size false) st) .no) .no)
 |.slice b o sl cap sz ex=>
  force (QcD sl n) λneed=>
  yg (jv st.h b) λm zl z cs=>
  cond (QcC need cap)
   (cond (QcA n 0) (.ok s st)
    (cond (QcC (QcD o (QcE need size)) m)
     (st.put b (.row m zl z (qk news cs (QcD o (QcE sl size)))) λst=>.ok (.slice b o need cap sz ex) st) .no))
   (cond (QcC (QcE need bytes) 140737488355328) (cond (QcC need 9223372036854775807) (cond ex
    (force (QcE sl size) λk=>cond (QcC (QcD o k) m)
     (force (QcE need size) λt=>st.alloc (.row t t (yN (jR zl z cs k o) news) .e) λb st=>.ok (.slice b 0 need need size false) st) .no)
    (cond (QcA sz size) (cond (QcA o 0) (cond (QcA (QcE sl size) m)
     (st.put b .dead λst=>force (QcE need size) λt=>
      st.alloc (.row t zl z (qk news cs m)) λb st=>.ok (.slice b 0 need need size false) st) .no) .no) .no)) .no) .no)
 |.xlst sl cs=>cond (QcA n 0) .no
   (force (QcD sl n) λneed=>cond (QcC (QcE need bytes) 140737488355328) (cond (QcC need 9223372036854775807) (cond (QcC (QcE sl size) (jP cs))
    (force (QcE need size) λt=>st.alloc (.row t t (yN (yl cs (QcE sl size)) news) .e) λb st=>.ok (.slice b 0 need need size false) st) .no) .no) .no)
 |_=>.no) .no
def QR (P:Program)(t u:TypeId)(s x:OF):EF:=
 match elemOf P t with
 |some e=>
  match P.info? e,zeroCells P e with
  |some i,some z=>
   cond (cond (lall AV.cell z) (QcA (jP z) i.size) false) (match P.underlying u with
    |some (.int _)=>⟨λenv st=>qv (x.run env) λn=>cond (QcC (QcE n i.bytes) 281474976710656) (cond (QcC n 9223372036854775807) (qO st i.size i.bytes (s.run env) n (qP z n)) .no) .no⟩
    |some (.slice _)=>⟨λenv st=>JJ (x.run env) λn=>firstCells st i.size n (x.run env) λnews=>qO st i.size i.bytes (s.run env) n news⟩
    |some .string=>⟨λenv st=>JJ (x.run env) λn=>firstCells st i.size n (x.run env) λnews=>qO st i.size i.bytes (s.run env) n news⟩
    |_=>NOE) NOE
  |_,_=>NOE
 |none=>NOE
def VB (P:Program)(t:TypeId)(d x:OF):EF:=
 match elemOf P t with
 |some e=>
  match sizeOf P e with
  |some size=>
   ⟨λenv st=>JJ (x.run env) λn0=>match d.run env with
    |.nils=>.ok (.int .i64 (.ofNat 0)) st
    |.slice b o dl _ _ _=>force (cond (QcC n0 dl) n0 dl) λn=>firstCells st size n (x.run env) λcells=>
     yg (jv st.h b) λm zl z cs=>cond (QcC (QcD o (jP cells)) m)
      (st.put b (.row m zl z (qk cells cs o)) λst=>.ok (.int .i64 (.ofNat n)) st) .no
    |_=>.no⟩
  |none=>NOE
 |none=>NOE
def wi (P:Program)(t:TypeId)(x:OF):EF:=
 match P.underlying t with
 |some .string=>⟨λenv st=>match x.run env with | .str s=>force (jP s) λn=>.ok (.int .i64 (.ofNat n)) st | .zstr n=>.ok (.int .i64 (.ofNat n)) st|_=>.no⟩
 |some (.array n _)=>⟨λ_ st=>.ok (.int .i64 (.ofNat n)) st⟩
 |some (.slice _)=>⟨λenv st=>match x.run env with | .nils=>.ok (.int .i64 (.ofNat 0)) st | .slice _ _ n _ _ _=>.ok (.int .i64 (.ofNat n)) st | .lst n _=>.ok (.int .i64 (.ofNat n)) st|_=>.no⟩
 |some (.map _ _)=>⟨λenv st=>match x.run env with | .nilm=>.ok (.int .i64 (.ofNat 0)) st | .map r=>Xz (jv st.h r) λes=>force (jP es) λn=>.ok (.int .i64 (.ofNat n)) st|_=>.no⟩
 |_=>NOE
def UH (P:Program)(t:TypeId)(x:OF):EF:=
 match P.underlying t with
 |some (.slice _)=>⟨λenv st=>match x.run env with | .nils=>.ok (.int .i64 (.ofNat 0)) st | .slice _ _ _ n _ true=>.ok (.int .i64 (.ofNat n)) st|_=>.no⟩
 |_=>NOE
def min2 (x y:AV):Option AV:=
 match x,y with
 |.int k a,.int k' b=>cond (eqK k k') (some (.int k (cond (ltI b a) b a))) none
 |_,_=>none
def max2 (x y:AV):Option AV:=
 match x,y with
 |.int k a,.int k' b=>cond (eqK k k') (some (.int k (cond (ltI a b) b a))) none
 |_,_=>none
def Q5 (f:AV->AV->Option AV):AV->List AV->Option AV
 |x,[]=>some x
 |x,y :: l=>(f x y).bind λz=>Q5 f z l
def qF (P:Program)(b:Builtin)(ts:Array TypeId)(args:List OF):EF:=
 match b,args,ts.toList with
 |.len,[x],t :: _=>wi P t x
 |.cap,[x],t :: _=>UH P t x
 |.append,[s,x],t :: u :: _=>QR P t u s x
 |.copy,[d,x],t :: _=>VB P t d x
 |.min,x :: l,_=>⟨λenv st=>jN (Q5 min2 (x.run env) (yj (λx=>x.run env) l)) λv=>.ok v st⟩
 |.max,x :: l,_=>⟨λenv st=>jN (Q5 max2 (x.run env) (yj (λx=>x.run env) l)) λv=>.ok v st⟩
 |_,_,_=>NOE
def jnP (P:Program)(want:Array (String×TypeId))(t:TypeId):Option Bool:=
 (P.info? t).map λi=>(Instr.missingMethod want i.methods).isSome
def YK (P:Program)(x:OF)(asserted:TypeId):EF:=
 match UP P asserted with
 |none=>NOE
 |some z=>
  match P.underlying asserted with
  |some (.interface want)=>
   ⟨λenv st=>match x.run env with
    |.nilif=>.ok (.tup [z,.bool false]) st
    |.iface t v=>jN (jnP P want t) λb=>cond b (.ok (.tup [z,.bool false]) st) (.ok (.tup [.iface t v,.bool true]) st)
    |_=>.no⟩
  |some _=>⟨λenv st=>match x.run env with
    |.nilif=>.ok (.tup [z,.bool false]) st
    |.iface t v=>cond (QcA t asserted) (.ok (.tup [v,.bool true]) st) (.ok (.tup [z,.bool false]) st)
    |_=>.no⟩
  |none=>NOE
def ku (x:OF):EF:=
 ⟨λenv st=>ya (x.run env) λr o=>cond (QcA o 0) (match jv st.h r with
  |some (.iter s pos)=>
   cond (QcC (jP s) pos) (.ok (.tup [.bool false]) st)
    (force (yt 0 s pos) λc=>cond (QcC c 127) (st.put r (.iter s (QcB pos)) λst=>.ok (.tup [.bool true,.int .i64 (.ofNat pos),.int .i32 (.ofNat c)]) st) .no)
  |_=>.no) .no⟩
def Qn (x:OF):EF:=
 ⟨λenv st=>match x.run env with | .nilp=>.no | .nilif=>.no | .nilf=>.no | .bad=>.no|v=>.ok v st⟩
def jy (P:Program)(op:Operand->OF)(o:Op):EF:=
 match o with
 |.move x=>⟨λenv st=>.ok ((op x).run env) st⟩
 |.assign x=>⟨λenv st=>.ok ((op x).run env) st⟩
 |.pick c a b=>⟨λenv st=>Z4 ((op c).run env) λq=>.ok (cond q ((op a).run env) ((op b).run env)) st⟩
 |.alloc t=>match zeroCells P t with|some z=>cond (lall AV.cell z) ⟨λ_ st=>newRow st z⟩ NOE|none=>NOE
 |.box _ x=>⟨λenv st=>cond (lall AV.cell ((op x).run env).cells) (newRow st ((op x).run env).cells) .no⟩
 |.build t ps=>UJ P t (yj (λp=>(p.1,op p.2)) ps.toList)
 |.buildSlice t n ps=>ZX P t n (yj (λp=>(p.1,op p.2)) ps.toList)
 |.load t a=>Y1 P t (op a)
 |.store t a x=>jcq P t (op a) (op x)
 |.nilCheck x=>Qn (op x)
 |.binOp b t x y _=>Qk P b t (Region.isConst x ||Region.isConst y) (op x) (op y)
 |.unOp b _ x=>YR b (op x)
 |.convert s d x=>JZ P s d (op x)
 |.makeInterface t x=>match P.underlying t with|some (.interface _)=>NOE|some _=>⟨λenv st=>.ok (.iface t ((op x).run env)) st⟩|none=>NOE
 |.makeFunc (.func f) first caps=>match first.toList with|[]=>⟨λenv st=>.ok (.fn f (yj (λx=>(op x).run env) caps.toList)) st⟩|_=>NOE
 |.makeMap _ none=>⟨λ_ st=>st.alloc (.map []) λb st=>.ok (.map b) st⟩
 |.makeSlice t l c=>wM P t (op l) (op c)
 |.slice t x lo hi mx=>Xa P t (op x) (lo.map op) (hi.map op) (mx.map op)
 |.fieldAddr s x f=>Y3 P s (op x) f
 |.field s x f=>Wy P s (op x) f
 |.indexAddr t x i=>XI P t (op x) (op i)
 |.index t x i=>vV P t (op x) (op i)
 |.lookup t m k ok=>JM P t (op m) (op k) ok
 |.mapUpdate t m k v=>zn P t (op m) (op k) (op v)
 |.range t x=>match P.underlying t with
  |some .string=>⟨λenv st=>zV ((op x).run env) λs=>st.alloc (.iter s 0) λb st=>.ok (.ptr b 0) st⟩
  |_=>NOE
 |.next it true=>ku (op it)
 |.typeAssert x _ t true=>YK P (op x) t
 |.panic x=>⟨λenv st=>match (op x).run env with | .iface t v=>.pn (.iface t v) st|_=>.no⟩
 |.extract x i=>⟨λenv st=>match (op x).run env with | .tup vs=>cond (QcC (QcB i) (jP vs)) (.ok (yt .bad vs i) st) .no|_=>.no⟩
 |.defer c=>match c.callee with
  |.value f=>⟨λenv st=>match (op f).run env with
   |.fn f caps=>.ok qe ⟨st.nx,st.h,st.dirty,Qal (f,yN (yj (λx=>(op x).run env) c.args.toList) caps) st.fr⟩
   |_=>.no⟩
  |_=>NOE
 |.call c=>match c.callee with
  |.builtin b=>qF P b c.argTypes (yj op c.args.toList)
  |_=>NOE
 |_=>NOE
def qy (o:Op):Option (Operand×List Operand):=
 match o with
 |.call c=>match c.callee with | .value f=>some (f,c.args.toList)|_=>none
 |_=>none
structure WF where
 run:Env->Option Bool
def ym (op:Operand->OF)(ops:Array Oper)(o:Oper):Option WF:=
 match o.guard with
 |none=>none
 |some (j,want)=>
  match (ops[j]?).bind (·.dst) with
  |some d=>some ⟨λenv=>match (op (.tmp d)).run env with | .bool b=>some (cond b want (cond want false true)) | .bad=>none|_=>some false⟩
  |none=>some ⟨λ_=>none⟩
def zY (U:Nat)(ns:Lc):LF:=
 List.rec (motive:=λ_=>LF) ⟨λ_ t=>t⟩
  (λn _ ih=>cond (inU U n) ⟨λrs t=>List.casesOn rs t (λv rs=>(j2 (jK n)).run v (ih.run rs t))⟩
   ⟨λrs t=>List.casesOn rs t (λ_ rs=>ih.run rs t)⟩) ns
def qA (dst:Option Tmp)(ns:Lc):Lc:=
 match dst with
 |some d=>Qal d ns
 |none=>ns
structure VF where
 run:AV->List AV->List AV
def yQ (dst:Option Tmp):VF:=
 match dst with
 |some _=>⟨λv rs=>Qal v rs⟩
 |none=>⟨λ_ rs=>rs⟩
inductive Cl where
 |pure
 |reads
 |makes
 |writes
 |other
def jY (P:Program)(o:Op):Cl:=
 match o with
 |.move _=>.pure | .assign _=>.pure | .pick _ _ _=>.pure | .build _ _=>.pure | .nilCheck _=>.pure | .binOp _ _ _ _ _=>.pure | .unOp _ _ _=>.pure
 |.makeInterface _ _=>.pure | .makeFunc _ _ _=>.pure | .slice _ _ _ _ _=>.pure | .fieldAddr _ _ _=>.pure | .field _ _ _=>.pure | .indexAddr _ _ _=>.pure | .index _ _ _=>.pure
 |.extract _ _=>.pure
 |.alloc _=>.makes | .box _ _=>.makes | .buildSlice _ _ _=>.makes | .makeSlice _ _ _=>.makes | .makeMap _ _=>.makes
 |.load _ _=>.reads
 |.store _ _ _=>.writes
 |.call c=>match c.callee with
  |.builtin .len=>match c.argTypes.toList with
   |t :: _=>match P.underlying t with|some (.map _ _)=>.other|_=>.pure
   |[]=>.other
  |.builtin .cap=>.pure | .builtin .min=>.pure | .builtin .max=>.pure
  |_=>.other
 |_=>.other
def Qb (c:Cl):Bool:=match c with | .other=>true|_=>false
def Qj (e:Edge):Bool:=match e.ground with | .textOnly _=>false | .gcOnly _=>false|_=>true
def q9 (ops:List Oper):Lc:=
 ops.foldl (λacc o=>acc ++ [o.after.toList.foldl (λs e=>cond (Qj e) (Nat.lor (Nat.lor s (Nat.pow 2 e.on)) (acc.getD e.on 0)) s) 0]) []
def yn (bs:Lc)(i j:Nat):Bool:=inU (bs.getD i 0) j ||inU (bs.getD j 0) i
def acts (c:Cl):Bool:=match c with | .writes=>true | .other=>true|_=>false
def reads (c:Cl):Bool:=match c with | .reads=>true|_=>false
def QQ (c:Cl):Bool:=match c with | .writes=>true|_=>false
def Xj (c:Cl):Bool:=match c with | .makes=>true|_=>false
def Jx (P:Program)(ops:Array Oper):Bool:=
 let bs:=q9 ops.toList
 (ω ops.size).all λi=>match ops[i]? with
  |none=>false
  |some o=>o.after.toList.all (λe=>cond (Qj e) (QcC (QcB e.on) i) true) &&
   (match o.op with | .select _ _=>false | .defer _=>false | .panic _=>false | .call { callee:=.builtin .recover,.. }=>false|_=>true) &&
   (ω i).all λj=>match ops[j]? with
    |none=>false
    |some u=>yn bs i j ||(u.apart ops o &&
     !((QQ (jY P u.op) && acts (jY P o.op)) ||(acts (jY P u.op) && QQ (jY P o.op)) ||(Xj (jY P u.op) && acts (jY P o.op))))
def yO (P:Program)(ops:Array Oper)(i:Nat)(o:Oper):Bool:=
 let bs:=q9 ops.toList
 Qb (jY P o.op) && !(ω ops.size).all λj=>QcA i j ||match ops[j]? with
  |none=>false
  |some u=>!Qb (jY P u.op) ||yn bs i j
def partners (P:Program)(ops:Array Oper)(es:Lc)(i:Nat)(o:Oper):List (Nat×TypeId):=
 es.zipIdx.filterMap λp=>match ops[p.1]? with
  |none=>none
  |some u=>cond (((reads (jY P u.op) && acts (jY P o.op)) ||(acts (jY P u.op) && reads (jY P o.op))) && !yn (q9 ops.toList) i p.1)
   (some (p.2,match u.op with | .load t _=>t|_=>0)) none
def jdu (x y:AV):Bool:=
 match x with
 |.bool a=>(match y with | .bool b=>cond a b (cond b false true)|_=>false)
 |.int k a=>(match y with | .int k' b=>cond (eqK k k') (eqI a b) false|_=>false)
 |.ptr b o=>(match y with | .ptr b' o'=>cond (QcA b b') (QcA o o') false|_=>false)
 |.nilp=>(match y with | .nilp=>true|_=>false)
 |.slice b o len cap sz ex=>(match y with | .slice b' o' len' cap' sz' ex'=>cond (QcA b b') (cond (QcA o o') (cond (QcA len len') (cond (QcA cap cap') (cond (QcA sz sz') (cond ex ex' (cond ex' false true)) false) false) false) false) false|_=>false)
 |.nils=>(match y with | .nils=>true|_=>false)
 |.map r=>(match y with | .map r'=>QcA r r'|_=>false)
 |.nilm=>(match y with | .nilm=>true|_=>false)
 |.nilf=>(match y with | .nilf=>true|_=>false)
 |.nilif=>(match y with | .nilif=>true|_=>false)
 |_=>false
open Classical in
def Wa (a b:List AV):Bool:=decide (a=b)
def ZA (x y:AV):Bool:=
 match x with
 |.lst n a=>(match y with | .lst m b=>cond (QcA n m) (Wa a b) false|_=>false)
 |.xlst n a=>(match y with | .xlst m b=>cond (QcA n m) (Wa a b) false|_=>false)
 |.lptr a i=>(match y with | .lptr b j=>cond (QcA i j) (Wa a b) false|_=>false)
 |.str a=>(match y with | .str b=>ZF a b|_=>false)
 |x=>jdu x y
def WA (l:List AV):List AV->Bool:=
 List.rec (motive:=λ_=>List AV->Bool) (λr=>match r with|[]=>true|_=>false)
  (λx _ ih r=>match r with|y :: r=>cond (ZA x y) (ih r) false|[]=>false) l
def jg6 (x y:AV):Bool:=
 match x with
 |.agg l=>(match y with | .agg r=>WA l r|_=>false)
 |x=>ZA x y
def jZ (P:Program)(t:TypeId)(a v:AV)(h:T AO):Bool:=
 match a with
 |.lptr _ _=>true
 |a=>match (qV P t).run a h with
  |some u=>jg6 v u
  |none=>false
def held (P:Program)(t:TypeId)(x:TE)(tb:List TE)(l:List (Nat×TypeId)):Bool:=
 List.rec (motive:=λ_=>Bool) true (λp _ ih=>
  cond (match x with
   |.rd a v=>(match yt .none tb p.1 with | .wr pre post=>cond (jZ P t a v pre) (jZ P t a v post) false | .rd _ _=>false | .none=>true)
   |.wr pre post=>(match yt .none tb p.1 with | .rd a v=>cond (jZ P p.2 a v pre) (jZ P p.2 a v post) false | .wr _ _=>false | .none=>true)
   |.none=>true) ih false) l
def stW (st:St):St:=⟨st.nx,st.h,st.nx,st.fr⟩
def unW (st st':St)(k:St->R):R:=
 force st.nx λn=>cond (QcC n st'.dirty) (k ⟨st'.nx,st'.h,st.dirty,st'.fr⟩) .no
def back (st st':St):St:=⟨st'.nx,st'.h,st'.dirty,st.fr⟩
def ZG (P:Program)(op:Operand->OF)(fl:LF)(o:Oper)(next:RF):RF:=
 match qy o.op with
 |some (f,args)=>
  ⟨λcall n t rs st=>match (op f).run ⟨t,rs⟩ with
   |.fn f caps=>match call f (yN (yj (λx=>(op x).run ⟨t,rs⟩) args) caps) st with
    |.ok v st'=>next.run call n t ((yQ o.dst).run v rs) (back st st')
    |.pn v st'=>.pn v (fl.run rs t) (back st st')
    |.no=>.no
   |_=>.no⟩
 |none=>
  ⟨λcall n t rs st=>match (jy P op o.op).run ⟨t,rs⟩ st with
   |.ok v st'=>next.run call n t ((yQ o.dst).run v rs) st'
   |.pn v st'=>.pn v (fl.run rs t) st'
   |.no=>.no⟩
def Ul (w:Option WF)(dst:Option Tmp)(step next:RF):RF:=
 match w with
 |none=>step
 |some w=>⟨λcall n t rs st=>match w.run ⟨t,rs⟩ with
  |some b=>cond b (step.run call n t rs st) (next.run call n t ((yQ dst).run qe rs) st)
  |none=>.no⟩
def y8 (P:Program)(U:Nat)(ops:Array Oper)(l:List Oper):Lc->RF:=
 List.rec (motive:=λ_=>Lc->RF) (λns=>⟨λ_ _ t rs st=>.go ((zY U ns).run rs t) st⟩)
  (λo _ ih ns=>Ul (ym (jS U ns) ops o) o.dst (ZG P (jS U ns) (zY U ns) o (ih (qA o.dst ns))) (ih (qA o.dst ns))) l
structure OD where
 run:qG->Env->St->(AV->TE->St->R)->(AV->St->R)->R
def X6 (P:Program)(op:Operand->OF)(o:Op)(te:AV->T AO->T AO->Env->TE):OD:=
 ⟨λ_ env st k _=>match (jy P op o).run env st with
  |.ok v st'=>k v (te v st.h st'.h env) st'
  |_=>.no⟩
def opD (P:Program)(op:Operand->OF)(w:Bool)(o:Op):OD:=
 match qy o with
 |some (f,args)=>
  cond w
   ⟨λcall env st k _=>match (op f).run env with
    |.fn f caps=>match call f (yN (yj (λx=>(op x).run env) args) caps) (stW st) with
     |.ok v st'=>unW st st' λst'=>k v (.wr st.h st'.h) (back st st')
     |_=>.no
    |_=>.no⟩
   ⟨λcall env st k kp=>match (op f).run env with
    |.fn f caps=>match call f (yN (yj (λx=>(op x).run env) args) caps) st with
     |.ok v st'=>k v (.wr st.h st'.h) (back st st')
     |.pn v st'=>kp v (back st st')
     |.no=>.no
    |_=>.no⟩
 |none=>
  match jY P o,o with
  |.pure,_=>X6 P op o λ_ _ _ _=>.none
  |.makes,_=>X6 P op o λ_ _ _ _=>.none
  |.reads,.load _ a=>X6 P op o λv _ _ env=>.rd ((op a).run env) v
  |.reads,_=>⟨λ_ _ _ _ _=>.no⟩
  |.writes,_=>X6 P op o λ_ pre post _=>.wr pre post
  |.other,_=>
   cond w
    ⟨λ_ env st k _=>match (jy P op o).run env (stW st) with
     |.ok v st'=>unW st st' λst'=>k v (.wr st.h st'.h) st'
     |_=>.no⟩
    (X6 P op o λ_ pre post _=>.wr pre post)
def Qz (o:Op):TypeId:=match o with | .load t _=>t|_=>0
def JI (P:Program)(op:Operand->OF)(w:Bool)(l:List (Nat×TypeId))(o:Oper)(next:RD)(pan:AV->St->RD):RD:=
 ⟨λcall n t rs tb st=>(opD P op w o.op).run call ⟨t,rs⟩ st (λv te st'=>
  cond (held P (Qz o.op) te tb l) (next.run call n t ((yQ o.dst).run v rs) (Qal te tb) st') .no)
  (λv st'=>(pan v st').run call n t rs tb st)⟩
def U0 (dst:Option Tmp)(next:RD):RD:=
 ⟨λcall n t rs tb st=>next.run call n t ((yQ dst).run qe rs) (Qal .none tb) st⟩
def QK (w:Option WF)(dst:Option Tmp)(step next:RD):RD:=
 match w with
 |none=>step
 |some w=>⟨λcall n t rs tb st=>match w.run ⟨t,rs⟩ with
  |some b=>cond b (step.run call n t rs tb st) ((U0 dst next).run call n t rs tb st)
  |none=>.no⟩
def wt:RD:=⟨λ_ _ _ _ _ _=>.no⟩
def yr (P:Program)(U:Nat)(ops:Array Oper)(fin:Lc->RD)(pan:Nat->Lc->Lc->AV->St->RD)(abs:Nat->Bool)(l:Lc):Lc->Lc->RD:=
 List.rec (motive:=λ_=>Lc->Lc->RD) (λ_ ns=>fin ns)
  (λi _ ih es ns=>match ops[i]? with
   |some o=>cond (abs i) (U0 o.dst (ih (Qal i es) (qA o.dst ns)))
    (QK (ym (jS U ns) ops o) o.dst
     (JI P (jS U ns) (yO P ops i o) (partners P ops es i o) o (ih (Qal i es) (qA o.dst ns)) (pan i es ns))
     (ih (Qal i es) (qA o.dst ns)))
   |none=>wt) l
def XX (U:Nat)(ns:Lc):RD:=⟨λ_ _ t rs _ st=>.go ((zY U ns).run rs t) st⟩
def jdw (U:Nat)(ops:Array Oper)(i:Nat):Bool:=
 match ops[i]? with
 |some o=>match o.dst with|some d=>!inU U d|none=>true
 |none=>false
def JK (ops:Array Oper)(i:Nat)(k:Nat):Bool:=QcA k i ||inU ((q9 ops.toList).getD k 0) i
def jbt (P:Program)(U:Nat)(ops:Array Oper)(i:Nat):Bool:=
 (ω ops.size).all (λk=>JK ops i k ||jdw U ops k) && (ω i).all λp=>match ops[p]? with
  |some u=>inU ((q9 ops.toList).getD i 0) p ||!(Xj (jY P u.op) ||acts (jY P u.op))
  |none=>false
def Yr (P:Program)(U:Nat)(ops:Array Oper)(i:Nat)(es ns:Lc)(v:AV)(st':St):RD:=
 cond (jbt P U ops i)
  ⟨λcall n t rs tb st=>match (yr P U ops (XX U) (λ_ _ _ _ _=>wt) (JK ops i) (Qag i (QcF ops.size i)) es ns).run call n t rs tb st with
   |.go _ _=>.pn v t st'
   |_=>.no⟩ wt
def wV (P:Program)(U:Nat)(ops:Array Oper):RD:=yr P U ops (XX U) (Yr P U ops) (λ_=>false) (ω ops.size) [] []
def NOC:CF:=⟨λ_ _ _ _=>.no⟩
def joD (P:Program)(U:Nat)(ops:Array Oper)(draw:Bool):CF:=
 match draw with
 |false=>⟨λcall n t st=>(y8 P U ops ops.toList []).run call n t [] st⟩
 |true=>cond (Jx P ops) ⟨λcall n t st=>(wV P U ops).run call n t [] [] st⟩ NOC
def uG (body:CF)(call:qG)(n:Nat)(k:Nat):T AV->St->R:=
 Nat.rec (motive:=λ_=>T AV->St->R) (λ_ _=>.no) (λ_ ih env st=>match body.run call n env st with | .go env st=>ih env st|r=>r) k
def comp (P:Program)(U:Nat)(c:Code):CF:=
 Code.rec (motive:=λ_=>CF)
  ⟨λ_ _ env st=>.go env st⟩
  (λ_ ops d=>joD P U ops d)
  (λ_ _ A B=>⟨λcall n env st=>match A.run call n env st with | .go env st=>B.run call n env st|r=>r⟩)
  (λx _ _ A B=>⟨λcall n env st=>match (jS U [] x).run ⟨env,[]⟩ with | .bool q=>cond q (A.run call n env st) (B.run call n env st)|_=>.no⟩)
  (λid _ A=>⟨λcall n env st=>match A.run call n env st with | .ex id' env st=>cond (QcA id' id) (.go env st) (.ex id' env st)|r=>r⟩)
  (λ_ A=>⟨λcall n env st=>uG A call n n env st⟩)
  (λ_ _ _ _ _ _=>NOC)
  (λid=>⟨λ_ _ env st=>.ex id env st⟩)
  (λ_ _=>NOC)
  (λ_=>NOC)
  (λ_=>NOC)
  ⟨λ_ _ env st=>.rt env st⟩
  (λ_=>NOC)
  c
def jtv (l:Lc)(U:Nat)(x:Operand):Nat:=
 match x with
 |.tmp t=>cond (l.elem t) U (Nat.lor U (Nat.pow 2 t))
 |_=>U
def jeu:List Oper->Lc->Nat->Nat
 |[],_,U=>U
 |o :: rest,l,U=>jeu rest (qA o.dst l) (o.op.operands.toList.foldl (jtv l) U)
def jwI (c:Code):Nat:=
 Code.rec (motive:=λ_=>Nat->Nat)
  (λU=>U)
  (λ_ ops _ U=>jeu ops.toList [] U)
  (λ_ _ A B U=>B (A U))
  (λx _ _ A B U=>B (A (jtv [] U x)))
  (λ_ _ A U=>A U)
  (λ_ A U=>A U)
  (λ_ _ _ _ _ _ U=>U)
  (λ_ U=>U)
  (λ_ A U=>A U)
  (λ_ U=>U)
  (λ_ U=>U)
  (λU=>U)
  (λ_ U=>U)
  c 0
def jou (l:List ResultVar)(U:Nat):Nat:=
 l.foldl (λU r=>match r with | .tmp t=>Nat.lor U (Nat.pow 2 t) | .cell t _=>Nat.lor U (Nat.pow 2 t)) U
def Ji (l:List AV):Nat->T AV->T AV:=
 List.rec (motive:=λ_=>Nat->T AV->T AV) (λ_ env=>env) (λv _ ih i env=>ih (QcB i) ((j2 (jK i)).run v env)) l
structure XF where
 run:Env->St->Option AV
def QO (P:Program)(U:Nat):ResultVar->XF
 |.tmp t=>⟨λenv _=>some ((jS U [] (.tmp t)).run env)⟩
 |.cell a t=>⟨λenv st=>(qV P t).run ((jS U [] (.tmp a)).run env) st.h⟩
def yD (P:Program)(U:Nat)(l:List ResultVar)(env:Env)(st:St):Option (List AV):=
 List.rec (motive:=λ_=>Option (List AV)) (some []) (λr _ ih=>match (QO P U r).run env st,ih with|some v,some vs=>some (Qal v vs)|_,_=>none) l
def zB (l:List AV):AV:=
 match l with
 |[v]=>v
 |vs=>.tup vs
def St.bare (st:St):St:=⟨st.nx,st.h,st.dirty,[]⟩
structure DF where
 run:FuncId->List AV->Md->St->DR
def zo (P:Program)(U:Nat)(callD:DF)(res:List ResultVar)(ds:List (FuncId×List AV)):T AV->St->Md->ER:=
 List.rec (motive:=λ_=>T AV->St->Md->ER)
  (λenv st m=>match m with
   |.calm=>(match yD P U res ⟨env,[]⟩ st with|some vs=>.ok (zB vs) st|none=>.no)
   |.pan v=>.pn v st
   |.done=>.no)
  (λd _ ih env st m=>match callD.run d.1 d.2 m st.bare with
   |.ok m' st'=>(match m' with
    |.calm=>ih env st'.bare .calm
    |.pan v=>ih env st'.bare (.pan v)
    |.done=>ih env st'.bare .calm)
   |.no=>.no) ds
def yc (fn:Func)(body:Code):Nat:=jou fn.results.toList (jwI body)
def jdH (P:Program)(f:FuncId)(k:Func->Nat->CF->FF):FF:=
 match P.funcs[f]? with
 |some fn=>match fn.body with
  |some body=>k fn (yc fn body) (comp P (yc fn body) body)
  |none=>⟨λ_ _ _ _=>.no⟩
 |none=>⟨λ_ _ _ _=>.no⟩
structure HF where
 run:qG->Nat->List AV->Md->St->DR
def NOH:HF:=⟨λ_ _ _ _ _=>.no⟩
def Xc (m:Md):AV:=match m with | .pan v=>v|_=>.nilif
def XV (m:Md):Md:=match m with | .pan _=>.done|m=>m
def hY (P:Program)(fn:Func)(U:Nat)(m:Md)(r:R):DR:=
 match r with
 |.go env st=>(match st.fr with|[]=>(match yD P U fn.results.toList ⟨env,[]⟩ st with|some _=>.ok m st|none=>.no)|_=>.no)
 |.rt env st=>(match st.fr with|[]=>(match yD P U fn.results.toList ⟨env,[]⟩ st with|some _=>.ok m st|none=>.no)|_=>.no)
 |_=>.no
def uI (o:Oper):Bool:=
 match o.op with
 |.call c=>(match c.callee with
  |.builtin .recover=>(match c.args.toList,o.guard with|[],none=>true|_,_=>false)
  |_=>false)
 |_=>false
def GG (P:Program)(fn:Func)(U:Nat)(o:Oper)(A:RF)(B:CF):HF:=
 ⟨λcall n args m st=>hY P fn U (XV m) (match A.run call n (Ji args 0 .e) ((yQ o.dst).run (Xc m) []) st with
  |.go env st=>B.run call n env st
  |r=>r)⟩
def yT (P:Program)(f:FuncId):HF:=
 match P.funcs[f]? with
 |some fn=>
  match fn.body with
  |some (.seq (.region id ops false) c)=>
   match ops.toList with
   |o :: l=>cond (uI o) (GG P fn (yc fn (.seq (.region id ops false) c)) o (y8 P (yc fn (.seq (.region id ops false) c)) ops l (qA o.dst []))
    (comp P (yc fn (.seq (.region id ops false) c)) c)) NOH
   |[]=>NOH
  |some (.region id ops false)=>
   match ops.toList with
   |o :: l=>cond (uI o) (GG P fn (yc fn (.region id ops false)) o (y8 P (yc fn (.region id ops false)) ops l (qA o.dst [])) ⟨λ_ _ env st=>.go env st⟩) NOH
   |[]=>NOH
  |_=>NOH
 |none=>NOH
def XR (P:Program)(f:FuncId):FF:=
 jdH P f λfn U C=>⟨λcall n args st=>match C.run call n (Ji args 0 .e) ⟨st.nx,st.h,st.dirty,[]⟩ with
  |.go env st=>zo P U ⟨λf args m st=>(yT P f).run call n args m st⟩ fn.results.toList st.fr env st.bare .calm
  |.rt env st=>zo P U ⟨λf args m st=>(yT P f).run call n args m st⟩ fn.results.toList st.fr env st.bare .calm
  |.pn v env st=>zo P U ⟨λf args m st=>(yT P f).run call n args m st⟩ fn.results.toList st.fr env st.bare (.pan v)
  |_=>.no⟩
def Gw (P:Program)(loops depth:Nat):qG:=
 Nat.rec (motive:=λ_=>qG) (λ_ _ _=>.no) (λ_ ih f args st=>(XR P f).run ih loops args st) depth
def st0:St:={ nx:=0,h:=.e,dirty:=0,fr:=[] }
def Xp (n:Nat)(c:Code):Bool:=
 Code.rec (motive:=λ_=>Bool)
  true
  (λ_ ops _=>Ga (λo=>match o.dst with|some d=>QcC (QcB d) n|none=>true) ops.toList)
  (λ_ _ a b=>cond a b false)
  (λ_ _ _ a b=>cond a b false)
  (λ_ _ a=>a)
  (λ_ a=>a)
  (λ_ _ _ _ a b=>cond a b false)
  (λ_=>true)
  (λ_ a=>a)
  (λ_=>true)
  (λ_=>true)
  true
  (λ_=>true)
  c
def okP (P:Program):Bool:=
 Ga (λfn => match fn.body with | none => true | some c => cond (Xp fn.ntmps c) (!(fn.name == "runtime.NumGoroutine")) false) P.funcs.toList
def jiX:ER->Bool
 |.ok (.bool b) _=>b
 |_=>false
end plain
@[simp] theorem jF {α:Type} (n:Nat) (k:Nat->α):force n k=k n:=by cases n<;>rfl
def GI (f n:Nat):List Bool:=
 Nat.rec (motive:=λ_=>Nat->List Bool) (λ_=>[]) (λ_ ih n=>cond (QcA n 0) [] (Qal (QcA (Nat.mod n 2) 1) (ih (Nat.div n 2)))) f n
theorem jdI (n:Nat):jK n=GI (n+1) n:=rfl
theorem jhm (f n:Nat):GI (f+1) n=if n=0 then [] else decide (n % 2=1) :: GI f (n / 2):=by
 show cond (QcA n 0) [] (Qal (QcA (Nat.mod n 2) 1) (GI f (Nat.div n 2)))=_;by_cases h:n=0
 .subst h;rfl
 .have hb:QcA n 0=false:=by
   cases n with
   |zero=>exact absurd rfl h
   |succ n=>rfl
  rw[hb,if_neg h];have:QcA (Nat.mod n 2) 1=decide (n % 2=1):=by
   rw[Qaw,decide_eq_true_iff];exact Nat.beq_eq▸Iff.rfl
  rw[this];rfl
def Wj:List Bool->Nat
 |[]=>0
 |b :: l=>(if b then 1 else 0)+2 * Wj l
theorem k7 (f:Nat):∀ n,n<f->Wj (GI f n)=n:=by
 induction f with
 |zero=>intro n h;omega
 |succ f ih=>
  intro n h;rw[jhm];by_cases h0:n=0
  .simp[h0,Wj]
  .simp only[if_neg h0,Wj];rw[ih (n / 2) om];by_cases h1:n % 2=1
   .simp[h1];omega
   .simp[h1];omega
theorem jjP {m n:Nat}(h:jK m=jK n):m=n:=by
 have h1:=k7 (m+1) m om;have h2:=k7 (n+1) n om;have e:Wj (jK m)=Wj (jK n):=by rw[h]
 rw[jdI,jdI] at e;exact h1.symm.trans (e.trans h2)
section
variable {α:Type}
theorem je7 (t:T α):(QX (α:=α) []).run t=t.val:=rfl
theorem vY (b:Bool)(p:List Bool)(t:T α):(QX (b :: p)).run t=(QX p).run (if b then t.left else t.right):=by
 cases b<;>rfl
theorem Hk (x:α)(t:T α):((j2 []).run x t).val=some x/\((j2 []).run x t).left=t.left/\((j2 []).run x t).right=t.right:=by
 cases t<;>exact⟨rfl,rfl,rfl⟩
theorem Ko (b:Bool)(p:List Bool)(x:α)(t:T α):((j2 (b :: p)).run x t).val=t.val /\
  ((j2 (b :: p)).run x t).left=(if b then(j2 p).run x t.left else t.left)/\((j2 (b :: p)).run x t).right=(if b then t.right else(j2 p).run x t.right):=by
 cases b<;>cases t<;>exact⟨rfl,rfl,rfl⟩
theorem Um:∀ (p q:List Bool) (x:α) (t:T α),(QX p).run ((j2 q).run x t)=if p=q then some x else(QX p).run t
 |[],[],x,t=>by simp[je7,(Hk x t).1]
 |[],b :: q,x,t=>by simp[je7,(Ko b q x t).1]
 |b :: p,[],x,t=>by
  rw[vY,vY,(Hk x t).2.1,(Hk x t).2.2];simp
 |b :: p,c :: q,x,t=>by
  rw[vY,vY,(Ko c q x t).2.1,(Ko c q x t).2.2];cases b<;>cases c<;>simp[Um p q]
theorem YH (m n:Nat)(x:α)(t:T α):(QX (jK m)).run ((j2 (jK n)).run x t)=if m=n then some x else(QX (jK m)).run t:=by
 rw[Um];by_cases h:m=n
 .subst h;simp
 .have:jK m≠jK n:=λe=>h (jjP e);simp[h,this]
theorem XM (p:List Bool):(QX p).run (.e:T α)=none:=by
 induction p with
 |nil=>rfl
 |cons b p ih=>rw[vY];cases b<;>exact ih
end
theorem Hz (h:T AO)(b:Nat):jv h b=(QX (jK b)).run h:=by simp[jv]
theorem jW (h:T AO)(b c:Nat)(o:AO):jv ((j2 (jK c)).run o h) b=if b=c then some o else jv h b:=by
 rw[Hz,YH,Hz]
theorem jsw (b:Nat):jv .e b=none:=by rw[Hz,XM]
section
variable {α β:Type}
@[simp] theorem jO (l:List α):jP l=l.length:=by
 induction l with
 |nil=>rfl
 |cons a l ih=>show force (jP l) QcB=_;rw[ih];simp
@[simp] theorem zM (d:α):∀ (l:List α) (i:Nat),yt d l i=l.getD i d
 |[],i=>rfl
 |a :: l,0=>rfl
 |a :: l,i+1=>by show yt d l i=_;rw[zM d l i];simp
@[simp] theorem yX:∀ (l:List α) (i:Nat),zp l i=l.drop i
 |[],i=>by simp[zp]
 |a :: l,0=>rfl
 |a :: l,i+1=>by show zp l i=_;rw[yX l i];simp
@[simp] theorem qX:∀ (l:List α) (i:Nat),yl l i=l.take i
 |[],i=>by simp[yl]
 |a :: l,0=>rfl
 |a :: l,i+1=>by show a :: yl l i=_;rw[qX l i];simp
@[simp] theorem yu (l r:List α):yN l r=l ++ r:=by
 induction l with
 |nil=>rfl
 |cons a l ih=>show a :: yN l r=_;rw[ih];rfl
@[simp] theorem yG (f:α->β) (l:List α):yj f l=l.map f:=by
 induction l with
 |nil=>rfl
 |cons a l ih=>show f a :: yj f l=_;rw[ih];rfl
end
@[simp] theorem Wu (p:AV->Bool) (l:List AV):lall p l=l.all p:=by
 induction l with
 |nil=>rfl
 |cons a l ih=>show cond (p a) (lall p l) false=_;rw[ih];cases h:p a<;>simp[h]
theorem yP (zl:Nat)(z:List AV)(cs:T AV)(i:Nat):qD zl z cs i=((QX (jK i)).run cs).getD (z.getD (i % zl) .bad):=by
 simp only[qD,jF,zM];cases (QX (jK i)).run cs<;>rfl
@[simp] theorem qm (zl:Nat) (z:List AV) (cs:T AV):∀ (k i:Nat),jR zl z cs k i=(ω k).map λj=>qD zl z cs (i+j)
 |0,i=>rfl
 |k+1,i=>by
  show qD zl z cs i :: jR zl z cs k (QcB i)=_;rw[qm zl z cs k,List.range_succ_eq_map];simp only[ζ,Qbq,Qbc]
  congr 1
  apply QaR;intro j _;simp only[Function.comp]
  congr 1
  omega
theorem jd6 (zl:Nat)(z:List AV)(cs:T AV)(i j:Nat)(v:AV):qD zl z ((j2 (jK j)).run v cs) i=if i=j then v else qD zl z cs i:=by
 rw[yP,yP,YH];split<;>rfl
theorem yU (zl:Nat)(z:List AV):∀ (l:List AV) (cs:T AV) (j i:Nat),
  qD zl z (qk l cs j) i=if j<=i/\i<j+l.length then l.getD (i - j) .bad else qD zl z cs i
 |[],cs,j,i=>by
  have:¬ (j<=i/\i<j+([]:List AV).length):=by simp
  rw[if_neg this];rfl
 |v :: l,cs,j,i=>by
  have e:qk (v :: l) cs j=qk l ((j2 (jK j)).run v cs) (j+1):=by
   show(force j λi=>qk l ((j2 (jK i)).run v cs) (QcB i))=_;rw[jF]
  rw[e,yU zl z l,jd6];by_cases h:i=j
  .subst h;simp;omega
  .by_cases h2:j+1<=i/\i<j+1+l.length
   .have h3:j<=i/\i<j+(v :: l).length:=by simp;omega
    rw[if_pos h2,if_pos h3];obtain⟨k,hk⟩:∃ k,i - j=k+1:=⟨i - j - 1,om⟩;rw[hk];have:i - (j+1)=k:=om
    simp[this]
   .have h3:¬ (j<=i/\i<j+(v :: l).length):=by simp at h2 ⊢;omega
    rw[if_neg h2,if_neg h3,if_neg h]
theorem qJ {a b:Nat}:QcA a b=true↔a=b:=by rw[Nat.beq_eq]
theorem qi {a b:Nat}:QcC a b=true↔a<=b:=by rw[Nat.ble_eq]
open Go.RowKit
inductive Loc where
 |unborn
 |dead
 |at (B S:Nat)
structure Inj where
 f:Nat->Loc
 g:Nat->Option (List Value)
instance:CoeFun Inj λ_=>Nat->Loc:=⟨Inj.f⟩
def Inj.gone (ι:Inj):Inj:=⟨λ_=>.unborn,ι.g⟩
mutual
def VR (ι:Inj):AV->Value->Prop
 |.bool b,v=>v=.bool b
 |.int k n,v=>v=.int k n
 |.str s,v=>∃ bs:ByteArray,v=.string bs/\bs.data.toList.map UInt8.toNat=s
 |.zstr n,v=>∃ bs:ByteArray,v=.string bs/\bs.size=n
 |.ptr b o,v=>ι b≠.unborn/\∃ a,v=.pointer (some a)/\∀ B S,ι b=.at B S->a=⟨B,o,none⟩
 |.nilp,v=>v=.pointer none
 |.slice b o len cap sz ex,v=>ι b≠.unborn/\len<=cap/\∃ a C,v=.slice (some a) len C/\cap<=C/\(ex=true->C=cap)/\∀ B S,ι b=.at B S->(C=0\/a=⟨B,o,none⟩)/\(ex=false->o+C * sz<=S)
 |.nils,v=>v=.slice none 0 0
 |.map r,v=>ι r≠.unborn/\∃ R,v=.map (some R)/\∀ B S,ι r=.at B S->R=B
 |.nilm,v=>v=.map none
 |.fn f caps,v=>∃ cv:Array Value,v=.func (.func f) #[] cv/\VRs ι caps cv.toList
 |.nilf,v=>v=.nilFunc
 |.iface t x,v=>∃ y,v=.iface t y/\VR ι x y
 |.nilif,v=>v=.nilIface
 |.agg cs,v=>∃ a:Array Value,v=.agg a/\VRs ι cs a.toList
 |.tup vs,v=>∃ a:Array Value,v=.tuple a/\VRs ι vs a.toList
 |.xlst n cs,v=>∃ p,v=.slice p n n/\cs.all AV.cell=true/\(0<n->∃ B o vs,p=some ⟨B,o,none⟩/\ι.g B=some vs/\o+cs.length<=vs.length/\VRs ι.gone cs ((vs.drop o).take cs.length))
 |.lst n cs,v=>∃ p C,v=.slice p n C/\n<=C/\cs.all AV.cell=true/\(0<n->∃ B o vs,p=some ⟨B,o,none⟩/\ι.g B=some vs/\o+cs.length<=vs.length/\VRs ι.gone cs ((vs.drop o).take cs.length))
 |.lptr cs k,v=>∃ B o vs,v=.pointer (some ⟨B,o+k,none⟩)/\cs.all AV.cell=true/\ι.g B=some vs/\o+cs.length<=vs.length/\VRs ι.gone cs ((vs.drop o).take cs.length)
 |.bad,_=>True
def VRs (ι:Inj):List AV->List Value->Prop
 |[],l=>l=[]
 |x :: xs,l=>∃ v vs,l=v :: vs/\VR ι x v/\VRs ι xs vs
end
def Le (ι ι':Inj):Prop:=(∀ b,ι b≠.unborn->ι' b=ι b\/ι' b=.dead)/\∀ B vs,ι.g B=some vs->ι'.g B=some vs
theorem Le.refl (ι:Inj):Le ι ι:=⟨λ_ _=>.inl rfl,λ_ _ h=>h⟩
theorem Le.trans {a b c:Inj}(h:Le a b)(k:Le b c):Le a c:=⟨λx hx=>by
 rcases h.1 x hx with e|e
 .have:b x≠.unborn:=by rw[e];exact hx
  rcases k.1 x this with e'|e'
  .exact .inl (e'.trans e)
  .exact .inr e'
 .have:b x≠.unborn:=by rw[e];simp
  rcases k.1 x this with e'|e'
  .exact .inr (e'.trans e)
  .exact .inr e',λB vs hB=>k.2 B vs (h.2 B vs hB)⟩
theorem Le.born {ι ι':Inj}(h:Le ι ι'){b:Nat}(hb:ι b≠.unborn):ι' b≠.unborn:=by
 rcases h.1 b hb with e|e
 .rw[e];exact hb
 .rw[e];simp
theorem Le.at {ι ι':Inj}(h:Le ι ι'){b B S:Nat}(hb:ι b≠.unborn)(e:ι' b=.at B S):ι b=.at B S:=by
 rcases h.1 b hb with k|k
 .rw[<-k];exact e
 .rw[k] at e;cases e
mutual
theorem VR.gmono {ι ι':Inj}(h:∀ B vs,ι.g B=some vs->ι'.g B=some vs):∀ (x:AV) (v:Value),VR ι.gone x v->VR ι'.gone x v
 |.bool _,_,k=>k
 |.int _ _,_,k=>k
 |.str _,_,k=>k
 |.zstr _,_,k=>k
 |.ptr b o,v,k=>by simp only[VR] at k;exact absurd rfl k.1
 |.nilp,_,k=>k
 |.slice b o len cap sz ex,v,k=>by simp only[VR] at k;exact absurd rfl k.1
 |.nils,_,k=>k
 |.map r,v,k=>by simp only[VR] at k;exact absurd rfl k.1
 |.nilm,_,k=>k
 |.fn f caps,v,k=>by
  simp only[VR] at k ⊢;obtain⟨cv,rfl,hc⟩:=k;exact⟨cv,rfl,VRs.gmono h caps _ hc⟩
 |.nilf,_,k=>k
 |.iface t x,v,k=>by
  simp only[VR] at k ⊢;obtain⟨y,rfl,hy⟩:=k;exact⟨y,rfl,VR.gmono h x y hy⟩
 |.nilif,_,k=>k
 |.agg cs,v,k=>by
  simp only[VR] at k ⊢;obtain⟨cv,rfl,hc⟩:=k;exact⟨cv,rfl,VRs.gmono h cs _ hc⟩
 |.tup cs,v,k=>by
  simp only[VR] at k ⊢;obtain⟨cv,rfl,hc⟩:=k;exact⟨cv,rfl,VRs.gmono h cs _ hc⟩
 |.lst n cs,v,k=>by
  simp only[VR] at k ⊢;obtain⟨p,C,rfl,hC,hc,hn⟩:=k;exact⟨p,C,rfl,hC,hc,λh0=>let ⟨B,o,vs,e1,e2,e3,e4⟩:=hn h0;⟨B,o,vs,e1,h B vs e2,e3,VRs.gmono h cs _ e4⟩⟩
 |.xlst n cs,v,k=>by
  simp only[VR] at k ⊢;obtain⟨p,rfl,hc,hn⟩:=k;exact⟨p,rfl,hc,λh0=>let ⟨B,o,vs,e1,e2,e3,e4⟩:=hn h0;⟨B,o,vs,e1,h B vs e2,e3,VRs.gmono h cs _ e4⟩⟩
 |.lptr cs o,v,k=>by
  simp only[VR] at k ⊢;obtain⟨B,o',vs,e1,e0,e2,e3,e4⟩:=k;exact⟨B,o',vs,e1,e0,h B vs e2,e3,VRs.gmono h cs _ e4⟩
 |.bad,_,k=>k
theorem VRs.gmono {ι ι':Inj}(h:∀ B vs,ι.g B=some vs->ι'.g B=some vs):∀ (xs:List AV) (vs:List Value),VRs ι.gone xs vs->VRs ι'.gone xs vs
 |[],_,k=>k
 |x :: xs,l,k=>by
  simp only[VRs] at k ⊢;obtain⟨v,vs,rfl,h1,h2⟩:=k;exact⟨v,vs,rfl,VR.gmono h x v h1,VRs.gmono h xs vs h2⟩
end
mutual
theorem VR.mono {ι ι':Inj}(h:Le ι ι'):∀ (x:AV) (v:Value),VR ι x v->VR ι' x v
 |.bool _,_,k=>k
 |.int _ _,_,k=>k
 |.str _,_,k=>k
 |.zstr _,_,k=>k
 |.ptr b o,v,k=>by
  simp only[VR] at k ⊢;obtain⟨hb,a,rfl,ha⟩:=k;exact⟨h.born hb,a,rfl,λB S e=>ha B S (h.at hb e)⟩
 |.nilp,_,k=>k
 |.slice b o len cap sz ex,v,k=>by
  simp only[VR] at k ⊢;obtain⟨hb,hl,a,C,rfl,hc,he,ha⟩:=k;exact⟨h.born hb,hl,a,C,rfl,hc,he,λB S e=>ha B S (h.at hb e)⟩
 |.nils,_,k=>k
 |.map r,v,k=>by
  simp only[VR] at k ⊢;obtain⟨hb,a,rfl,ha⟩:=k;exact⟨h.born hb,a,rfl,λB S e=>ha B S (h.at hb e)⟩
 |.nilm,_,k=>k
 |.fn f caps,v,k=>by
  simp only[VR] at k ⊢;obtain⟨cv,rfl,hc⟩:=k;exact⟨cv,rfl,VRs.mono h caps _ hc⟩
 |.nilf,_,k=>k
 |.iface t x,v,k=>by
  simp only[VR] at k ⊢;obtain⟨y,rfl,hy⟩:=k;exact⟨y,rfl,VR.mono h x y hy⟩
 |.nilif,_,k=>k
 |.agg cs,v,k=>by
  simp only[VR] at k ⊢;obtain⟨cv,rfl,hc⟩:=k;exact⟨cv,rfl,VRs.mono h cs _ hc⟩
 |.tup cs,v,k=>by
  simp only[VR] at k ⊢;obtain⟨cv,rfl,hc⟩:=k;exact⟨cv,rfl,VRs.mono h cs _ hc⟩
 |.lst n cs,v,k=>by
  simp only[VR] at k ⊢;obtain⟨p,C,rfl,hC,hc,hn⟩:=k;exact⟨p,C,rfl,hC,hc,λh0=>let ⟨B,o,vs,e1,e2,e3,e4⟩:=hn h0;⟨B,o,vs,e1,h.2 B vs e2,e3,VRs.gmono h.2 cs _ e4⟩⟩
 |.xlst n cs,v,k=>by
  simp only[VR] at k ⊢;obtain⟨p,rfl,hc,hn⟩:=k;exact⟨p,rfl,hc,λh0=>let ⟨B,o,vs,e1,e2,e3,e4⟩:=hn h0;⟨B,o,vs,e1,h.2 B vs e2,e3,VRs.gmono h.2 cs _ e4⟩⟩
 |.lptr cs o,v,k=>by
  simp only[VR] at k ⊢;obtain⟨B,o',vs,e1,e0,e2,e3,e4⟩:=k;exact⟨B,o',vs,e1,e0,h.2 B vs e2,e3,VRs.gmono h.2 cs _ e4⟩
 |.bad,_,k=>k
theorem VRs.mono {ι ι':Inj}(h:Le ι ι'):∀ (xs:List AV) (vs:List Value),VRs ι xs vs->VRs ι' xs vs
 |[],_,k=>k
 |x :: xs,l,k=>by
  simp only[VRs] at k ⊢;obtain⟨v,vs,rfl,h1,h2⟩:=k;exact⟨v,vs,rfl,VR.mono h x v h1,VRs.mono h xs vs h2⟩
end
theorem Le.gone (ι:Inj):Le ι.gone ι:=⟨λb hb=>absurd rfl hb,λ_ _ h=>h⟩
theorem VRs.back {ι:Inj}{xs:List AV}{vs:List Value}(h:VRs ι.gone xs vs):VRs ι xs vs:=VRs.mono (Le.gone ι) _ _ h
theorem VRs.length {ι:Inj}:∀ {xs:List AV} {vs:List Value},VRs ι xs vs->vs.length=xs.length
 |[],_,h=>by simp only[VRs] at h;simp[h]
 |x :: xs,l,h=>by
  simp only[VRs] at h;obtain⟨v,vs,rfl,_,h2⟩:=h;simp[VRs.length h2]
theorem VRs.get {ι:Inj}:∀ {xs:List AV} {vs:List Value},VRs ι xs vs->∀ i,i<xs.length->VR ι (xs.getD i .bad) (vs.getD i undef)
 |[],_,_,i,hi=>by simp at hi
 |x :: xs,l,h,i,hi=>by
  simp only[VRs] at h;obtain⟨v,vs,rfl,h1,h2⟩:=h;cases i with
  |zero=>exact h1
  |succ i=>simpa using VRs.get h2 i (by simpa using hi)
theorem VRs.of_get {ι:Inj}:∀ {xs:List AV} {vs:List Value},vs.length=xs.length->(∀ i,i<xs.length->VR ι (xs.getD i .bad) (vs.getD i undef))->VRs ι xs vs
 |[],vs,hl,_=>by simp only[VRs];exact Qbi hl
 |x :: xs,[],hl,_=>by simp at hl
 |x :: xs,v :: vs,hl,h=>by
  simp only[VRs];refine⟨v,vs,rfl,?_,VRs.of_get (by simpa using hl) λi hi=>?_⟩
  .simpa using h 0 hac
  .simpa using h (i+1) (by simpa using hi)
theorem VRs.append {ι:Inj}:∀ {xs:List AV} {vs:List Value} {ys:List AV} {us:List Value},VRs ι xs vs->VRs ι ys us->VRs ι (xs ++ ys) (vs ++ us)
 |[],_,ys,us,h,k=>by simp only[VRs] at h;subst h;exact k
 |x :: xs,_,ys,us,h,k=>by
  simp only[VRs] at h;obtain⟨v,vs,rfl,h1,h2⟩:=h;simp only[Qai,VRs];exact⟨v,vs ++ us,rfl,h1,VRs.append h2 k⟩
theorem VRs.take {ι:Inj}{xs:List AV}{vs:List Value}(h:VRs ι xs vs)(n:Nat):VRs ι (xs.take n) (vs.take n):=by
 refine VRs.of_get (by simp[h.length]) λi hi=>?_;have hi':i<n/\i<xs.length:=by simpa[Nat.lt_min] using hi
 have:=h.get i hi'.2;simpa[Qaf,QbH,hi'.1] using this
theorem VRs.drop {ι:Inj}{xs:List AV}{vs:List Value}(h:VRs ι xs vs)(n:Nat):VRs ι (xs.drop n) (vs.drop n):=by
 refine VRs.of_get (by simp[h.length]) λi hi=>?_;simp at hi;have:=h.get (n+i) om;simpa[Qaf,QbR] using this
theorem VRs.map_of {ι:Inj}{α:Type}{f:α->AV}{g:α->Value}:∀ (l:List α),(∀ x∈l,VR ι (f x) (g x))->VRs ι (l.map f) (l.map g)
 |[],_=>by simp[VRs]
 |x :: l,h=>by
  simp only[ζ,VRs];exact⟨_,_,rfl,h x hac,VRs.map_of l λy hy=>h y (by simp[hy])⟩
def MR (ι:Inj):List (AV×AV)->List MapEntry->Prop
 |[],l=>l=[]
 |e :: es,l=>∃ x xs,l=x :: xs/\VR ι e.1 x.key/\VR ι e.2 x.val/\MR ι es xs
theorem MR.mono {ι ι':Inj}(h:Le ι ι'):∀ (es:List (AV×AV)) (l:List MapEntry),MR ι es l->MR ι' es l
 |[],_,k=>k
 |e :: es,l,k=>by
  simp only[MR] at k ⊢;obtain⟨x,xs,rfl,h1,h2,h3⟩:=k;exact⟨x,xs,rfl,VR.mono h _ _ h1,VR.mono h _ _ h2,MR.mono h es xs h3⟩
def OR (ι:Inj)(S:Nat):AO->Obj->Prop
 |.row n zl z cs,x=>∃ c elem lo hi,x=.cells c elem (lo,hi)/\c.size=S/\n<=S/\(hi<=lo\/S<=lo) /\
  ∀ i,i<n->(qD zl z cs i).cell=true/\∃ v,c[i]? = some v/\VR ι (qD zl z cs i) v
 |.map es,x=>∃ ens clock,x=.map ens clock/\MR ι es ens.toList
 |.iter s pos,x=>∃ bs:ByteArray,x=.stringIter bs pos/\bs.data.toList.map UInt8.toNat=s
 |.dead,_=>False
theorem OR.mono {ι ι':Inj}(h:Le ι ι'){S:Nat}:∀ (o:AO) (x:Obj),OR ι S o x->OR ι' S o x
 |.row n zl z cs,x,k=>by
  simp only[OR] at k ⊢;obtain⟨c,elem,lo,hi,rfl,h1,h2,h3,h4⟩:=k;exact⟨c,elem,lo,hi,rfl,h1,h2,h3,λi hi=>let ⟨a,v,b,c⟩:=h4 i hi;⟨a,v,b,VR.mono h _ _ c⟩⟩
 |.map es,x,k=>by
  simp only[OR] at k ⊢;obtain⟨ens,clock,rfl,hm⟩:=k;exact⟨ens,clock,rfl,MR.mono h _ _ hm⟩
 |.iter s pos,x,k=>k
 |.dead,_,k=>k
def Froz (ι:Inj)(w:World)(B:Nat)(vs:List Value):Prop:=(∃ c elem lo hi,w.heap[B]? = some (.cells c elem (lo,hi))/\c.toList=vs/\True)/\∀ b S,ι b≠.at B S
theorem Froz.lt {ι:Inj}{w:World}{B:Nat}{vs:List Value}(h:Froz ι w B vs):B<w.heap.size:=by
 obtain⟨⟨c,e,lo,hi,h1,_⟩,_⟩:=h;exact(Qax.1 h1).1
structure Grew (ι:Inj)(w:World)(ι':Inj)(w':World):Prop where
 os:w'.os=w.os
 tape:w'.tape=w.tape
 output:w'.output=w.output
 size:w.heap.size<=w'.heap.size
 keep:∀ k,k<w.heap.size->(∀ b S,ι b≠.at k S)->w'.heap[k]? = w.heap[k]?
 new:∀ b B S,ι' b=.at B S->(∃ c S',ι c=.at B S')\/w.heap.size<=B
 gl:∀ B vs,ι'.g B=some vs->ι.g B=some vs\/Froz ι' w' B vs/\((∃ c S,ι c=.at B S)\/w.heap.size<=B)
theorem Froz.grew {ι ι':Inj}{w w':World}{B:Nat}{vs:List Value}(h:Froz ι w B vs)(g:Grew ι w ι' w'):Froz ι' w' B vs:=by
 have hs:=h.lt;obtain⟨⟨c,e,lo,hi,h1,h3⟩,h2⟩:=h;refine⟨⟨c,e,lo,hi,(g.keep B hs h2).trans h1,h3⟩,λb S e=>?_⟩;rcases g.new b B S e with ⟨c,S',e'⟩|e'
 .exact h2 c S' e'
 .omega
def Gl (ι:Inj)(w:World):Prop:=((∃ te pe,w.cell? ⟨1,0,none⟩=some (.iface te pe))/\∀ b S,ι b≠.at 1 S)/\∀ B vs,ι.g B=some vs->Froz ι w B vs
theorem Gl.grew {ι ι':Inj}{w w':World}(h:Gl ι w)(g:Grew ι w ι' w'):Gl ι' w':=by
 obtain⟨⟨⟨te,pe,h1⟩,h2⟩,h3⟩:=h;have hs:1<w.heap.size:=by
  unfold World.cell? at h1;rcases Qaq 1 w.heap.size with h|h
  .exact h
  .rw[Array.getElem?_eq_none (by simpa using h)] at h1;simp at h1
 refine⟨⟨⟨te,pe,?_⟩,λb S e=>?_⟩,λB vs hB=>?_⟩
 .have:=g.keep 1 hs h2;unfold World.cell? at h1 ⊢;rw[this];exact h1
 .rcases g.new b 1 S e with ⟨c,S',e'⟩|e'
  .exact h2 c S' e'
  .omega
 .rcases g.gl B vs hB with h|h
  .exact(h3 B vs h).grew g
  .exact h.1
structure Sim (ι:Inj)(h:T AO)(nx:Nat)(w:World):Prop where
 obj:∀ b B S,ι b=.at B S->∃ o x,jv h b=some o/\w.heap[B]? = some x/\OR ι S o x
 gone:∀ b,ι b=.dead->∀ o,jv h b=some o->o=.dead
 inj:∀ b b' B S S',ι b=.at B S->ι b'=.at B S'->b=b'
 born:∀ b,ι b≠.unborn->b<nx
 glob:Gl ι w
theorem Sim.lt {ι:Inj}{h:T AO}{nx:Nat}{w:World}(k:Sim ι h nx w){b B S:Nat}(e:ι b=.at B S):B<w.heap.size:=by
 obtain⟨o,x,_,hx,_⟩:=k.obj b B S e;exact(Qax.1 hx).1
theorem Sim.row {ι:Inj}{h:T AO}{nx:Nat}{w:World}(k:Sim ι h nx w){b n zl:Nat}{z:List AV}{cs:T AV}(hb:ι b≠.unborn)(e:jv h b=some (.row n zl z cs)) :
  ∃ B S c elem lo hi,ι b=.at B S/\w.heap[B]? = some (.cells c elem (lo,hi))/\c.size=S/\n<=S/\(hi<=lo\/S<=lo) /\
   ∀ i,i<n->(qD zl z cs i).cell=true/\∃ v,c[i]? = some v/\VR ι (qD zl z cs i) v:=by
 cases hι:ι b with
 |unborn=>exact absurd hι hb
 |dead=>have:=k.gone b hι _ e;cases this
 |«at» B S=>
  obtain⟨o,x,ho,hx,hr⟩:=k.obj b B S hι;rw[e] at ho;cases ho;simp only[OR] at hr;obtain⟨c,elem,lo,hi,rfl,h1,h2,h3,h4⟩:=hr;exact⟨B,S,c,elem,lo,hi,rfl,hx,h1,h2,h3,h4⟩
theorem Sim.map {ι:Inj}{h:T AO}{nx:Nat}{w:World}(k:Sim ι h nx w){b:Nat}{es:List (AV×AV)}(hb:ι b≠.unborn)(e:jv h b=some (.map es)) :
  ∃ B S ens clock,ι b=.at B S/\w.heap[B]? = some (.map ens clock)/\MR ι es ens.toList:=by
 cases hι:ι b with
 |unborn=>exact absurd hι hb
 |dead=>have:=k.gone b hι _ e;cases this
 |«at» B S=>
  obtain⟨o,x,ho,hx,hr⟩:=k.obj b B S hι;rw[e] at ho;cases ho;simp only[OR] at hr;obtain⟨ens,clock,rfl,hm⟩:=hr;exact⟨B,S,ens,clock,rfl,hx,hm⟩
theorem Grew.refl (ι:Inj)(w:World):Grew ι w ι w:=⟨rfl,rfl,rfl,η _,λ_ _ _=>rfl,λb B S e=>.inl ⟨b,S,e⟩,λ_ _ h=>.inl h⟩
theorem Grew.trans {ι ι' ι'':Inj}{w w' w'':World}(h:Grew ι w ι' w')(k:Grew ι' w' ι'' w''):Grew ι w ι'' w'':=by
 refine⟨k.os.trans h.os,k.tape.trans h.tape,k.output.trans h.output,χ h.size k.size,λj hj hn=>?_,λb B S e=>?_,λB vs hB=>?_⟩
 .rw[k.keep j (Qat hj h.size) λb S e=>?_]
  .exact h.keep j hj hn
  .rcases h.new b j S e with ⟨c,S',e'⟩|e'
   .exact hn c S' e'
   .omega
 .rcases k.new b B S e with ⟨c,S',e'⟩|e'
  .exact h.new c B S' e'
  .exact .inr (χ h.size e')
 .rcases k.gl B vs hB with e|⟨e,e'⟩
  .rcases h.gl B vs e with e|⟨e,e'⟩
   .exact .inl e
   .exact .inr ⟨e.grew k,e'⟩
  .refine .inr ⟨e,?_⟩;rcases e' with ⟨c,S,e'⟩|e'
   .exact h.new c B S e'
   .exact .inr (χ h.size e')
theorem Grew.drew (ι:Inj)(w:World):Grew ι w ι w.drew:=⟨rfl,rfl,rfl,η _,λ_ _ _=>rfl,λb B S e=>.inl ⟨b,S,e⟩,λ_ _ h=>.inl h⟩
theorem Sim.drew {ι:Inj}{h:T AO}{nx:Nat}{w:World}(k:Sim ι h nx w):Sim ι h nx w.drew:=⟨k.obj,k.gone,k.inj,k.born,k.glob.grew (Grew.drew ι w)⟩
def Inj.add (ι:Inj)(b B S:Nat):Inj:=⟨λc=>if c=b then .at B S else ι c,ι.g⟩
theorem Le.add {ι:Inj}{nx:Nat}(hn:∀ b,ι b≠.unborn->b<nx)(B S:Nat):Le ι (ι.add nx B S):=⟨λb hb=>by
 have:=hn b hb;left;simp only[Inj.add];rw[if_neg om],λ_ _ h=>h⟩
theorem Ut (w:World)(o:Obj):(w.alloc o).heap[w.heap.size]? = some o:=by
 show(w.heap.push o)[w.heap.size]? = some o;simp
theorem Us (w:World)(o:Obj)(i:Nat)(h:i<w.heap.size):(w.alloc o).heap[i]? = w.heap[i]?:=by
 show(w.heap.push o)[i]? = _;rw[Array.getElem?_push_lt h,Qcv h]
theorem Sim.alloc {ι:Inj}{h:T AO}{nx:Nat}{w:World}(k:Sim ι h nx w)(o:AO)(x:Obj)(S:Nat)(hx:OR (ι.add nx w.heap.size S) S o x) :
  Sim (ι.add nx w.heap.size S) ((j2 (jK nx)).run o h) (nx+1) (w.alloc x)/\Le ι (ι.add nx w.heap.size S)/\Grew ι w (ι.add nx w.heap.size S) (w.alloc x):=by
 have le:=Le.add (ι:=ι) k.born w.heap.size S;have hsz:(w.alloc x).heap.size=w.heap.size+1:=by show(w.heap.push x).size=_;simp
 have gr:Grew ι w (ι.add nx w.heap.size S) (w.alloc x):=by
  refine⟨rfl,rfl,rfl,om,λj hj _=>Us w x j hj,?_,λ_ _ h=>.inl h⟩;intro b B T e;by_cases hb:b=nx
  .subst hb;simp only[Inj.add,if_true] at e;cases e;exact .inr (η _)
  .exact .inl ⟨b,T,by simpa[Inj.add,hb] using e⟩
 refine⟨⟨?_,?_,?_,?_,k.glob.grew gr⟩,le,gr⟩
 .intro b B T e;by_cases hb:b=nx
  .subst hb;simp only[Inj.add,if_true] at e;cases e;exact⟨o,x,by rw[jW,if_pos rfl],Ut w x,hx⟩
  .have e':ι b=.at B T:=by simpa[Inj.add,hb] using e
   obtain⟨o',x',h1,h2,h3⟩:=k.obj b B T e';exact⟨o',x',by rw[jW,if_neg hb];exact h1,by rw[Us w x B (k.lt e')];exact h2,OR.mono le _ _ h3⟩
 .intro b e o' ho;by_cases hb:b=nx
  .subst hb;simp[Inj.add] at e
  .have e':ι b=.dead:=by simpa[Inj.add,hb] using e
   rw[jW,if_neg hb] at ho;exact k.gone b e' o' ho
 .intro b c B S1 S2 e1 e2;by_cases hb:b=nx<;>by_cases hc:c=nx
  .rw[hb,hc]
  .subst hb;simp only[Inj.add,if_true] at e1;cases e1;have:=k.lt (by simpa[Inj.add,hc] using e2:ι c=.at w.heap.size S2);omega
  .subst hc;simp only[Inj.add,if_true] at e2;cases e2;have:=k.lt (by simpa[Inj.add,hb] using e1:ι b=.at w.heap.size S1);omega
  .exact k.inj b c B S1 S2 (by simpa[Inj.add,hb] using e1) (by simpa[Inj.add,hc] using e2)
 .intro b e;by_cases hb:b=nx
  .omega
  .have:=k.born b (by simpa[Inj.add,hb] using e);omega
theorem Sim.write {ι:Inj}{h:T AO}{nx:Nat}{w w':World}(k:Sim ι h nx w){b B S:Nat}(e:ι b=.at B S)(o:AO)(x:Obj)(hx:OR ι S o x)
  (hB:w'.heap[B]? = some x) (hne:∀ j,j≠B->w'.heap[j]? = w.heap[j]?) (hos:w'.os=w.os) (ht:w'.tape=w.tape) (hout:w'.output=w.output) (hsz:w'.heap.size=w.heap.size) :
  Sim ι ((j2 (jK b)).run o h) nx w'/\Grew ι w ι w':=by
 have gr:Grew ι w ι w':=⟨hos,ht,hout,om,λj _ hn=>hne j (λej=>hn b S (by rw[ej];exact e)),λc C T e'=>.inl ⟨c,T,e'⟩,λ_ _ h=>.inl h⟩;refine⟨⟨?_,?_,k.inj,k.born,k.glob.grew gr⟩,gr⟩
 .intro c C T e';by_cases hc:c=b
  .subst hc;rw[e] at e';cases e';exact⟨o,x,by rw[jW,if_pos rfl],hB,hx⟩
  .obtain⟨o',x',h1,h2,h3⟩:=k.obj c C T e';have hC:C≠B:=λec=>hc (k.inj c b B T S (by rw[<-ec];exact e') e);exact⟨o',x',by rw[jW,if_neg hc];exact h1,by rw[hne C hC];exact h2,h3⟩
 .intro c e' o' ho;by_cases hc:c=b
  .subst hc;rw[e] at e';cases e'
  .rw[jW,if_neg hc] at ho;exact k.gone c e' o' ho
structure Cleanly (ι ι':Inj)(st st':St):Prop where
 nx:st.nx<=st'.nx
 dirty:st'.dirty<=st.dirty
 keep:∀ b,b<st.nx->b<st'.dirty->jv st'.h b=jv st.h b
 above:∀ b,st'.nx<=b->jv st'.h b=jv st.h b
 u:∀ b,b<st.nx->ι b=.unborn->ι' b=.unborn
 le:∀ b,ι b≠.unborn->ι' b≠.unborn
 n:∀ b,st.nx<=b->b<st'.nx->ι' b≠.unborn
theorem Cleanly.refl (ι:Inj)(st:St):Cleanly ι ι st st:=⟨η _,η _,λ_ _ _=>rfl,λ_ _=>rfl,λ_ _ h=>h,λ_ h=>h,λ_ h1 h2=>absurd h2 (Nat.not_lt.2 h1)⟩
theorem Cleanly.trans {ι ι' ι'':Inj}{a b c:St}(h:Cleanly ι ι' a b)(k:Cleanly ι' ι'' b c):Cleanly ι ι'' a c:=
 ⟨χ h.nx k.nx,χ k.dirty h.dirty,λx hx hd=>(k.keep x (Qat hx h.nx) hd).trans (h.keep x hx (Qat hd k.dirty)),
  λx hx=>(k.above x hx).trans (h.above x (χ k.nx hx)),λx hx hu=>k.u x (Qat hx h.nx) (h.u x hx hu),
  λx hx=>k.le x (h.le x hx),λx h1 h2=>(Qaq x b.nx).elim (λh3=>k.le x (h.n x h1 h3)) (λh3=>k.n x h3 h2)⟩
theorem Cleanly.alloc (ι:Inj)(st:St)(o:AO)(B S:Nat):Cleanly ι (ι.add st.nx B S) st ⟨st.nx+1,(j2 (jK st.nx)).run o st.h,st.dirty,st.fr⟩:=
 ⟨Qbd _,η _,λb hb _=>by show jv ((j2 (jK st.nx)).run o st.h) b=_;rw[jW,if_neg om],
  λb hb=>by
   have hb':st.nx+1<=b:=hb;show jv ((j2 (jK st.nx)).run o st.h) b=_;rw[jW,if_neg om],
  λb hb hu=>by simp only[Inj.add];rw[if_neg om];exact hu,
  λb hb=>by simp only[Inj.add];split<;>simp_all,
  λb h1 h2=>by
   have h2':b<st.nx+1:=h2;simp only[Inj.add];rw[if_pos om];simp⟩
theorem Cleanly.put (ι:Inj)(st:St)(b:Nat)(o:AO)(hb:b<st.nx):Cleanly ι ι st ⟨st.nx,(j2 (jK b)).run o st.h,min st.dirty b,st.fr⟩:=
 ⟨η _,Nat.min_le_left _ _,λc _ hd=>by
  show jv ((j2 (jK b)).run o st.h) c=_;rw[jW,if_neg (by have:c<min st.dirty b:=hd;omega)],
  λc hc=>by
   have hc':st.nx<=c:=hc;show jv ((j2 (jK b)).run o st.h) c=_;rw[jW,if_neg om],
  λ_ _ h=>h,λ_ h=>h,λ_ h1 h2=>absurd h2 (Nat.not_lt.2 h1)⟩
theorem Cleanly.fr {ι ι':Inj}{st st':St}(h:Cleanly ι ι' st st')(f g:Fr):Cleanly ι ι' ⟨st.nx,st.h,st.dirty,f⟩ ⟨st'.nx,st'.h,st'.dirty,g⟩:=⟨h.nx,h.dirty,h.keep,h.above,h.u,h.le,h.n⟩
def Res (ι:Inj)(w:World)(st:St)(r:ER)(res:Result Next):Prop:=
 match r with
 |.no=>True
 |.ok v st'=>∃ ι' x w',(res=.ok (.value x) w'\/(res=.ok .skip w'/\x=undef))/\Le ι ι'/\VR ι' v x/\Sim ι' st'.h st'.nx w'/\Grew ι w ι' w'/\Cleanly ι ι' st st'/\st'.fr=st.fr
 |.pn v st'=>st'=st/\∃ x,res=.halt (.panic x) w/\VR ι v x
section
variable {P:Program} {ι:Inj} {w:World} {st:St}
theorem Res.val (k:Sim ι st.h st.nx w){v:AV}{x:Value}{res:Result Next}(hr:res=.ok (.value x) w)(hv:VR ι v x):Res ι w st (.ok v st) res:=
 ⟨ι,x,w,.inl hr,Le.refl ι,hv,k,Grew.refl ι w,Cleanly.refl ι st,rfl⟩
theorem Res.drew {r:ER}{res:Result Next}(hp:∀ v s,r≠.pn v s)(h:Res ι w.drew st r res):Res ι w st r res:=by
 cases r with
 |no=>trivial
 |ok v st'=>
  obtain⟨ι',x,w',h1,h2,h3,h4,h5,h6⟩:=h;exact⟨ι',x,w',h1,h2,h3,h4,(Grew.drew ι w).trans h5,h6⟩
 |pn v s=>exact absurd rfl (hp v s)
theorem yF (B o j:Nat):(⟨B,o,none⟩:Addr).add j=⟨B,o+j,none⟩:=by
 unfold Addr.add;split
 .rename_i h;subst h;rfl
 .rfl
theorem WI (ι:Inj)(v:Value):VR ι (ofV v) v:=by
 unfold ofV;split<;>simp[VR]
theorem VR.cell {x:AV}{v:Value}(hx:x.cell=true)(h:VR ι x v):v.oneCell'=true:=by
 cases x<;>simp only[VR] at h<;>simp[AV.cell] at hx;case bool=>subst h;rfl
 case int=>subst h;rfl
 case str=>obtain⟨bs,rfl,_⟩:=h;rfl
 case zstr=>obtain⟨bs,rfl,_⟩:=h;rfl
 case ptr=>obtain⟨_,a,rfl,_⟩:=h;rfl
 case nilp=>subst h;rfl
 case slice=>obtain⟨_,_,a,C,rfl,_⟩:=h;rfl
 case nils=>subst h;rfl
 case map=>obtain⟨_,R,rfl,_⟩:=h;rfl
 case nilm=>subst h;rfl
 case fn=>obtain⟨cv,rfl,_⟩:=h;rfl
 case nilf=>subst h;rfl
 case iface=>obtain⟨y,rfl,_⟩:=h;rfl
 case nilif=>subst h;rfl
 case lst=>obtain⟨p,C,rfl,_⟩:=h;rfl
 case xlst=>obtain⟨p,rfl,_⟩:=h;rfl
 case lptr=>obtain⟨B,o,vs,rfl,_⟩:=h;rfl
theorem VR.cells {x:AV}{v:Value}(hb:x.cells.all AV.cell=true)(h:VR ι x v):VRs ι x.cells v.cells.toList:=by
 have one:∀ y:AV,y.cell=true->x=y->x.cells=[x]->VRs ι x.cells v.cells.toList:=by
  intro y hy e hc;rw[hc];have hv:v.cells = #[v]:=by
   have:=VR.cell (e▸hy) h;cases v<;>first|rfl|(simp[Value.oneCell'] at this)
  rw[hv];simp only[VRs];exact⟨v,[],rfl,h,rfl⟩
 cases x with
 |agg cs=>
  simp only[VR] at h;obtain⟨a,rfl,hc⟩:=h;exact hc
 |tup vs=>simp[AV.cells,AV.cell] at hb
 |bad=>simp[AV.cells,AV.cell] at hb
 |_=>exact one _ rfl rfl rfl
theorem vg {t:TypeId}{z:List AV}(h:zeroCells P t=some z)(ι:Inj):∃ i zv,P.info? t=some i/\i.zero=some zv/\VRs ι z zv.cells.toList:=by
 unfold zeroCells at h;cases hi:P.info? t with
 |none=>simp[hi] at h
 |some i=>
  simp only[hi,Qbe] at h;cases hz:i.zero with
  |none=>simp[hz] at h
  |some zv=>
   simp only[hz,Qau,Option.some.injEq] at h;refine⟨i,zv,rfl,hz,?_⟩;subst h;unfold jdD;split
   .rename_i cs;show VRs ι _ cs.toList;have:=VRs.map_of (ι:=ι) (f:=ofV) (g:=id) cs.toList (λx _=>WI ι x);simpa using this
   .rename_i hv;have:zv.cells = #[zv]:=by
     cases zv<;>first|rfl|(rename_i a _;exact(hv a rfl).elim)|(rename_i a;exact(hv a rfl).elim)
    rw[this];simp only[VRs];exact⟨zv,[],rfl,WI ι zv,rfl⟩
theorem zt {t:TypeId}{k:Nat}(h:Ev.sizeOf P t=some k):∃ i,P.info? t=some i/\i.size=k:=by
 unfold Ev.sizeOf at h;cases hi:P.info? t with
 |none=>simp[hi] at h
 |some i=>simp[hi] at h;exact⟨i,rfl,h⟩
theorem qd {t:TypeId}{i:TypeInfo}(h:P.info? t=some i)(w:World):(Go.sizeOf t).run P w=.ok i.size w:=by
 simp[Go.sizeOf,typeInfo,h]
theorem YX {t:TypeId}{i:TypeInfo}(h:P.info? t=some i)(w:World):(typeInfo t).run P w=.ok i w:=by
 simp[typeInfo,h]
theorem JB {t:TypeId}{i:TypeInfo}{z:Value}(h:P.info? t=some i)(hz:i.zero=some z)(w:World):(zeroValue t).run P w=.ok z w:=by
 simp[zeroValue,typeInfo,h,hz]
theorem YC {t:TypeId}{b:Bool}(h:Ev.isAgg P t=some b)(w:World):(Go.isAgg t).run P w=.ok b w:=by
 unfold Ev.isAgg at h;cases hu:P.underlying t with
 |none=>simp[hu] at h
 |some d=>
  simp only[hu,Qau,Option.some.injEq] at h;unfold Go.isAgg;rw[Sem.run_bind,run_underlying hu w];subst h;cases d<;>rfl
theorem VK {l:List AV}(h:l.all AV.cell=true)(n:Nat):(l.take n).all AV.cell=true:=by
 rw[Qah] at h ⊢;exact λx hx=>h x (QbS hx)
theorem jdV {l:List AV}(h:l.all AV.cell=true)(n:Nat):(l.drop n).all AV.cell=true:=by
 rw[Qah] at h ⊢;exact λx hx=>h x (List.mem_of_mem_drop hx)
theorem jaH {ι:Inj}{w:World}{B o:Nat}{vs:List Value}(h:Froz ι w B vs)(ho:o<vs.length):w.cell? ⟨B,o,none⟩=some (vs.getD o undef):=by
 obtain⟨⟨c,e,lo,hi,h1,h2,_⟩,_⟩:=h;have:w.cell? ⟨B,o,none⟩=c[o]?:=cell_of_row w B o c e _ h1;rw[this];subst h2;rw[Qan] at ho;simp[Qaf,ho]
theorem W8 {vs:List Value}{o n k:Nat}(h:k<n)(hn:o+n<=vs.length):((vs.drop o).take n).getD k undef=vs.getD (o+k) undef:=by
 simp only[Qaf,QbH,h,if_true,QbR]
theorem Vs {ι:Inj}{w:World}{B o n:Nat}{vs:List Value}(h:Froz ι w B vs)(hn:o+n<=vs.length) :
  (loadCells ⟨B,o,none⟩ n).run P w=.ok ((vs.drop o).take n).toArray w:=by
 rw[run_loadCells w _ n (λj=>vs.getD (o+j) undef) (λj hj=>by rw[yF];exact jaH h om)]
 congr 2
 apply Qbg
 .simp;omega
 .intro i h1 h2;simp at h1;simp[Qaf,Qad (by omega:o+i<vs.length)]
theorem VE {B o:Nat}{c:Array Value}{e:TypeId}{f:Nat×Nat}(h:w.heap[B]? = some (.cells c e f)):w.cell? ⟨B,o,none⟩=c[o]?:=cell_of_row w B o c e f h
theorem jeX (k:Sim ι st.h st.nx w){t:TypeId}{a u:AV}{va:Value}(ha:VR ι a va)(h:(qV P t).run a st.h=some u) :
  ∃ x,(Instr.loadAt t va).run P w=.ok x w/\VR ι u x:=by
 unfold qV at h;split at h
 .rename_i n hg hs;cases a<;>simp only at h<;>try(cases h;done)
  rotate_left
  .rename_i cs o;simp only[VR] at ha;obtain⟨B,o',vs,rfl,_,e2,e3,e4⟩:=ha;cases hle:QcC (QcD o n) (jP cs)
   .rw[hle] at h;cases h
   .rw[hle] at h;simp only[cond,Option.some.injEq,qX,yX] at h;rw[qi,jO] at hle;have hle':o+n<=cs.length:=hle;obtain⟨i,hi',hsi⟩:=zt hs;refine⟨.agg ((vs.drop (o'+o)).take n).toArray,?_,?_⟩
    .simp only[Instr.loadAt,Instr.sureAddr,Sem.run_bind,Sem.run_pure,Result.andThen_ok,loadVar,YC hg,if_true];rw[qd hi' w];simp only[Result.andThen_ok,hsi];rw[Vs (k.glob.2 B vs e2) om];rfl
    .rw[<-h];simp only[VR];refine⟨_,rfl,?_⟩;have:=(e4.back.drop o).take n;rw[List.drop_take,Qbw,QbT,Qbx om] at this;exact this
  rename_i b o;simp only[VR] at ha;obtain⟨hb,ad,rfl,had⟩:=ha;split at h<;>try(cases h;done)
  rename_i m zl z cs hrow;obtain⟨B,S,c,elem,lo,hi,e,hw,hsz,hn,_,hcell⟩:=k.row hb hrow;rw[had B S e];cases hle:QcC (QcD o n) m
  .rw[hle] at h;cases h
  .rw[hle] at h;simp only[cond,Option.some.injEq] at h;rw[qi] at hle;have hle':o+n<=m:=hle;obtain⟨i,hi',hsi⟩:=zt hs
   let f:Nat->Value:=λj=>c.getD (o+j) undef
   have hf:∀ j,j<n->w.cell? ((⟨B,o,none⟩:Addr).add j)=some (f j):=λj hj=>by
    rw[yF,VE hw];obtain⟨_,v,hv,_⟩:=hcell (o+j) om;simp[f,hv]
   refine⟨.agg ((ω n).map f).toArray,?_,?_⟩
   .simp only[Instr.loadAt,Instr.sureAddr,Sem.run_bind,Sem.run_pure,Result.andThen_ok,loadVar,YC hg,if_true];rw[qd hi' w];simp only[Result.andThen_ok,hsi];rw[run_loadCells w _ n f hf];rfl
   .rw[<-h,qm];simp only[VR];refine⟨_,rfl,?_⟩;refine VRs.map_of _ λj hj=>?_;have hj':j<n:=by simpa using hj
    obtain⟨_,v,hv,hr⟩:=hcell (o+j) om;show VR ι _ (c.getD (o+j) undef);simpa[hv] using hr
 .rename_i n hg hs;cases a<;>simp only at h<;>try(cases h;done)
  rotate_left
  .rename_i cs o;simp only[VR] at ha;obtain⟨B,o',vs,rfl,_,e2,e3,e4⟩:=ha;cases hle:QcC (QcB o) (jP cs)
   .rw[hle] at h;cases h
   .rw[hle] at h;simp only[cond,Option.some.injEq,zM] at h;rw[qi,jO] at hle;have hc:=jaH (o:=o'+o) (k.glob.2 B vs e2) om;refine⟨vs.getD (o'+o) undef,?_,?_⟩
    .simp only[Instr.loadAt,Instr.sureAddr,Sem.run_bind,Sem.run_pure,Result.andThen_ok,loadVar,YC hg,QaP,if_false,run_load,hc]
    .rw[<-h];have:=e4.back.get o hle;rwa [W8 hle e3] at this
  rename_i b o;simp only[VR] at ha;obtain⟨hb,ad,rfl,had⟩:=ha;split at h<;>try(cases h;done)
  rename_i m zl z cs hrow;obtain⟨B,S,c,elem,lo,hi,e,hw,hsz,hn,_,hcell⟩:=k.row hb hrow;rw[had B S e];cases hle:QcC (QcB o) m
  .rw[hle] at h;cases h
  .rw[hle] at h;simp only[cond,Option.some.injEq] at h;rw[qi] at hle;obtain⟨_,v,hv,hr⟩:=hcell o om;refine⟨v,?_,by rw[<-h];exact hr⟩;simp only[Instr.loadAt,Instr.sureAddr,Sem.run_bind,Sem.run_pure,Result.andThen_ok,loadVar,YC hg,QaP,if_false,run_load,VE hw,hv]
 .cases h
theorem Zl {P:Program}{B o:Nat}{elem:TypeId}{lo hi:Nat}:∀ (l:List Value) (i:Nat) (w:World) (c:Array Value),
  w.heap[B]? = some (.cells c elem (lo,hi))->(hi<=lo\/c.size<=lo)->o+i+l.length<=c.size->(∀ v∈l,v.oneCell'=true)->
  ∃ w' c',(storeCells ⟨B,o,none⟩ l i).run P w=.ok () w'/\w'.heap[B]? = some (.cells c' elem (lo,hi))/\c'.size=c.size /\
   (∀ j,c'[j]? = if o+i<=j/\j<o+i+l.length then l[j - (o+i)]? else c[j]?)/\(∀ j,j≠B->w'.heap[j]? = w.heap[j]?) /\
   w'.os=w.os/\w'.tape=w.tape/\w'.output=w.output/\w'.heap.size=w.heap.size
 |[],i,w,c,hB,_,_,_=>⟨w,c,by simp[storeCells],hB,rfl,λj=>by rw[if_neg];simp,λ_ _=>rfl,rfl,rfl,rfl,rfl⟩
 |v :: l,i,w,c,hB,hf,hl,h1=>by
  have hlt:o+i<c.size:=by simp at hl;omega
  have hcell:w.cell? ⟨B,o+i,none⟩=some c[o+i]:=by
   rw[VE hB];exact Qcv hlt
  have hfr:w.frozen? ⟨B,o+i,none⟩=false:=by
   simp only[World.frozen?,hB,Bool.and_eq_false_iff,decide_eq_false_iff_not];simp at hl;omega
  have hst:(store (⟨B,o+i,none⟩:Addr) v).run P w=.ok () (w.setCell ⟨B,o+i,none⟩ v):=by
   rw[run_store P w _ v .plain (h1 v hac),hcell];simp[hfr]
  have hB':(w.setCell ⟨B,o+i,none⟩ v).heap[B]? = some (.cells (c.setIfInBounds (o+i) v) elem (lo,hi)):=by
   simp[World.setCell,Array.getElem?_modify,hB]
  obtain⟨w',c',hr,hb,hs,hc,hne,hos,ht,hou,hsz⟩:=Zl (P:=P) (o:=o) l (i+1) (w.setCell ⟨B,o+i,none⟩ v) (c.setIfInBounds (o+i) v) hB'
   (by simpa using hf) (by simp at hl ⊢;omega) (λx hx=>h1 x (by simp[hx]))
  refine⟨w',c',?_,hb,by simpa using hs,?_,?_,hos,ht,hou,by rw[hsz];simp[World.setCell]⟩
  .simp only[storeCells,Sem.run_bind,yF,hst,Result.andThen_ok,hr]
  .intro j;rw[hc j];simp at hl;by_cases h2:o+(i+1)<=j/\j<o+(i+1)+l.length
   .have h3:o+i<=j/\j<o+i+(v :: l).length:=by simp;omega
    rw[if_pos h2,if_pos h3];obtain⟨n,hn⟩:∃ n,j - (o+i)=n+1:=⟨j - (o+i) - 1,om⟩;have hn':j - (o+(i+1))=n:=om
    rw[hn,hn'];simp
   .rw[if_neg h2];by_cases hj:j=o+i
    .have h3:o+i<=j/\j<o+i+(v :: l).length:=by simp;omega
     rw[if_pos h3,hj];simp[hlt]
    .have h3:¬ (o+i<=j/\j<o+i+(v :: l).length):=by simp;simp at h2;omega
     rw[if_neg h3,Qcw om]
  .intro j hj;rw[hne j hj];exact Below.heap_setCell _ _ _ _ hj
theorem Kl (k:Sim ι st.h st.nx w){b o n zl:Nat}{z:List AV}{cs:T AV}(hb:ι b≠.unborn)(hrow:jv st.h b=some (.row n zl z cs)){B S:Nat}(e:ι b=.at B S)
  {l:List AV} {vs:List Value} (hl:VRs ι l vs) (hc:l.all AV.cell=true) (hn:o+l.length<=n) :
  ∃ w',(storeCells ⟨B,o,none⟩ vs).run P w=.ok () w'/\Sim ι ((j2 (jK b)).run (.row n zl z (qk l cs o)) st.h) st.nx w'/\Grew ι w ι w':=by
 obtain⟨B',S',c,elem,lo,hi,e',hw,hsz,hnS,hfr,hcell⟩:=k.row hb hrow;rw[e] at e';cases e';have hlen:=hl.length;have h1:∀ v∈vs,v.oneCell'=true:=by
  intro v hv;obtain⟨i,hi,rfl⟩:=Qbm.1 hv;have:=hl.get i om;have h2:(l.getD i .bad).cell=true:=by
   have:i<l.length:=om
   simp only[Qaf,Qad this,QaM];exact Qah.1 hc _ (Qaa this)
  have h3:=VR.cell h2 this;simpa[Qaf,Qad hi] using h3
 obtain⟨w',c',hr,hB',hs',hc',hne,hos,ht,hou,hsz'⟩:=Zl (P:=P) (o:=o) vs 0 w c hw om om h1;refine⟨w',hr,?_⟩;refine k.write e (.row n zl z (qk l cs o)) (.cells c' elem (lo,hi)) ?_ hB' hne hos ht hou hsz';simp only[OR];refine⟨c',elem,lo,hi,rfl,om,hnS,hfr,λi hi'=>?_⟩;rw[yU,hc' i];by_cases h2:o<=i/\i<o+l.length
 .rw[if_pos h2,if_pos om];have h3:=hl.get (i - o) om;refine⟨?_,vs.getD (i - o) undef,?_,h3⟩
  .have:i - o<l.length:=om
   simp only[Qaf,Qad this,QaM];exact Qah.1 hc _ (Qaa this)
  .have:i - o<vs.length:=om
   simp[Qaf,Qad this]
 .rw[if_neg h2,if_neg om];exact hcell i hi'
end
section
variable {P:Program} {ι:Inj} {w:World} {st:St}
theorem St.alloc_eq (st:St)(o:AO)(k:Nat->St->ER):st.alloc o k=k st.nx ⟨st.nx+1,(j2 (jK st.nx)).run o st.h,st.dirty,st.fr⟩:=by simp[St.alloc]
theorem St.put_eq (st:St)(b:Nat)(o:AO)(k:St->ER):st.put b o k=k ⟨st.nx,(j2 (jK b)).run o st.h,min st.dirty b,st.fr⟩:=by
 simp only[St.put,jF]
 congr 2
 rw[Nat.min_def];cases h:QcC st.dirty b
 .have:¬ st.dirty<=b:=λe=>by rw[<-qi,h] at e;cases e
  rw[if_neg this];rfl
 .rw[qi] at h;rw[if_pos h];rfl
theorem Res.alloc (k:Sim ι st.h st.nx w){o:AO}{x:Obj}{S:Nat}(hx:OR (ι.add st.nx w.heap.size S) S o x){v:AV}{y:Value}{res:Result Next}
  (hv:VR (ι.add st.nx w.heap.size S) v y) (hr:res=.ok (.value y) (w.alloc x)) :
  Res ι w st (.ok v ⟨st.nx+1,(j2 (jK st.nx)).run o st.h,st.dirty,st.fr⟩) res:=by
 obtain⟨h1,h2,h3⟩:=k.alloc o x S hx;exact⟨_,y,_,.inl hr,h2,hv,h1,h3,Cleanly.alloc ι st o _ _,rfl⟩
theorem Yw (ι:Inj)(b B S:Nat):(ι.add b B S) b=.at B S:=by simp[Inj.add]
theorem GT (ι:Inj)(b B S:Nat):VR (ι.add b B S) (.ptr b 0) (.pointer (some ⟨B,0,none⟩)):=by
 simp only[VR];refine⟨by rw[Yw];simp,_,rfl,λB' S' e=>?_⟩;rw[Yw] at e;cases e;rfl
theorem jfA {cells:List AV}{vs:List Value}(h:VRs ι cells vs)(hc:cells.all AV.cell=true)(elem:TypeId) :
  OR ι vs.length (.row cells.length cells.length cells .e) (.cells vs.toArray elem (0,0)):=by
 simp only[OR];have hl:=h.length;refine⟨_,elem,0,0,rfl,by simp,om,om,λi hi=>?_⟩;have e:qD cells.length cells .e i=cells.getD i .bad:=by rw[yP,XM,Qby hi];rfl
 rw[e];refine⟨?_,vs.getD i undef,?_,h.get i hi⟩
 .simp only[Qaf,Qad hi,QaM];exact Qah.1 hc _ (Qaa hi)
 .have:i<vs.length:=om
  simp[Qaf,Qad this]
theorem jas (k:Sim ι st.h st.nx w){cells:List AV}{v:Value}(h:VRs ι cells v.cells.toList)(hc:cells.all AV.cell=true)(elem:TypeId){res:Result Next}
  (hr:res=.ok (.value (.pointer (some ⟨w.heap.size,0,none⟩))) (w.alloc (.cells v.cells elem))):Res ι w st (Ev.newRow st cells) res:=by
 unfold Ev.newRow;rw[jF,jO,St.alloc_eq];have le:=Le.add (ι:=ι) k.born w.heap.size v.cells.toList.length;refine Res.alloc k (S:=v.cells.toList.length) (x:=.cells v.cells elem) ?_ (GT _ _ _ _) hr;have:=jfA (VRs.mono le _ _ h) hc elem;simpa using this
theorem jjW {t:TypeId}{i:TypeInfo}{z:Value}(hi:P.info? t=some i)(hz:i.zero=some z) :
  (Instr.alloc t true (.tuple #[])).run P w=.ok (.pointer (some ⟨w.heap.size,0,none⟩)) (w.alloc (.cells z.cells t)):=by
 simp[Instr.alloc,JB hi hz,newVar,Go.newRow]
theorem jpr (t:TypeId)(v:Value):(Instr.box t v).run P w=.ok (.pointer (some ⟨w.heap.size,0,none⟩)) (w.alloc (.cells v.cells t)):=by
 simp[Instr.box,newVar,Go.newRow]
theorem jQ {b:Bool}{x:ER}{res:Result Next}(h:b=true->Res ι w st x res):Res ι w st (cond b x .no) res:=by
 cases b
 .trivial
 .exact h rfl
theorem Xq {b:Bool}{x y:ER}{res:Result Next}(h:b=true->Res ι w st x res)(h':b=false->Res ι w st y res):Res ι w st (cond b x y) res:=by
 cases b
 .exact h' rfl
 .exact h rfl
variable {ρ:Operand->Value} {op:Operand->OF} {env:Env} {o:Oper}
theorem jaO {x:Operand}(ho:o.op=.move x\/o.op=.assign x)(k:Sim ι st.h st.nx w)(hx:VR ι ((op x).run env) (ρ x)) :
  Res ι w st (.ok ((op x).run env) st) ((execOp ρ o).run P w):=by
 refine Res.val k ?_ hx;rcases ho with ho|ho<;>simp[execOp,ho]
theorem jju {c a b:Operand}(ho:o.op=.pick c a b)(k:Sim ι st.h st.nx w)(hc:VR ι ((op c).run env) (ρ c))(ha:VR ι ((op a).run env) (ρ a))(hb:VR ι ((op b).run env) (ρ b)) :
  Res ι w st ((jy P op (.pick c a b)).run env st) ((execOp ρ o).run P w):=by
 show Res ι w st (Z4 ((op c).run env) λq=>.ok (cond q ((op a).run env) ((op b).run env)) st) _;generalize (op c).run env=vc at hc;cases vc<;>try trivial
 rename_i q;simp only[VR] at hc;refine Res.val (x:=if q then ρ a else ρ b) k ?_ ?_
 .simp only[execOp,ho,hc,asBool,Sem.run_bind,Sem.run_pure,Result.andThen_ok]
 .cases q
  .exact hb
  .exact ha
theorem jg4 {t:TypeId}(ho:o.op=.alloc t)(k:Sim ι st.h st.nx w):Res ι w st ((jy P op (.alloc t)).run env st) ((execOp ρ o).run P w):=by
 simp only[jy];cases hz:zeroCells P t with
 |none=>trivial
 |some z=>
  simp only;obtain⟨i,zv,hi,hzv,hr⟩:=vg hz ι;cases hc:lall AV.cell z
  .trivial
  .refine jas k (v:=zv) hr (by simpa using hc) t ?_;simp only[execOp,ho,Sem.run_bind,jjW hi hzv,Result.andThen_ok,Sem.run_pure]
theorem jmu {t:TypeId}{x:Operand}(ho:o.op=.box t x)(k:Sim ι st.h st.nx w)(hx:VR ι ((op x).run env) (ρ x)) :
  Res ι w st ((jy P op (.box t x)).run env st) ((execOp ρ o).run P w):=by
 refine jQ λhc=>?_;rw[Wu] at hc;refine jas k (v:=ρ x) (VR.cells hc hx) hc t ?_;simp only[execOp,ho,Sem.run_bind,jpr,Result.andThen_ok,Sem.run_pure]
theorem jjw {t:TypeId}{x:Operand}(ho:o.op=.load t x)(k:Sim ι st.h st.nx w)(hx:VR ι ((op x).run env) (ρ x)) :
  Res ι w st ((jy P op (.load t x)).run env st) ((execOp ρ o).run P w):=by
 show Res ι w st (match (qV P t).run ((op x).run env) st.h with|some v=>.ok v st|none=>.no) _;cases h:(qV P t).run ((op x).run env) st.h with
 |none=>trivial
 |some u=>
  obtain⟨y,hy,hv⟩:=jeX k hx h;exact Res.val k (by simp only[execOp,ho,Sem.run_bind,hy,Result.andThen_ok,Sem.run_pure]) hv
theorem jgW {t:TypeId}{x y:Operand}(ho:o.op=.store t x y)(k:Sim ι st.h st.nx w)(hx:VR ι ((op x).run env) (ρ x))(hy:VR ι ((op y).run env) (ρ y)) :
  Res ι w st ((jy P op (.store t x y)).run env st) ((execOp ρ o).run P w):=by
 simp only[jy,jcq];cases hs:Ev.sizeOf P t with
 |none=>trivial
 |some n=>
  simp only;obtain⟨i,hi,hsi⟩:=zt hs;generalize hvx:(op x).run env=vx at hx;cases vx<;>try trivial
  rename_i b off;simp only[VR] at hx;obtain⟨hb,ad,hpx,had⟩:=hx;simp only[ya];cases hg:jv st.h b with
  |none=>trivial
  |some ob=>
   cases ob<;>try trivial
   rename_i m zl z cs;simp only[yg];refine jQ λh1=>jQ λh2=>jQ λh3=>?_;rw[qJ,jO] at h1;rw[qi] at h2;rw[Wu] at h3;rw[St.put_eq];obtain⟨B,S,c,elem,lo,hi',e,hw,_⟩:=k.row hb hg;rw[had B S e] at hpx;have hcells:=VR.cells h3 hy;have h2':off+n<=m:=h2;obtain⟨w',hr,hs',hf'⟩:=Kl (P:=P) (o:=off) k hb hg e hcells h3 om;refine⟨ι,undef,w',.inr ⟨?_,rfl⟩,Le.refl ι,?_,hs',hf',Cleanly.put ι st b _ (k.born b hb),rfl⟩
   .have hsz:(ρ y).cells.size=i.size:=by
     have:=hcells.length;rw[Qan] at this;omega
    simp only[execOp,ho,Sem.run_bind,hpx,Instr.storeAt,Instr.sureAddr,Sem.run_pure,Result.andThen_ok,storeVar,qd hi,hsz];simp[hr]
   .show VR ι qe undef;simp only[qe,undef,VR];exact⟨#[],rfl,by simp[VRs]⟩
theorem ja6 {x:Operand}(ho:o.op=.nilCheck x)(k:Sim ι st.h st.nx w)(hx:VR ι ((op x).run env) (ρ x)) :
  Res ι w st ((jy P op (.nilCheck x)).run env st) ((execOp ρ o).run P w):=by
 simp only[jy,Qn];try dsimp only
 generalize (op x).run env=vx at hx;cases vx<;>try trivial
 all_goals
  refine Res.val k (x:=ρ x) ?_ hx;simp only[VR] at hx
 case bool=>simp[execOp,ho,hx]
 case int=>simp[execOp,ho,hx]
 case str=>obtain⟨bs,h,_⟩:=hx;simp[execOp,ho,h]
 case zstr=>obtain⟨bs,h,_⟩:=hx;simp[execOp,ho,h]
 case ptr=>obtain⟨_,a,h,_⟩:=hx;simp[execOp,ho,h]
 case slice=>obtain⟨_,_,a,C,h,_⟩:=hx;simp[execOp,ho,h]
 case nils=>simp[execOp,ho,hx]
 case map=>obtain⟨_,R,h,_⟩:=hx;simp[execOp,ho,h]
 case nilm=>simp[execOp,ho,hx]
 case fn=>obtain⟨cv,h,_⟩:=hx;simp[execOp,ho,h]
 case iface=>obtain⟨y,h,_⟩:=hx;simp[execOp,ho,h]
 case agg=>obtain⟨y,h,_⟩:=hx;simp[execOp,ho,h]
 case tup=>obtain⟨y,h,_⟩:=hx;simp[execOp,ho,h]
 case lst=>obtain⟨p,C,h,_⟩:=hx;simp[execOp,ho,h]
 case xlst=>obtain⟨p,h,_⟩:=hx;simp[execOp,ho,h]
 case lptr=>obtain⟨B,o,vs,h,_⟩:=hx;simp[execOp,ho,h]
theorem jdo {x:Operand}{i:Nat}(ho:o.op=.extract x i)(k:Sim ι st.h st.nx w)(hx:VR ι ((op x).run env) (ρ x)) :
  Res ι w st ((jy P op (.extract x i)).run env st) ((execOp ρ o).run P w):=by
 simp only[jy];try dsimp only
 generalize (op x).run env=vx at hx;cases vx<;>try trivial
 rename_i vs;simp only[VR] at hx;obtain⟨a,h,hv⟩:=hx;refine jQ λhle=>?_;rw[qi,jO] at hle;have hl:=hv.length;rw[Qan] at hl;have hi:i<a.size:=om
 refine Res.val k (x:=a[i]) ?_ ?_
 .simp[execOp,ho,h,Instr.extract,hi]
 .rw[zM];have:=hv.get i om;simpa[Qaf,hi] using this
theorem Ur {x:Operand}{t:TypeId}(ho:o.op=.makeInterface t x)(k:Sim ι st.h st.nx w)(hx:VR ι ((op x).run env) (ρ x)) :
  Res ι w st ((jy P op (.makeInterface t x)).run env st) ((execOp ρ o).run P w):=by
 simp only[jy];cases hu:P.underlying t with
 |none=>trivial
 |some d=>
  cases d<;>try trivial
  all_goals
   refine Res.val k (x:=.iface t (ρ x)) ?_ (by simp only[VR];exact⟨_,rfl,hx⟩);simp[execOp,ho,Instr.makeInterface,run_underlying hu]
theorem ja7 {f:FuncId}{first caps:Array Operand}(ho:o.op=.makeFunc (.func f) first caps)(k:Sim ι st.h st.nx w)(hx:∀ x∈caps,VR ι ((op x).run env) (ρ x)) :
  Res ι w st ((jy P op (.makeFunc (.func f) first caps)).run env st) ((execOp ρ o).run P w):=by
 simp only[jy];split<;>try trivial
 rename_i hf;have hf':first = #[]:=by
  cases first;simp at hf;rw[hf]
 subst hf';refine Res.val k (x:=.func (.func f) #[] (caps.map ρ)) ?_ ?_
 .simp[execOp,ho,Instr.makeFunc]
 .simp only[VR];refine⟨_,rfl,?_⟩;rw[yG,Qbz];exact VRs.map_of _ λx hxm=>hx x (by simpa using hxm)
theorem jdn {t:TypeId}(ho:o.op=.makeMap t none)(k:Sim ι st.h st.nx w):Res ι w st ((jy P op (.makeMap t none)).run env st) ((execOp ρ o).run P w):=by
 simp only[jy];rw[St.alloc_eq];refine Res.alloc k (S:=0) (x:=.map #[] 0) (y:=.map (some w.heap.size)) ?_ ?_ ?_
 .simp only[OR];exact⟨#[],0,rfl,by simp[MR]⟩
 .simp only[VR];refine⟨by rw[Yw];simp,_,rfl,λB S e=>?_⟩;rw[Yw] at e;cases e;rfl
 .simp[execOp,ho,Instr.makeMap]
theorem Gt {P:Program}{t:TypeId}{n:Nat}(h:Ev.sizeOf P t=some (n+1))(a:Addr)(f:Field)(hf:f.type=t):(fieldPlace a f).run P w=.ok (a.add f.offset) w:=by
 obtain⟨i,hi,hs⟩:=zt h;subst hf;simp[fieldPlace,qd hi,hs]
theorem HK {s:TypeId}{x:Operand}{f:Nat}(ho:o.op=.fieldAddr s x f)(k:Sim ι st.h st.nx w)(hx:VR ι ((op x).run env) (ρ x)) :
  Res ι w st ((jy P op (.fieldAddr s x f)).run env st) ((execOp ρ o).run P w):=by
 simp only[jy,Y3];split<;>try trivial
 rename_i fields hu;split<;>try trivial
 rename_i fd hfd;split<;>try trivial
 rename_i n hn;try dsimp only
 generalize (op x).run env=vx at hx;cases vx<;>try trivial
 rotate_left
 .rename_i cs o;simp only[VR] at hx;obtain⟨B,o',vs,hpx,e0,e2,e3,e4⟩:=hx;refine Res.val k (x:=.pointer (some ((⟨B,o'+o,none⟩:Addr).add fd.offset))) ?_ ?_
  .simp only[execOp,ho,Instr.fieldAt,Sem.run_bind,run_underlying hu,Result.andThen_ok,hpx,Instr.sureAddr];simp[hfd,Gt hn _ fd rfl]
  .simp only[VR];exact⟨B,o',vs,by rw[yF,Qbj];rfl,e0,e2,e3,e4⟩
 rename_i b off;simp only[VR] at hx;obtain⟨hb,ad,hpx,had⟩:=hx;simp only[jF];refine Res.val k (x:=.pointer (some (ad.add fd.offset))) ?_ ?_
 .simp only[execOp,ho,Instr.fieldAt,Sem.run_bind,run_underlying hu,Result.andThen_ok,hpx,Instr.sureAddr];simp[hfd,Gt hn _ fd rfl]
 .simp only[VR];refine⟨hb,_,rfl,λB S e=>?_⟩;rw[had B S e,yF];rfl
theorem Zr {t:TypeId}{cs:List AV}{a:Array Value}(h:VRs ι cs a.toList){off:Nat}{u:AV}(hp:zA P t cs off=some u) :
  ∃ x,(part t a off).run P w=.ok x w/\VR ι u x:=by
 unfold zA at hp;cases hg:Ev.isAgg P t with
 |none=>simp[hg] at hp
 |some g=>
  simp only[hg,Qbe] at hp;cases g
  .simp only[cond] at hp;cases hle:QcC (QcB off) (jP cs)
   .rw[hle] at hp;cases hp
   .rw[hle] at hp;simp only[zM,Option.some.injEq] at hp;rw[qi,jO] at hle;have hl:=h.length;rw[Qan] at hl;have hi:off<a.size:=om
    refine⟨a[off],by simp[part,YC hg,hi],?_⟩;rw[<-hp];have:=h.get off om;simpa[Qaf,hi] using this
  .simp only[cond] at hp;cases hs:Ev.sizeOf P t with
   |none=>simp[hs] at hp
   |some n=>
    simp only[hs,Qau,Option.some.injEq,qX,yX] at hp;obtain⟨i,hi,hsi⟩:=zt hs;refine⟨.agg (a.extract off (off+n)),by simp[part,YC hg,qd hi,hsi],?_⟩;rw[<-hp];simp only[VR];refine⟨_,rfl,?_⟩;have:=(h.drop off).take n;simpa[Array.toList_extract,List.extract_eq_take_drop] using this
theorem jg1 {s:TypeId}{x:Operand}{f:Nat}(ho:o.op=.field s x f)(k:Sim ι st.h st.nx w)(hx:VR ι ((op x).run env) (ρ x)) :
  Res ι w st ((jy P op (.field s x f)).run env st) ((execOp ρ o).run P w):=by
 simp only[jy,Wy];split<;>try trivial
 rename_i fields hu;split<;>try trivial
 rename_i fd hfd;try dsimp only
 generalize (op x).run env=vx at hx;cases vx<;>try trivial
 rename_i cs;simp only[VR] at hx;obtain⟨a,hpx,hv⟩:=hx;simp only[Qy];cases hp:zA P fd.type cs fd.offset with
 |none=>trivial
 |some u=>
  obtain⟨y,hy,hvy⟩:=Zr (w:=w) hv hp;refine Res.val k (x:=y) ?_ hvy;simp only[execOp,ho,Instr.field,Sem.run_bind,run_underlying hu,Result.andThen_ok,hpx,asAgg];simp[hfd,hy]
theorem zK {v:AV}{x:Value}(hv:VR ι v x){f:Nat->ER}{res:Result Next}(h:∀ k n,x=.int k (Qar n)->Res ι w st (f n) res):Res ι w st (qv v f) res:=by
 unfold qv;split<;>try trivial
 rename_i kk n;simp only[VR] at hv;rw[jF];exact h _ _ hv
theorem HJ {t:TypeId}{x y:Operand}(ho:o.op=.indexAddr t x y)(k:Sim ι st.h st.nx w)(hx:VR ι ((op x).run env) (ρ x))(hy:VR ι ((op y).run env) (ρ y)) :
  Res ι w st ((jy P op (.indexAddr t x y)).run env st) ((execOp ρ o).run P w):=by
 simp only[jy,XI];split<;>try trivial
 .rename_i n e hu;split<;>try trivial
  rename_i s hs;obtain⟨i,hi,hsi⟩:=zt hs;try dsimp only
  generalize (op x).run env=vx at hx;cases vx<;>try trivial
  rename_i b off;simp only[VR] at hx;obtain⟨hb,ad,hpx,had⟩:=hx;simp only[ya];refine zK hy λkk j hj=>jQ λhle=>?_;rw[qi] at hle;rw[jF];refine Res.val k (x:=.pointer (some (ad.add (j * s)))) ?_ ?_
  .have h1:(0:Int)<=Qar j/\Qar j<(n:Int):=⟨QbU j,by show(j:Int)<n;omega⟩;simp only[execOp,ho,Instr.indexAt,hj,asIntOf,Sem.run_bind,Sem.run_pure,Result.andThen_ok,run_underlying hu,hpx,Instr.sureAddr];simp[qd hi,hsi,run_underlying hu];omega
  .simp only[VR];refine⟨hb,_,rfl,λB S e=>?_⟩;rw[had B S e,yF];rfl
 .rename_i e hu;split<;>try trivial
  rename_i s hs;obtain⟨i,hi,hsi⟩:=zt hs;try dsimp only
  generalize (op x).run env=vx at hx;cases vx<;>try trivial
  rotate_left
  .rename_i n cs;simp only[VR] at hx;obtain⟨p,C,hpx,hC,e0,hn⟩:=hx;refine zK hy λkk j hj=>jQ λhle=>?_;rw[qi] at hle;obtain⟨B,o',vs,rfl,e2,e3,e4⟩:=hn om;refine Res.val k (x:=.pointer (some ((⟨B,o',none⟩:Addr).add (j * s)))) ?_ ?_
   .simp only[execOp,ho,Instr.indexAt,hj,asIntOf,Sem.run_bind,Sem.run_pure,Result.andThen_ok,run_underlying hu,hpx];simp[qd hi,hsi,run_underlying hu];omega
   .simp only[VR];exact⟨B,o',vs,by rw[yF];rfl,e0,e2,e3,e4⟩
  rename_i b off len cap sz ex;simp only[VR] at hx;obtain⟨hb,hlc,ad,C,hpx,hC,hex,had⟩:=hx;refine zK hy λkk j hj=>jQ λhle=>?_;rw[qi] at hle;rw[jF];refine Res.val k (x:=.pointer (some (ad.add (j * s)))) ?_ ?_
  .simp only[execOp,ho,Instr.indexAt,hj,asIntOf,Sem.run_bind,Sem.run_pure,Result.andThen_ok,run_underlying hu,hpx];simp[qd hi,hsi,run_underlying hu];omega
  .simp only[VR];refine⟨hb,_,rfl,λB S e=>?_⟩;have hC0:C≠0:=om
   rcases (had B S e).1 with h0|h0
   .exact absurd h0 hC0
   .rw[h0,yF];rfl
end
theorem X7 (a b:Int):ltI a b=decide (a<b):=by
 have key:∀ m n:Nat,QcC (QcB m) n=decide (m<n):=λm n=>by
  rw[Qaw,qi,decide_eq_true_iff];exact Nat.succ_le_iff
 cases a with
 |ofNat m=>cases b with
  |ofNat n=>show QcC (QcB m) n=_;rw[key];congr 1;simp
  |negSucc n=>show false=_;symm;rw[decide_eq_false_iff_not];simp[Int.negSucc_eq];omega
 |negSucc m=>cases b with
  |ofNat n=>show true=_;symm;rw[decide_eq_true_iff];simp[Int.negSucc_eq];omega
  |negSucc n=>show QcC (QcB n) m=_;rw[key];congr 1;simp[Int.negSucc_eq]
theorem X9 (a b:Int):eqI a b=decide (a=b):=by
 have key:∀ m n:Nat,QcA m n=decide (m=n):=λm n=>by
  rw[Qaw,qJ,decide_eq_true_iff]
 cases a with
 |ofNat m=>cases b with
  |ofNat n=>show QcA m n=_;rw[key];congr 1;simp;omega
  |negSucc n=>show false=_;symm;rw[decide_eq_false_iff_not];intro h;cases h
 |negSucc m=>cases b with
  |ofNat n=>show false=_;symm;rw[decide_eq_false_iff_not];intro h;cases h
  |negSucc n=>show QcA m n=_;rw[key];congr 1;simp
theorem ua {a b:IntKind}(h:eqK a b=true):a=b:=by
 cases a<;>cases b<;>first|rfl|(simp[eqK] at h)
theorem WO {k:IntKind}{n:Nat}(h:n<=yW k):k.wrap (.ofNat n)=.ofNat n:=by
 have e:(Qar n)=(n:Int):=rfl;rw[e];cases k<;>simp only[yW] at h<;>simp only[IntKind.wrap,IntKind.bits,IntKind.signed]<;>simp<;>omega
theorem jlE {k:IntKind}{n:Nat}(hs:sgn k=true)(h:n<=yW k):k.wrap (.negSucc n)=.negSucc n:=by
 rw[Int.negSucc_eq];cases k<;>simp only[yW] at h<;>simp[sgn] at hs<;>simp only[IntKind.wrap,IntKind.bits,IntKind.signed]<;>simp<;>omega
theorem Qq (k:IntKind)(x:Int):qU k x=k.wrap x:=by
 unfold qU;cases x with
 |ofNat n=>
  simp only[jF];cases h:QcC n (yW k)
  .rfl
  .rw[qi] at h;exact(WO h).symm
 |negSucc n=>
  simp only[jF];cases hs:sgn k
  .rfl
  .cases h:QcC n (yW k)
   .rfl
   .rw[qi] at h;exact(jlE hs h).symm
theorem jeW (k:IntKind):yW k<2 ^ k.bits:=by cases k<;>simp[yW,IntKind.bits]
theorem jaq (w n:Nat)(h:n<2 ^ w):(BitVec.ofInt w (.ofNat n)).toNat=n:=by
 have e:(Qar n)=(n:Int):=rfl;rw[e,BitVec.ofInt_natCast,BitVec.toNat_ofNat,Qby h]
theorem jmb (k:IntKind):∃ w,yW k=2 ^ w - 1/\w<=k.bits:=by
 cases k
 .exact⟨7,by simp[yW],by simp[IntKind.bits]⟩
 .exact⟨15,by simp[yW],by simp[IntKind.bits]⟩
 .exact⟨31,by simp[yW],by simp[IntKind.bits]⟩
 .exact⟨63,by simp[yW],by simp[IntKind.bits]⟩
 .exact⟨8,by simp[yW],by simp[IntKind.bits]⟩
 .exact⟨16,by simp[yW],by simp[IntKind.bits]⟩
 .exact⟨32,by simp[yW],by simp[IntKind.bits]⟩
 .exact⟨64,by simp[yW],by simp[IntKind.bits]⟩
theorem jpt (op:BinOp)(k:IntKind)(x y:Int):KU op k x y=Za op k x y:=by
 unfold KU;split<;>try rfl
 rename_i m n;cases hm:QcC m (yW k)
 .rfl
 cases hn:QcC n (yW k)
 .rfl
 rw[qi] at hm hn;have hm':=Nat.lt_of_le_of_lt hm (jeW k);have hn':=Nat.lt_of_le_of_lt hn (jeW k);have em:=jaq k.bits m hm';have en:=jaq k.bits n hn';obtain⟨w,hw,hwb⟩:=jmb k;have pw:0<2 ^ w:=Nat.two_pow_pos w;have hm2:m<2 ^ w:=om
 have hn2:n<2 ^ w:=om
 show(match op with | .and=>_ | .or=>_ | .xor=>_|op=>_)=_;cases op<;>try rfl
 .show some (Qar (m &&& n))=some (k.wrap (Qar (BitVec.ofInt k.bits (.ofNat m) &&& BitVec.ofInt k.bits (.ofNat n)).toNat));rw[BitVec.toNat_and,em,en,WO];have:=Nat.and_lt_two_pow m hn2;omega
 .show some (Qar (m |||n))=some (k.wrap (Qar (BitVec.ofInt k.bits (.ofNat m) |||BitVec.ofInt k.bits (.ofNat n)).toNat));rw[BitVec.toNat_or,em,en,WO];have:=Nat.or_lt_two_pow hm2 hn2;omega
 .show some (Qar (m ^^^ n))=some (k.wrap (Qar (BitVec.ofInt k.bits (.ofNat m) ^^^ BitVec.ofInt k.bits (.ofNat n)).toNat));rw[BitVec.toNat_xor,em,en,WO];have:=Nat.xor_lt_two_pow hm2 hn2;omega
section
variable {P:Program} {ι:Inj} {w:World} {st:St}
theorem jjQ {op:BinOp}{k:IntKind}{x y m:Int}(h:Za op k x y=some m):(Op.intBits op k x y).run P w=.ok (.int k m) w:=by
 unfold Za at h;cases op<;>simp only[Option.some.injEq] at h<;>try(cases h;done)
 all_goals
  subst h;simp[Op.intBits]
theorem jmL {op:BinOp}(hs:op≠.shl)(hs':op≠.shr){k:IntKind}{a b:Int}{v:AV}(h:(QN op).run k a b=some v)(t:TypeId) :
  ∃ x,(binOp op t (.int k a) (.int k b)).run P w=.ok x w/\VR ι v x:=by
 cases op<;>simp only[QN,BF.run,Qq,jpt,X7,X9,Option.some.injEq] at h;case shl=>exact absurd rfl hs
 case shr=>exact absurd rfl hs'
 case add=>subst h;exact⟨.int k (k.wrap (a+b)),by simp[binOp,Op.intArith],rfl⟩
 case sub=>subst h;exact⟨.int k (k.wrap (a - b)),by simp[binOp,Op.intArith],rfl⟩
 case mul=>subst h;exact⟨.int k (k.wrap (a * b)),by simp[binOp,Op.intArith],rfl⟩
 case quo=>
  by_cases hb:b=.ofNat 0
  .simp[hb] at h
  .rw[decide_eq_false hb] at h;simp only[cond] at h;have hb':¬ b=0:=hb;refine⟨.int k (k.wrap (a.tdiv b)),by simp[binOp,Op.intDiv,hb'],?_⟩;split at h
   .rename_i m n;simp only[Option.some.injEq] at h;subst h;rfl
   .simp only[Option.some.injEq] at h;subst h;rfl
 case rem=>
  by_cases hb:b=.ofNat 0
  .simp[hb] at h
  .rw[decide_eq_false hb] at h;simp only[cond] at h;have hb':¬ b=0:=hb;refine⟨.int k (a.tmod b),by simp[binOp,Op.intDiv,hb'],?_⟩;split at h
   .simp only[Option.some.injEq] at h;subst h;rfl
   .simp only[Option.some.injEq] at h;subst h;rfl
 case eql=>subst h;exact⟨.bool (a == b),by simp[binOp,Op.intCmp],by simp[VR];rw[Qaw];simp⟩
 case neq=>
  subst h;refine⟨.bool (a != b),by simp[binOp,Op.intCmp],?_⟩;simp only[VR,Value.bool.injEq];by_cases hb:a=b<;>simp[hb]
 case lss=>subst h;exact⟨.bool (decide (a<b)),by simp[binOp,Op.intCmp],rfl⟩
 case leq=>
  subst h;refine⟨.bool (decide (a<=b)),by simp[binOp,Op.intCmp],?_⟩;simp only[VR,Value.bool.injEq];by_cases hb:b<a
  .have:¬ a<=b:=om
   simp[hb,this]
  .have:a<=b:=om
   simp[hb,this]
 case gtr=>subst h;exact⟨.bool (decide (a > b)),by simp[binOp,Op.intCmp],rfl⟩
 case geq=>
  subst h;refine⟨.bool (decide (a ≥ b)),by simp[binOp,Op.intCmp],?_⟩;simp only[VR,Value.bool.injEq];by_cases hb:a<b
  .have:¬ a ≥ b:=om
   simp[hb,this]
  .have:a ≥ b:=om
   simp[hb,this]
 all_goals
  rw[QbA] at h;obtain⟨m,hm,rfl⟩:=h;refine⟨.int k m,?_,rfl⟩;simp[binOp,jjQ hm]
theorem jcu {op:BinOp}(ho:op=.shl\/op=.shr){k yk:IntKind}{a b:Int}{v:AV}(h:Z1 op k a b=some v)(t:TypeId) :
  ∃ x,(binOp op t (.int k a) (.int yk b)).run P w=.ok x w/\VR ι v x:=by
 rcases ho with rfl|rfl
 all_goals
  simp only[Z1,X7] at h;by_cases hb:b<.ofNat 0
  .rw[decide_eq_true hb] at h;cases h
  .rw[decide_eq_false hb] at h;simp only[cond,Option.some.injEq] at h;have hb':¬ b<0:=hb;subst h;exact⟨_,by simp[binOp,Op.shift,hb'],rfl⟩
theorem JW:∀ a b:Lc,ZF a b=decide (a=b)
 |[],[]=>rfl
 |[],b :: l=>by show false=_;simp
 |a :: l,[]=>by show false=_;simp
 |a :: l,b :: r=>by
  show cond (QcA a b) (ZF l r) false=_;rw[JW l r];cases h:QcA a b
  .have:a≠b:=λe=>by rw[<-qJ,h] at e;cases e
   simp[this]
  .rw[qJ] at h;simp[h]
theorem J6:∀ {a b:List UInt8},a.map UInt8.toNat=b.map UInt8.toNat↔a=b
 |[],[]=>by simp
 |[],_ :: _=>by simp
 |_ :: _,[]=>by simp
 |a :: l,b :: r=>by simp[J6 (a:=l) (b:=r),UInt8.toNat_inj]
theorem UI:∀ a b:List UInt8,Ev.bytesLess (a.map UInt8.toNat) (b.map UInt8.toNat)=Op.bytesLess a b
 |[],[]=>by simp[Ev.bytesLess,Op.bytesLess]
 |[],_ :: _=>by simp[Ev.bytesLess,Op.bytesLess]
 |_ :: _,[]=>by simp[Ev.bytesLess,Op.bytesLess]
 |a :: l,b :: r=>by
  simp only[ζ,Ev.bytesLess,Op.bytesLess,UI l r]
  congr 1
  .rw[Qaw,qi,decide_eq_true_iff,UInt8.lt_iff_toNat_lt];exact Nat.succ_le_iff
  .congr 1
   rw[Qaw,qJ,beq_iff_eq,UInt8.toNat_inj]
theorem Q9 {s:Lc}{bs:ByteArray}(h:bs.data.toList.map UInt8.toNat=s):bs.size=s.length:=by
 rw[<-h,Qac,Qan];rfl
theorem jil {op:BinOp}{a b:Lc}{x y:ByteArray}(hx:x.data.toList.map UInt8.toNat=a)(hy:y.data.toList.map UInt8.toNat=b){v:AV}(h:ur op a b=some v)(t:TypeId) :
  ∃ u,(binOp op t (.string x) (.string y)).run P w=.ok u w/\VR ι v u:=by
 have e:decide (a=b)=(x.toList == y.toList):=by
  rw[Qaw,decide_eq_true_iff,beq_iff_eq,ByteArray.toList_eq,ByteArray.toList_eq,<-hx,<-hy,J6]
 have el:Ev.bytesLess a b=Op.bytesLess x.toList y.toList:=by rw[ByteArray.toList_eq,ByteArray.toList_eq,<-hx,<-hy,UI]
 cases op;case add=>
  change cond (QcC (QcD (jP a) (jP b)) 9223372036854775807) (some (AV.str (yN a b))) none=some v at h;generalize hle:QcC (QcD (jP a) (jP b)) 9223372036854775807=q at h;cases q
  .cases h
  .simp only[cond,Option.some.injEq,yu] at h;rw[qi,jO,jO] at hle;have hle':a.length+b.length<=9223372036854775807:=hle;refine⟨.string (x ++ y),?_,?_⟩
   .rw[binOp_string_add,run_string_add_sum w x y (by rw[Q9 hx,Q9 hy];exact hle')]
   .subst h;simp only[VR];exact⟨_,rfl,by simp[hx,hy]⟩
 all_goals simp only[ur,JW,Option.some.injEq] at h
 all_goals try(cases h;done)
 case eql=>subst h;exact⟨.bool (x.toList == y.toList),by simp[binOp,Op.stringOp],by simp only[VR,e]⟩
 case neq=>
  subst h;refine⟨.bool (!(x.toList == y.toList)),by simp[binOp,Op.stringOp],?_⟩;simp only[VR,e];cases (x.toList == y.toList)<;>rfl
 case lss=>subst h;exact⟨.bool (Op.bytesLess x.toList y.toList),by simp[binOp,Op.stringOp],by simp only[VR,el]⟩
 case leq=>subst h;exact⟨.bool (Op.bytesLess x.toList y.toList ||x.toList == y.toList),by simp[binOp,Op.stringOp],by simp only[VR,el,e]⟩
 case gtr=>subst h;exact⟨.bool (!(Op.bytesLess x.toList y.toList ||x.toList == y.toList)),by simp[binOp,Op.stringOp],by simp only[VR,el,e]⟩
 case geq=>subst h;exact⟨.bool (!(Op.bytesLess x.toList y.toList)),by simp[binOp,Op.stringOp],by simp only[VR,el]⟩
end
section
variable {P:Program} {ι:Inj} {w:World} {st:St}
theorem Ke {d n len:Nat}{t e:TypeId}{i:TypeInfo}(ht:P.underlying t=some (.array len e))(hi:P.info? e=some i)(hn:i.size=n)(xs ys:Array Value)
  (f:Nat->Option Bool) :
  ∀ (k s:Nat) (q:Bool),((Qag s k).foldr (λi r=>(f i).bind λq=>cond q r (some false)) (some true))=some q->
   (∀ j b,s<=j->j<s+k->f j=some b->∃ u v,(part e xs (j * n)).run P w=.ok u w/\(part e ys (j * n)).run P w=.ok v w/\(Op.equalIn d e u v).run P w=.ok b w)->
   (do
    for i in Qag s k do
     if !(<-Op.equalIn d e (<-part e xs (i * n)) (<-part e ys (i * n))) then return false
    return true:Sem Bool).run P w=.ok q w
 |0,s,q,h,_=>by
  simp at h;subst h;simp
 |k+1,s,q,h,hf=>by
  rw[Qbn,QbV] at h;cases hs:f s with
  |none=>simp[hs] at h
  |some b=>
   obtain⟨u,v,h1,h2,h3⟩:=hf s b (η _) om hs;simp only[hs,Qbe] at h;have ih:=λq' h'=>Ke ht hi hn xs ys f k (s+1) q' h' (λj b h4 h5 h6=>hf j b om om h6);cases b
   .simp only[cond,Option.some.injEq] at h;subst h;simp[Qbn,h1,h2,h3]
   .simp only[cond] at h;have:=ih q h;simp[Qbn,h1,h2,h3] at this ⊢;exact this
theorem jbK:∀ (d:Nat) (t:TypeId) (x y:AV) (u v:Value) (q:Bool),VR ι x u->VR ι y v->(eqF P d t).run x y=some q->∀ D,d<=D->(Op.equalIn D t u v).run P w=.ok q w
 |0,t,x,y,u,v,q,hx,hy,h,D,hD=>by simp[eqF,NOQ] at h
 |d+1,t,x,y,u,v,q,hx,hy,h,0,hD=>by omega
 |d+1,t,x,y,u,v,q,hx,hy,h,D+1,hD=>by
  have hD':d<=D:=om
  simp only[eqF] at h;split at h
  .rename_i hu;simp only at h;split at h<;>try(cases h;done)
   simp only[VR] at hx hy;subst hx;subst hy;rename_i a b;simp only[Option.some.injEq] at h;rw[run_equalIn_bool' w D t a b hu,<-h];cases a<;>cases b<;>rfl
  .rename_i hu;simp only at h;split at h<;>try(cases h;done)
   simp only[VR] at hx hy;subst hx;subst hy;rename_i k a k' b;generalize hk:eqK k k'=kk at h;cases kk
   .cases h
   .have:=ua hk;subst this;simp only[cond,Option.some.injEq,X9] at h;rw[run_equalIn_int w D t k _ a b hu,<-h]
    congr 1
  .rename_i hu;simp only at h;split at h<;>try(cases h;done)
   simp only[VR] at hx hy;obtain⟨bx,rfl,hbx⟩:=hx;obtain⟨by',rfl,hby⟩:=hy;simp only[Option.some.injEq,JW] at h;rw[run_equalIn_string w D t _ _ hu,<-h]
   congr 1
   rw[Qaw,decide_eq_true_iff,beq_iff_eq,ByteArray.toList_eq,ByteArray.toList_eq,<-hbx,<-hby,J6]
  .rename_i hu;simp only at h;split at h<;>(try simp only[Option.some.injEq] at h)<;>try(cases h;done)
   all_goals simp only[VR] at hx hy
   .subst hx;subst hy;subst h;simp[Op.equalIn,run_underlying hu]
   .obtain⟨_,a,rfl,_⟩:=hy;subst hx;subst h;simp[Op.equalIn,run_underlying hu]
   .obtain⟨_,a,rfl,_⟩:=hx;subst hy;subst h;simp[Op.equalIn,run_underlying hu]
  .rename_i hu;simp only at h;split at h<;>(try simp only[Option.some.injEq] at h)<;>try(cases h;done)
   all_goals simp only[VR] at hx hy
   .subst hx;subst hy;subst h;simp[Op.equalIn,run_underlying hu]
   .obtain⟨_,_,a,C,rfl,_⟩:=hy;subst hx;subst h;simp[Op.equalIn,run_underlying hu]
   .obtain⟨_,_,a,C,rfl,_⟩:=hx;subst hy;subst h;simp[Op.equalIn,run_underlying hu]
   .obtain⟨p,C,rfl,_,_,hp⟩:=hx;obtain⟨B,o,vs,rfl,_⟩:=hp (QaS _);subst hy;subst h;simp[Op.equalIn,run_underlying hu]
  .rename_i hu;simp only at h;split at h<;>(try simp only[Option.some.injEq] at h)<;>try(cases h;done)
   all_goals simp only[VR] at hx hy
   .subst hx;subst hy;subst h;simp[Op.equalIn,run_underlying hu]
   .obtain⟨_,a,rfl,_⟩:=hy;subst hx;subst h;simp[Op.equalIn,run_underlying hu]
   .obtain⟨_,a,rfl,_⟩:=hx;subst hy;subst h;simp[Op.equalIn,run_underlying hu]
  .rename_i hu;simp only at h;split at h<;>(try simp only[Option.some.injEq] at h)<;>try(cases h;done)
   all_goals simp only[VR] at hx hy
   .subst hx;subst hy;subst h;simp[Op.equalIn,run_underlying hu]
   .obtain⟨a,rfl,_⟩:=hy;subst hx;subst h;simp[Op.equalIn,run_underlying hu]
   .obtain⟨a,rfl,_⟩:=hx;subst hy;subst h;simp[Op.equalIn,run_underlying hu]
  .rename_i hu;simp only at h;split at h<;>(try simp only[Option.some.injEq] at h)<;>try(cases h;done)
   all_goals simp only[VR] at hx hy
   .obtain⟨a,rfl,_⟩:=hy;subst hx;subst h;simp[Op.equalIn,run_underlying hu]
   .obtain⟨a,rfl,_⟩:=hx;subst hy;subst h;simp[Op.equalIn,run_underlying hu]
  .rename_i fields hu
   generalize hg : (P.stoodInHeld t || fields.toList.any λf => f.name == "_") = g at h
   cases g
   .simp only[cond] at h;split at h<;>try(cases h;done)
    rename_i xs ys;simp only[VR] at hx hy;obtain⟨ax,rfl,hax⟩:=hx;obtain⟨ay,rfl,hay⟩:=hy;rw[QbW] at hg;have hf:P.fieldsOf t=fields:=by simp[Program.fieldsOf,hu]
    rw[run_equalIn_struct w D t ax ay (by rw[hf];exact hu) hg.1,hf];have hn:=hg.2;generalize fields.toList=fs at h hn;clear hg hf hu;induction fs generalizing q with
    |nil=>simp at h;subst h;simp[Op.eqFields]
    |cons f fs ih=>
     rw[QbV] at h;simp only[List.any_cons,QbW,beq_eq_false_iff_ne] at hn;cases h1:zA P f.type xs f.offset with
     |none=>simp[h1] at h
     |some ux=>
      cases h2:zA P f.type ys f.offset with
      |none=>simp[h1,h2] at h
      |some uy=>
       obtain⟨px,hpx,hvx⟩:=Zr (w:=w) hax h1;obtain⟨py,hpy,hvy⟩:=Zr (w:=w) hay h2;cases h3:(eqF P d f.type).run ux uy with
       |none=>simp[h1,h2,h3] at h
       |some b=>
        have h4:=jbK d f.type ux uy px py b hvx hvy h3 D hD';simp only[h1,h2,h3,Qbe] at h;simp only[Op.eqFields,hn.1,ne_eq,not_false_eq_true,if_true,Sem.run_bind,hpx,hpy,h4,Result.andThen_ok];cases b
        .simp only[cond,Option.some.injEq] at h;subst h;simp
        .simp only[cond] at h;simp only[Bool.not_true,QaP,if_false];exact ih q h hn.2
   .cases h
  .rename_i len e hu;split at h
   .rename_i n hs;obtain⟨i,hi,hsi⟩:=zt hs;simp only at h;split at h<;>try(cases h;done)
    rename_i xs ys;simp only[VR] at hx hy;obtain⟨ax,rfl,hax⟩:=hx;obtain⟨ay,rfl,hay⟩:=hy
    let f:Nat->Option Bool:=λi=>(zA P e xs (QcE i n)).bind λu=>(zA P e ys (QcE i n)).bind λv=>(eqF P d e).run u v
    have h':((Qag 0 len).foldr (λi r=>(f i).bind λq=>cond q r (some false)) (some true))=some q:=by
     rw[<-h]
     congr 1
     funext i r
     simp only[f,Option.bind_assoc]
    have key:=Ke (w:=w) (d:=D) hu hi hsi ax ay f len 0 q h' (λj b _ _ hj=>by
     simp only[f] at hj;change ((zA P e xs (j * n)).bind λu=>(zA P e ys (j * n)).bind λv=>(eqF P d e).run u v)=some b at hj;cases h1:zA P e xs (j * n) with
     |none=>simp[h1] at hj
     |some ux=>
      cases h2:zA P e ys (j * n) with
      |none=>simp[h1,h2] at hj
      |some uy=>
       simp only[h1,h2,Qbe] at hj;obtain⟨px,hpx,hvx⟩:=Zr (w:=w) hax h1;obtain⟨py,hpy,hvy⟩:=Zr (w:=w) hay h2;exact⟨px,py,hpx,hpy,jbK d e ux uy px py b hvx hvy hj D hD'⟩)
    simp only[Op.equalIn,Sem.run_bind,run_underlying hu,Result.andThen_ok,qd hi,hsi];rw[<-key];simp only[Std.Legacy.Range.forIn_eq_forIn_range',Std.Legacy.Range.size,Sem.run_bind];simp
   .cases h
  .cases h
end
section
variable {P:Program} {ι:Inj} {w:World} {st:St} {t:TypeId}
variable {ρ:Operand->Value} {op:Operand->OF} {env:Env} {o:Oper}
theorem qY {α:Type}{x:Option α}{f:α->ER}{res:Result Next}(h:∀ a,x=some a->Res ι w st (f a) res):Res ι w st (jN x f) res:=by
 cases x with
 |none=>trivial
 |some a=>exact h a rfl
theorem jg0 {t:TypeId}{x y:Operand}(ho:o.op=.index t x y)(k:Sim ι st.h st.nx w)(hx:VR ι ((op x).run env) (ρ x))(hy:VR ι ((op y).run env) (ρ y)) :
  Res ι w st ((jy P op (.index t x y)).run env st) ((execOp ρ o).run P w):=by
 simp only[jy,vV];split<;>try trivial
 .rename_i n e hu;split<;>try trivial
  rename_i s hs;obtain⟨i,hi,hsi⟩:=zt hs;try dsimp only
  generalize (op x).run env=vx at hx;cases vx<;>try trivial
  rename_i cs;simp only[VR] at hx;obtain⟨a,hpx,hv⟩:=hx;simp only[Qy];refine zK hy λkk j hj=>jQ λhle=>qY λu hp=>?_;rw[qi] at hle;obtain⟨z,hz,hvz⟩:=Zr (w:=w) hv hp;refine Res.val k (x:=z) ?_ hvz;have h1:(0:Int)<=Qar j/\Qar j<(n:Int):=⟨QbU j,by show(j:Int)<n;omega⟩;have hz':(part e a (j * s)).run P w=.ok z w:=hz;simp only[execOp,ho,Instr.index,hj,asIntOf,Sem.run_bind,Sem.run_pure,Result.andThen_ok,run_underlying hu,hpx];rw[if_pos h1];simp[qd hi,hsi,hz']
 .rename_i hu;try dsimp only
  generalize (op x).run env=vx at hx;cases vx<;>try trivial
  rename_i s;simp only[VR] at hx;obtain⟨bs,hpx,hbs⟩:=hx;simp only[zV];refine zK hy λkk j hj=>jQ λhle=>?_;rw[qi,jO] at hle;have hsz:=Q9 hbs;have hj':j<bs.size:=om
  refine Res.val k (x:=.int .u8 (bs[j]'hj').toNat) ?_ ?_
  .simp only[execOp,ho,Sem.run_bind,hj,hpx];rw[run_index_string w t bs kk _ hu,dif_pos ⟨QbU j,by show(j:Int)<bs.size;omega⟩];simp
  .simp only[VR,zM,<-hbs]
   congr 1
   show((bs[j]'hj').toNat:Int)=((List.map UInt8.toNat bs.data.toList).getD j 0:Nat);have:j<bs.data.toList.length:=by rw[Qan];exact hj'
   simp only[Qaf,Qbf,Qad this,Qau,QaM];rfl
theorem jjt {b:UnOp}{t:TypeId}{x:Operand}(ho:o.op=.unOp b t x)(k:Sim ι st.h st.nx w)(hx:VR ι ((op x).run env) (ρ x)) :
  Res ι w st ((jy P op (.unOp b t x)).run env st) ((execOp ρ o).run P w):=by
 simp only[jy,YR];cases b<;>simp only<;>try trivial
 all_goals
  generalize (op x).run env=vx at hx;cases vx<;>try trivial
 .rename_i kk n;simp only[VR] at hx;refine Res.val k (x:=.int kk (kk.wrap (0 - n))) ?_ rfl;simp[execOp,ho,hx,Op.unary,Op.intArith]
 .rename_i kk n;simp only[VR] at hx;refine qY λm hm=>?_;refine Res.val k (x:=.int kk m) ?_ rfl;simp[execOp,ho,hx,Op.unary,jjQ hm]
 .rename_i bb;simp only[VR] at hx;refine Res.val k (x:=.bool (!bb)) ?_ (by cases bb<;>rfl);simp[execOp,ho,hx,Op.unary]
def vR:Value->Bool
 |.int _ _=>false
 |.float _ _=>false
 |.complex _ _ _=>false
 |.string _=>false
 |_=>true
theorem jfg {u:Value}(hu:vR u=true)(t:TypeId)(v:Value):(Go.binOp .eql t u v).run P w=((Op.equal t u v).run P w).andThen λb w'=>.ok (.bool b) w':=by
 cases u<;>simp only[vR] at hu<;>try(cases hu;done)
 all_goals
  simp only[binOp];simp
theorem jeT {u:Value}(hu:vR u=true)(t:TypeId)(v:Value):(Go.binOp .neq t u v).run P w=((Op.equal t u v).run P w).andThen λb w'=>.ok (.bool (!b)) w':=by
 cases u<;>simp only[vR] at hu<;>try(cases hu;done)
 all_goals
  simp only[binOp];simp
theorem jee {b:BinOp}{t:TypeId}{x y:Operand}{u v:Value}(hg:P.eqGuardType P.depth t=false)(hn:¬ (u=.nilIface/\v=.nilIface)):(eqGuard b t x y u v).run P w=.ok () w:=by
 by_cases ha:∃ a,u=.agg a
 .obtain⟨a,rfl⟩:=ha;by_cases hb:∃ c,v=.agg c
  .obtain⟨c,rfl⟩:=hb;exact run_eqGuard_agg w b t x y a c hg
  .cases b<;>cases v<;>first|(exact absurd ⟨_,rfl⟩ hb)|(simp[eqGuard])
 .cases b<;>cases u<;>first|(exact absurd ⟨_,rfl⟩ ha)|(simp[eqGuard];done)|(cases v<;>first|(exact absurd ⟨rfl,rfl⟩ hn)|(simp[eqGuard];done))
theorem Yn {b:BinOp}{t:TypeId}{x y:Operand}{u v:Value}(ha:∀ a,u≠.agg a)(hn:u≠.nilIface):(eqGuard b t x y u v).run P w=.ok () w:=by
 cases b<;>cases u<;>first|(exact absurd rfl (ha _))|(exact absurd rfl hn)|(simp[eqGuard];done)
theorem ju7 (hu:∃ m,P.underlying t=some (.interface m)):(Op.equal t .nilIface .nilIface).run P w=.ok true w:=by
 obtain⟨m,hu⟩:=hu;have:∀ d,(Op.equalIn (d+1) t .nilIface .nilIface).run P w=.ok true w:=λd=>by simp[Op.equalIn,run_underlying hu]
 exact this 9999
theorem ju8 (hu:∃ m,P.underlying t=some (.interface m))(a:TypeId)(v:Value):(Op.equal t .nilIface (.iface a v)).run P w=.ok false w:=by
 obtain⟨m,hu⟩:=hu;have:∀ d,(Op.equalIn (d+1) t .nilIface (.iface a v)).run P w=.ok false w:=λd=>by simp[Op.equalIn,run_underlying hu]
 exact this 9999
theorem ju9 (hu:∃ m,P.underlying t=some (.interface m))(a:TypeId)(v:Value):(Op.equal t (.iface a v) .nilIface).run P w=.ok false w:=by
 obtain⟨m,hu⟩:=hu;have:∀ d,(Op.equalIn (d+1) t (.iface a v) .nilIface).run P w=.ok false w:=λd=>by simp[Op.equalIn,run_underlying hu]
 exact this 9999
def jds:AV->Bool
 |.bool _=>true
 |.nilp=>true
 |.ptr _ _=>true
 |.nils=>true
 |.slice _ _ _ _ _ _=>true
 |.nilm=>true
 |.map _=>true
 |.nilf=>true
 |.fn _ _=>true
 |.agg _=>true
 |.lst _ _=>true
 |_=>false
theorem jjz {x:AV}{u:Value}(h:jds x=true)(hx:VR ι x u):vR u=true/\u≠.nilIface:=by
 cases x<;>simp only[jds] at h<;>try(cases h;done)
 all_goals simp only[VR] at hx
 all_goals first
  |(subst hx;exact⟨rfl,by simp⟩)
  |(obtain⟨_,_,a,C,rfl,_⟩:=hx;exact⟨rfl,by simp⟩)
  |(obtain⟨p,C,rfl,_⟩:=hx;exact⟨rfl,by simp⟩)
  |(obtain⟨_,a,rfl,_⟩:=hx;exact⟨rfl,by simp⟩)
  |(obtain⟨a,rfl,_⟩:=hx;exact⟨rfl,by simp⟩)
theorem jg5 {d:Nat}{t:TypeId}{x y:AV}{q:Bool}(hni:∀ m,P.underlying t≠some (.interface m))(hint:∀ k,P.underlying t≠some (.int k))(hstr:P.underlying t≠some .string)
  (h:(eqF P d t).run x y=some q):jds x=true:=by
 cases d with
 |zero=>simp[eqF,NOQ] at h
 |succ d=>
  simp only[eqF] at h;split at h
  case h_2 hu=>exact absurd hu (hint _)
  case h_3 hu=>exact absurd hu hstr
  case h_8 hu=>exact absurd hu (hni _)
  case h_9 fields hu=>
   generalize hg : (P.stoodInHeld t || fields.toList.any λf => f.name == "_") = g at h
   cases g
   .simp only[cond] at h;split at h<;>first|rfl|(cases h;done)
   .cases h
  case h_10=>
   split at h
   .simp only at h;split at h<;>first|rfl|(cases h;done)
   .cases h
  all_goals
   first
   |(cases h;done)
   |(simp only at h;split at h<;>first|rfl|(cases h;done))
theorem jg3 {b:BinOp}{t:TypeId}{x y:Operand}{s:TypeId}(ho:o.op=.binOp b t x y s)(k:Sim ι st.h st.nx w)(hx:VR ι ((op x).run env) (ρ x))(hy:VR ι ((op y).run env) (ρ y)) :
  Res ι w st ((jy P op (.binOp b t x y s)).run env st) ((execOp ρ o).run P w):=by
 have hexec:(execOp ρ o).run P w=((eqGuard b t x y (ρ x) (ρ y)).run P w).andThen λ_ w'=>((Go.binOp b t (ρ x) (ρ y)).run P w').andThen λv w'=>.ok (.value v) w':=by
  simp only[execOp,ho,Sem.run_bind];cases (eqGuard b t x y (ρ x) (ρ y)).run P w<;>simp[Result.andThen]
 rw[hexec];simp only[jy,Qk];split
 .rename_i hu;generalize hvx:(op x).run env=vx at hx;generalize hvy:(op y).run env=vy at hy;have key:∀ q,kI (Region.isConst x ||Region.isConst y) vx vy=some q->(eqGuard b t x y (ρ x) (ρ y)).run P w=.ok () w/\vR (ρ x)=true/\(Op.equal t (ρ x) (ρ y)).run P w=.ok q w:=by
   intro q hq;unfold kI at hq;split at hq
   .simp only[VR] at hx hy;generalize hc:(Region.isConst x ||Region.isConst y)=c at hq;cases c
    .cases hq
    .simp only[cond,Option.some.injEq] at hq;subst hq;rw[hx,hy];refine⟨?_,rfl,ju7 ⟨_,hu⟩⟩;rw[QaE] at hc;cases b<;>simp[eqGuard];all_goals
      rcases hc with hc|hc
      .cases x<;>simp[Region.isConst] at hc;simp
      .cases y<;>simp[Region.isConst] at hc;simp
   .simp only[VR] at hx hy;obtain⟨a,hya,_⟩:=hy;cases hq;rw[hx,hya];exact⟨by cases b<;>simp[eqGuard],rfl,ju8 ⟨_,hu⟩ _ _⟩
   .simp only[VR] at hx hy;obtain⟨a,hxa,_⟩:=hx;cases hq;rw[hy,hxa];exact⟨by cases b<;>simp[eqGuard],rfl,ju9 ⟨_,hu⟩ _ _⟩
   .cases hq
  cases b<;>simp only[hvx,hvy]<;>try trivial
  .refine qY λq hq=>?_;obtain⟨h1,h2,h3⟩:=key q hq;exact Res.val k (x:=.bool q) (by simp[h1,jfg h2,h3]) rfl
  .refine qY λq hq=>?_;obtain⟨h1,h2,h3⟩:=key q hq;exact Res.val k (x:=.bool (!q)) (by simp[h1,jeT h2,h3]) (by cases q<;>rfl)
 .rename_i hu;split
  .try dsimp only
   generalize (op x).run env=vx at hx;generalize (op y).run env=vy at hy;cases vx<;>try trivial
   cases vy<;>try trivial
   rename_i kx nx ky ny;refine qY λv hv=>?_;simp only[VR] at hx hy;rw[hx,hy];obtain⟨z,h1,h2⟩:=jcu (P:=P) (w:=w) (yk:=ky) (.inl rfl) hv t;exact Res.val k (x:=z) (by rw[Yn hac hac];simp[h1]) h2
  .try dsimp only
   generalize (op x).run env=vx at hx;generalize (op y).run env=vy at hy;cases vx<;>try trivial
   cases vy<;>try trivial
   rename_i kx nx ky ny;refine qY λv hv=>?_;simp only[VR] at hx hy;rw[hx,hy];obtain⟨z,h1,h2⟩:=jcu (P:=P) (w:=w) (yk:=ky) (.inr rfl) hv t;exact Res.val k (x:=z) (by rw[Yn hac hac];simp[h1]) h2
  .rename_i b hs hs';try dsimp only
   generalize (op x).run env=vx at hx;generalize (op y).run env=vy at hy;cases vx<;>try trivial
   cases vy<;>try trivial
   refine jQ λhk=>qY λv hv=>?_;have:=ua hk;subst this;simp only[VR] at hx hy;rw[hx,hy];obtain⟨z,h1,h2⟩:=jmL (P:=P) (w:=w) (λe=>hs e) (λe=>hs' e) hv t;exact Res.val k (x:=z) (by rw[Yn hac hac];simp[h1]) h2
 .rename_i hu;try dsimp only
  generalize (op x).run env=vx at hx;generalize (op y).run env=vy at hy;cases vx<;>try trivial
  cases vy<;>try trivial
  refine qY λv hv=>?_;simp only[VR] at hx hy;obtain⟨bx,hpx,hbx⟩:=hx;obtain⟨by',hpy,hby⟩:=hy;rw[hpx,hpy];obtain⟨z,h1,h2⟩:=jil (P:=P) (w:=w) hbx hby hv t;exact Res.val k (x:=z) (by rw[Yn hac hac];simp[h1]) h2
 .rename_i hni hint hstr;generalize hg:P.eqGuardType P.depth t=g;cases g
  .simp only[cond];generalize hvx:(op x).run env=vx at hx;generalize hvy:(op y).run env=vy at hy;have key:∀ q,(eqF P 20 t).run vx vy=some q->(eqGuard b t x y (ρ x) (ρ y)).run P w=.ok () w/\vR (ρ x)=true/\(Op.equal t (ρ x) (ρ y)).run P w=.ok q w:=by
    intro q hq;have he:=jbK (w:=w) 20 t vx vy (ρ x) (ρ y) q hx hy hq 10000 om;have hsh:=jjz (jg5 (λm e=>hni m e) (λm e=>hint m e) hstr hq) hx;exact⟨jee hg (λe=>hsh.2 e.1),hsh.1,he⟩
   cases b<;>simp only[hvx,hvy]<;>try trivial
   .refine qY λq hq=>?_;obtain⟨h1,h2,h3⟩:=key q hq;exact Res.val k (x:=.bool q) (by simp[h1,jfg h2,h3]) rfl
   .refine qY λq hq=>?_;obtain⟨h1,h2,h3⟩:=key q hq;exact Res.val k (x:=.bool (!q)) (by simp[h1,jeT h2,h3]) (by cases q<;>rfl)
  .trivial
end
section
variable {P:Program} {ι:Inj} {w:World} {st:St}
variable {ρ:Operand->Value} {op:Operand->OF} {env:Env} {o:Oper}
theorem jcW {ι:Inj}{cs:List AV}{vs:List Value}{o a b:Nat}(e3:o+cs.length<=vs.length)(hab:a+b<=cs.length)(e4:VRs ι.gone cs ((vs.drop o).take cs.length)) :
  (o+a)+((cs.drop a).take b).length<=vs.length/\VRs ι.gone ((cs.drop a).take b) ((vs.drop (o+a)).take ((cs.drop a).take b).length):=by
 have e7:((cs.drop a).take b).length=b:=by simp only[Qas,Qav];omega
 rw[e7];refine⟨om,?_⟩;have:=(e4.drop a).take b;rw[List.drop_take,Qbw,QbT,Qbx om] at this;exact this
theorem kR {t e:TypeId}(h:elemOf P t=some e):P.underlying t=some (.slice e):=by
 unfold elemOf at h;split at h
 .rename_i hu;cases h;exact hu
 .cases h
theorem Ql (ι:Inj)(b B S len C sz:Nat)(cap:Nat)(ex:Bool)(hl:len<=cap)(hc:cap<=C)(he:ex=true->C=cap)(hS:ex=false->C * sz<=S) :
  VR (ι.add b B S) (.slice b 0 len cap sz ex) (.slice (some ⟨B,0,none⟩) len C):=by
 simp only[VR];refine⟨by rw[Yw];simp,hl,_,C,rfl,hc,he,λB' S' e=>?_⟩;rw[Yw] at e;cases e;exact⟨.inr rfl,λh=>by have:=hS h;omega⟩
theorem jhB {z:List AV}(hz:0<z.length)(i:Nat):qD z.length z .e i=z.getD (i % z.length) .bad:=by
 rw[yP,XM];rfl
theorem jpF {z:List AV}{vs:Array Value}(h:VRs ι z vs.toList)(hc:z.all AV.cell=true)(n:Nat)(elem:TypeId)(hz:0<n->0<z.length) :
  OR ι n (.row n z.length z .e) (.cells (madeCells vs n) elem (0,0)):=by
 simp only[OR];have hl:=h.length;rw[Qan] at hl;refine⟨_,elem,0,0,rfl,size_madeCells _ _,η _,om,λi hi=>?_⟩;have hz':=hz om;rw[jhB hz'];have hm:i % z.length<z.length:=Nat.mod_lt _ hz';refine⟨?_,vs.getD (i % z.length) undef,?_,?_⟩
 .simp only[Qaf,Qad hm,QaM];exact Qah.1 hc _ (Qaa hm)
 .have hm':i % vs.size<vs.size:=by rw[hl];exact hm
  simp only[madeCells];rw[Array.getElem?_map,Array.getElem?_range];rw[<-hl];simp[hi,hm',Array.getD,getElem!_pos]
 .have:=h.get (i % z.length) hm;have hm':i % z.length<vs.size:=by rw[hl];exact hm
  simpa[Qaf,Array.getD,hm'] using this
theorem HI {t:TypeId}{x y:Operand}(ho:o.op=.makeSlice t x y)(k:Sim ι st.h st.nx w)(hx:VR ι ((op x).run env) (ρ x))(hy:VR ι ((op y).run env) (ρ y)) :
  Res ι w st ((jy P op (.makeSlice t x y)).run env st) ((execOp ρ o).run P w):=by
 simp only[jy,wM];split<;>try trivial
 rename_i e he;have hu:=kR he;split<;>try trivial
 rename_i i z hi hz;obtain⟨i',zv,hi',hzv,hr⟩:=vg hz ι;rw[hi] at hi';cases hi';generalize hcc:cond (lall AV.cell z) (QcA (jP z) i.size) false=cc;cases cc<;>try trivial
 have hcell:z.all AV.cell=true/\z.length=i.size:=by
  cases hh:lall AV.cell z
  .rw[hh] at hcc;cases hcc
  .rw[hh] at hcc;simp only[cond] at hcc;rw[qJ,jO] at hcc;rw[Wu] at hh;exact⟨hh,hcc⟩
 show Res ι w st (qv ((op x).run env) λl=>_) _;refine zK hx λkl l hl=>zK hy λkc c hc=>jQ λh1=>jQ λh2=>jQ λh3=>?_;rw[qi] at h1 h2 h3;rw[jF,St.alloc_eq];have le:=Le.add (ι:=ι) k.born w.heap.size (c * i.size);refine Res.alloc k (S:=c * i.size) (x:=.cells (madeCells zv.cells (c * i.size)) e) ?_ (Ql ι _ _ _ l c i.size c true h1 (η _) (λ_=>rfl) (λh=>by cases h)) ?_
 .have h4:=jpF (VRs.mono le _ _ hr) hcell.1 (c * i.size) e (λh0=>by
   rw[hcell.2];rcases Nat.eq_zero_or_pos i.size with h5|h5
   .rw[h5] at h0;simp at h0
   .exact h5)
  rw[hcell.2] at h4;exact h4
 .have h2':(i.bytes:Int) * (c:Int)<=281474976710656:=by
   have h4:i.bytes * c<=140737488355328:=h2;have h5:((i.bytes * c:Nat):Int)<=140737488355328:=Int.ofNat_le.2 h4;rw[Int.natCast_mul] at h5;omega
  have hrun:=run_make (P:=P) w t e i zv hu hi hzv kl kc (l:Int) (c:Int) (QbU l) (Int.ofNat_le.2 h1) h2' (Int.ofNat_le.2 h3);simp only[execOp,ho,Sem.run_bind,hl,hc];have e1:(Qar l)=(l:Int):=rfl;have e2:(Qar c)=(c:Int):=rfl;rw[e1,e2,hrun];simp
theorem yA {x:Option Operand}(hx:∀ a,x=some a->VR ι ((op a).run env) (ρ a)){d:Nat}{f:Nat->ER}{res:Result Next}
  (h:∀ n,(x=none/\n=d\/∃ a kk,x=some a/\ρ a=.int kk (Qar n))->Res ι w st (f n) res):Res ι w st (optF (x.map op) d env f) res:=by
 cases x with
 |none=>exact h d (.inl ⟨rfl,rfl⟩)
 |some a=>
  show Res ι w st (qv ((op a).run env) f) res;exact zK (hx a rfl) λkk n hn=>h n (.inr ⟨a,kk,rfl,hn⟩)
theorem zJ {x:Value}{n y:Nat}{kk:IntKind}(hx:x=.int kk (Qar n))(h:n<=y)(code:BoundsCode):(Instr.sliceBound x y code).run P w=.ok n w:=by
 subst hx;have h1:(0:Int)<=Qar n/\Qar n<=(y:Int):=⟨QbU n,by show(n:Int)<=y;omega⟩;simp only[Instr.sliceBound,asIntOf,Sem.run_bind,Sem.run_pure,Result.andThen_ok];rw[if_pos h1];simp
def bnd (ρ:Operand->Value)(x:Option Operand)(d n:Nat):Prop:=x=none/\n=d\/∃ a kk,x=some a/\ρ a=.int kk (Qar n)
theorem XZ {lo hi:Option Operand}{s:Bool}{len cap l h:Nat}(hl:bnd ρ lo 0 l)(hh:bnd ρ hi len h)(h1:l<=h)(h2:h<=cap) :
  (Instr.sliceBounds s len cap (lo.map ρ) (hi.map ρ) none).run P w=.ok (l,h,cap) w:=by
 rcases hl with ⟨rfl,rfl⟩|⟨a,ka,rfl,ha⟩<;>rcases hh with ⟨rfl,rfl⟩|⟨b,kb,rfl,hb⟩
 all_goals simp only[Instr.sliceBounds,Qbh,Qau,Sem.run_bind,Sem.run_pure,Result.andThen_ok]
 .rw[zJ hb h2];simp
 .rw[zJ ha h1];simp
 .rw[zJ hb h2];simp only[Result.andThen_ok];rw[zJ ha h1];simp
theorem k8 {lo hi:Option Operand}{m:Operand}{s:Bool}{len cap l h n:Nat}{km:IntKind}(hl:bnd ρ lo 0 l)(hh:∃ a kk,hi=some a/\ρ a=.int kk (Qar h))(hm:ρ m=.int km (Qar n))(h1:l<=h)(h2:h<=n)(h3:n<=cap) :
  (Instr.sliceBounds s len cap (lo.map ρ) (hi.map ρ) (some (ρ m))).run P w=.ok (l,h,n) w:=by
 obtain⟨b,kb,rfl,hb⟩:=hh;rcases hl with ⟨rfl,rfl⟩|⟨a,ka,rfl,ha⟩
 all_goals
  simp only[Instr.sliceBounds,Qbh,Qau,Sem.run_bind,Sem.run_pure,Result.andThen_ok];rw[zJ hm h3];simp only[Result.andThen_ok];rw[zJ hb h2];simp only[Result.andThen_ok]
 rw[zJ ha h1];simp
theorem uf {z:List AV}(h:z.all AV.cell=true){i:Nat}(hi:i<z.length):(z.getD i .bad).cell=true:=by
 simp only[Qaf,Qad hi,QaM];exact Qah.1 h _ (Qaa hi)
theorem VQ {bs:ByteArray}{s:Lc}(h:bs.data.toList.map UInt8.toNat=s)(l n:Nat):(bs.extract l n).data.toList.map UInt8.toNat=(s.drop l).take (n - l):=by
 rw[<-h,ByteArray.data_extract,Array.toList_extract,List.extract_eq_take_drop,List.map_take,List.map_drop]
theorem jgX {t:TypeId}{x:Operand}{lo hi mx:Option Operand}(ho:o.op=.slice t x lo hi mx)(k:Sim ι st.h st.nx w)(hx:VR ι ((op x).run env) (ρ x))
  (hlo:∀ a,lo=some a->VR ι ((op a).run env) (ρ a)) (hhi:∀ a,hi=some a->VR ι ((op a).run env) (ρ a)) (hmx:∀ a,mx=some a->VR ι ((op a).run env) (ρ a)) :
  Res ι w st ((jy P op (.slice t x lo hi mx)).run env st) ((execOp ρ o).run P w):=by
 have hexec:(execOp ρ o).run P w=((Instr.sliceAt t (ρ x) (lo.map ρ) (hi.map ρ) (mx.map ρ)).run P w).andThen λv w'=>.ok (.value v) w':=by
  simp only[execOp,ho,Sem.run_bind];cases (Instr.sliceAt t (ρ x) (lo.map ρ) (hi.map ρ) (mx.map ρ)).run P w<;>simp[Result.andThen]
 rw[hexec];simp only[jy,Xa];split<;>try trivial
 .rename_i hu;cases mx with
  |some _=>trivial
  |none=>
   simp only[Qbh];generalize hvx:(op x).run env=vx at hx;cases vx<;>try trivial
   rename_i s;simp only[VR] at hx;obtain⟨bs,hpx,hbs⟩:=hx;simp only[zV,jF];refine yA hlo λl hl=>yA hhi λh hh=>jQ λh1=>jQ λh2=>?_;rw[qi] at h1 h2;rw[jO] at h2 hh;have hsz:=Q9 hbs;refine Res.val k (x:=.string (bs.extract l h)) ?_ ?_
   .have hb:=XZ (P:=P) (w:=w) (s:=false) (len:=bs.size) (cap:=bs.size) hl (by rw[hsz];exact hh) h1 om;simp only[Instr.sliceAt,Instr.slice,Sem.run_bind,run_underlying hu,Result.andThen_ok,hpx];simp[hb]
   .simp only[VR,qX,yX];exact⟨_,rfl,VQ hbs l h⟩
 .rename_i e hu;split<;>try trivial
  rename_i sz hs;obtain⟨i,hi',hsi⟩:=zt hs;cases mx with
  |none=>
   simp only[Qbh];generalize hvx:(op x).run env=vx at hx;cases vx<;>try trivial
   rotate_right
   .rename_i n cs;simp only[VR] at hx;obtain⟨p,C,hpx,hC,e0,hn⟩:=hx;refine yA hlo λl hl=>yA hhi λh hh=>jQ λh1=>jQ λh2=>jQ λh3=>?_;rw[qi] at h1 h2 h3;rw[jO] at h3;have h3':h * sz<=cs.length:=h3;have hbn:=XZ (P:=P) (w:=w) (s:=true) (len:=n) (cap:=C) hl hh h1 om;refine Res.val k (x:=.slice (if C=l then p else p.map λa=>a.add (l * sz)) (h - l) (C - l)) ?_ ?_
    .simp only[Instr.sliceAt,Instr.slice,Sem.run_bind,run_underlying hu,Result.andThen_ok,hpx];cases p with
     |none=>simp[hbn,qd hi',hsi]
     |some ad=>
      by_cases hCl:C=l
      .subst hCl;simp[hbn,qd hi',hsi]
      .simp[hbn,qd hi',hsi,hCl]
    .simp only[VR,qX,yX];refine⟨_,_,rfl,by show h - l<=C - l;omega,VK (jdV e0 _) _,λh0=>?_⟩;have h0':0<h - l:=h0;clear h0;obtain⟨B,o,vs,rfl,e2,e3,e4⟩:=hn (Qat h0' (χ (Nat.sub_le _ _) (by assumption)));clear hn;have h6:l * sz+(h - l) * sz=h * sz:=by rw[<-QaJ];congr 1;omega
     have h8:=jcW e3 (a:=l * sz) (b:=(h - l) * sz) om e4;exact⟨B,o+l * sz,vs,by rw[if_neg om];simp[yF],e2,h8.1,h8.2⟩
   .rename_i b off len cap sz' ex;simp only[VR] at hx;obtain⟨hb,hlc,ad,C,hpx,hC,hex,had⟩:=hx;simp only[jF];refine yA hlo λl hl=>yA hhi λh hh=>jQ λh0=>jQ λh1=>jQ λh2=>?_;rw[qi] at h1 h2;rw[qJ] at h0;subst h0;refine Res.val k (x:=.slice (if C=l then some ad else some (ad.add (l * sz'))) (h - l) (C - l)) ?_ ?_
    .have hbn:=XZ (P:=P) (w:=w) (s:=true) (len:=len) (cap:=C) hl hh h1 om;simp only[Instr.sliceAt,Instr.slice,Sem.run_bind,run_underlying hu,Result.andThen_ok,hpx];simp[hbn,qd hi',hsi]
    .simp only[VR];refine⟨hb,by show h - l<=cap - l;omega,if C=l then ad else ad.add (l * sz'),C - l,?_,by show cap - l<=C - l;omega,?_,?_⟩
     .by_cases hCl:C=l<;>simp[hCl]
     .intro he;have:=hex he;show C - l=cap - l;omega
     .intro B S eB;obtain⟨h3,h4⟩:=had B S eB;constructor
      .by_cases hCl:C=l
       .left;omega
       .right;rcases h3 with h3|h3
        .omega
        .rw[if_neg hCl,h3,yF];rfl
      .intro he;have h5:=h4 he;have h6:l+(C - l)=C:=om
       have h7:l * sz'+(C - l) * sz'=C * sz':=by rw[<-QaJ,h6]
       show off+l * sz'+(C - l) * sz'<=S;omega
   .simp only[VR] at hx;refine yA hlo λl hl=>yA hhi λh hh=>jQ λh1=>jQ λh2=>?_;rw[qJ] at h1 h2;subst h1;subst h2;refine Res.val k (x:=.slice none 0 0) ?_ (by simp only[VR]);have hbn:=XZ (P:=P) (w:=w) (s:=true) (len:=0) (cap:=0) hl hh (η _) (η _);simp only[Instr.sliceAt,Instr.slice,Sem.run_bind,run_underlying hu,Result.andThen_ok,hx];simp[hbn,qd hi',hsi]
  |some m=>
   simp only[Qau];cases hi with
   |none=>trivial
   |some hi=>
    simp only[Qau];generalize hvx:(op x).run env=vx at hx;cases vx<;>try trivial
    rotate_left
    .rename_i n cs;simp only[VR] at hx;obtain⟨p,C,hpx,hC,e0,hn⟩:=hx;refine yA hlo λl hl=>zK (hhi hi rfl) λkh h hh=>zK (hmx m rfl) λkm n' hm=>jQ λh1=>jQ λh2=>jQ λh3=>jQ λh4=>?_;rw[qi] at h1 h3 h4;rw[qJ] at h2;subst h2;rw[jO] at h4;have h4':h * sz<=cs.length:=h4;have hbn:=k8 (P:=P) (w:=w) (s:=true) (len:=n) (cap:=C) (hi:=some hi) hl ⟨hi,kh,rfl,hh⟩ hm h1 (η _) om;simp only[Qau] at hbn;refine Res.val k (x:=.slice (if h=l then p else p.map λa=>a.add (l * sz)) (h - l) (h - l)) ?_ ?_
     .simp only[Instr.sliceAt,Instr.slice,Sem.run_bind,run_underlying hu,Result.andThen_ok,hpx,Qau];cases p with
      |none=>simp[hbn,qd hi',hsi]
      |some ad=>
       by_cases hCl:h=l
       .subst hCl;simp[hbn,qd hi',hsi]
       .simp[hbn,qd hi',hsi,hCl]
     .simp only[VR,qX,yX];refine⟨_,rfl,VK (jdV e0 _) _,λh0=>?_⟩;have h0':0<h - l:=h0;clear h0;obtain⟨B,o,vs,rfl,e2,e3,e4⟩:=hn (Qat h0' (χ (Nat.sub_le _ _) (by assumption)));clear hn;have h6:l * sz+(h - l) * sz=h * sz:=by rw[<-QaJ];congr 1;omega
      have h8:=jcW e3 (a:=l * sz) (b:=(h - l) * sz) om e4;exact⟨B,o+l * sz,vs,by rw[if_neg om];simp[yF],e2,h8.1,h8.2⟩
    rename_i b off len cap sz' ex;simp only[VR] at hx;obtain⟨hb,hlc,ad,C,hpx,hC,hex,had⟩:=hx;simp only[jF];refine yA hlo λl hl=>zK (hhi hi rfl) λkh h hh=>zK (hmx m rfl) λkm n hm=>jQ λh1=>jQ λh2=>jQ λh3=>?_;rw[qi] at h1 h2 h3;refine Res.val k (x:=.slice (if n=l then some ad else some (ad.add (l * sz))) (h - l) (n - l)) ?_ ?_
    .have hbn:=k8 (P:=P) (w:=w) (s:=true) (len:=len) (cap:=C) (hi:=some hi) hl ⟨hi,kh,rfl,hh⟩ hm h1 h2 om;simp only[Qau] at hbn;simp only[Instr.sliceAt,Instr.slice,Sem.run_bind,run_underlying hu,Result.andThen_ok,hpx,Qau];simp[hbn,qd hi',hsi]
    .simp only[VR];refine⟨hb,by show h - l<=n - l;omega,if n=l then ad else ad.add (l * sz),n - l,?_,η _,λ_=>rfl,?_⟩
     .by_cases hCl:n=l<;>simp[hCl]
     .intro B S eB;obtain⟨h5,h4⟩:=had B S eB;refine⟨?_,λhe=>by cases he⟩;by_cases hCl:n=l
      .left;omega
      .right;rcases h5 with h5|h5
       .omega
       .rw[if_neg hCl,h5,yF];rfl
 .rename_i n e hu;split<;>try trivial
  rename_i sz hs;obtain⟨i,hi',hsi⟩:=zt hs;cases mx with
  |some _=>trivial
  |none=>
   simp only[Qbh];generalize hvx:(op x).run env=vx at hx;cases vx<;>try trivial
   rename_i b off;simp only[VR] at hx;obtain⟨hb,ad,hpx,had⟩:=hx;simp only[ya,jF];refine yA hlo λl hl=>yA hhi λh hh=>jQ λh1=>jQ λh2=>?_;rw[qi] at h1 h2;refine Res.val k (x:=.slice (some (if n=l then ad else ad.add (l * sz))) (h - l) (n - l)) ?_ ?_
   .have hbn:=XZ (P:=P) (w:=w) (s:=false) (len:=n) (cap:=n) hl hh h1 h2;simp only[Instr.sliceAt,Sem.run_bind,run_underlying hu,Result.andThen_ok,hpx,Instr.sureAddr];simp[hbn,qd hi',hsi]
   .simp only[VR];refine⟨hb,by show h - l<=n - l;omega,_,n - l,rfl,η _,λ_=>rfl,?_⟩;intro B S eB;refine⟨?_,λhe=>by cases he⟩;by_cases hCl:n=l
    .left;omega
    .right;rw[if_neg hCl,had B S eB,yF];rfl
end
section
variable {P:Program} {ι:Inj} {w:World} {st:St}
variable {ρ:Operand->Value} {op:Operand->OF} {env:Env} {o:Oper}
theorem jdU (w:World)(c:Array Value)(e:TypeId)(n:Nat):(w.alloc (.cells c e)).freeze ⟨w.heap.size,n,none⟩ 1=w.alloc (.cells c e (n,n+1)):=by
 have h:(w.heap.push (.cells c e (0,0))).modify w.heap.size (fun
   |.cells c elem (lo,hi)=>.cells c elem (if lo == hi then(n,n+1) else(min lo n,max hi (n+1)))
   |o=>o)=w.heap.push (.cells c e (n,n+1)):=by
  apply Array.ext_getElem?;intro i;simp only[Array.getElem?_modify,Array.getElem?_push];by_cases hi:w.heap.size=i
  .subst hi;simp
  .have hi':¬ i=w.heap.size:=λe=>hi e.symm;simp[hi,hi']
 simp only[World.freeze,World.alloc];simp only[if_neg (show ¬ (1=0) by omega)]
 congr 1
theorem jaW:∀ (l:List AV) (vs:List Value) (s:Lc),VRs ι l vs->Y9 l=some s->vs=s.map (λ(n:Nat)=>Value.int .u8 (n:Int))/\(∀ n∈s,n<=255)
 |[],vs,s,h,hb=>by
  simp only[Y9,Option.some.injEq] at hb;simp only[VRs] at h;subst hb;subst h;simp
 |x :: l,vs,s,h,hb=>by
  unfold Y9 at hb;split at hb
  .rename_i heq;cases heq
  .rename_i n l' heq;cases heq;simp only[VRs] at h;obtain⟨v,us,rfl,h1,h2⟩:=h;generalize hq:QcC n 255=q at hb;cases q
   .cases hb
   .simp only[cond,QbA] at hb;obtain⟨r,hr,rfl⟩:=hb;obtain⟨h3,h4⟩:=jaW l us r h2 hr;simp only[VR] at h1;rw[qi] at hq;subst h1;refine⟨by rw[h3];rfl,λm hm=>?_⟩;rcases QaT.1 hm with e|e
    .omega
    .exact h4 m e
  .cases hb
theorem Gp:∀ (s:Lc) (r:ByteArray),(∀ n∈s,n<=255)->
  ((s.map (λ(n:Nat)=>(n:Int))).foldl (λr n=>r.push (UInt8.ofNat n.toNat)) r).data.toList.map UInt8.toNat=r.data.toList.map UInt8.toNat ++ s
 |[],r,_=>by simp
 |n :: s,r,h=>by
  simp only[ζ,List.foldl_cons];rw[Gp s _ (λm hm=>h m (by simp[hm]))];have hn:=h n hac;simp only[ByteArray.data_push,Array.toList_push,Qay,ζ,θ,Qck,QaB,Qai,Qam]
  congr 2
  simp;omega
theorem jei (s:Lc):VRs ι (s.map λ(n:Nat)=>AV.int .u8 (.ofNat n)) (s.map λ(n:Nat)=>Value.int .u8 (n:Int)):=VRs.map_of s λ_ _=>by simp only[VR];rfl
theorem uR {b:Nat}{n zl:Nat}{z:List AV}{cs:T AV}{B S o len:Nat}(k:Sim ι st.h st.nx w)(hb:ι b≠.unborn)(hrow:jv st.h b=some (.row n zl z cs))(e:ι b=.at B S)(hle:o+len<=n) :
  ∃ vs:List Value,(loadCells ⟨B,o,none⟩ len).run P w=.ok vs.toArray w/\VRs ι (jR zl z cs len o) vs/\vs.length=len/\(∀ j u,vs[j]? = some u->w.cell? ((⟨B,o,none⟩:Addr).add j)=some u):=by
 obtain⟨B',S',c,elem,lo,hi,e',hw,hsz,hn,_,hcell⟩:=k.row hb hrow;rw[e] at e';cases e'
 let f:Nat->Value:=λj=>c.getD (o+j) undef
 have hf:∀ j,j<len->w.cell? ((⟨B,o,none⟩:Addr).add j)=some (f j):=λj hj=>by
  rw[yF,VE hw];obtain⟨_,v,hv,_⟩:=hcell (o+j) om;simp[f,hv]
 refine⟨(ω len).map f,run_loadCells w _ len f hf,?_,by simp,?_⟩
 .rw[qm];refine VRs.map_of _ λj hj=>?_;have hj':j<len:=by simpa using hj
  obtain⟨_,v,hv,hr⟩:=hcell (o+j) om;show VR ι _ (c.getD (o+j) undef);simpa[hv] using hr
 .intro j u hu;simp only[Qbf,QbA] at hu;obtain⟨a,ha,rfl⟩:=hu;have:j<len/\a=j:=by
   rw[Qbk] at ha;obtain⟨h1,h2⟩:=ha;simp at h1 h2;exact⟨h1,h2.symm⟩
  rw[this.2];exact hf j this.1
theorem QH {b:Nat}{n zl:Nat}{z:List AV}{cs:T AV}{o len:Nat}(k:Sim ι st.h st.nx w)(hb:ι b≠.unborn)(hrow:jv st.h b=some (.row n zl z cs))(hle:o+len<=n) :
  (jR zl z cs len o).all AV.cell=true/\(jR zl z cs len o).length=len:=by
 obtain⟨B',S',c,elem,lo,hi,e',hw,hsz,hn,_,hcell⟩:=k.row hb hrow;rw[qm];refine⟨?_,by simp⟩;rw[Qah];intro x hx;obtain⟨j,hj,rfl⟩:=QaQ.1 hx;have hj':j<len:=by simpa using hj
 exact(hcell (o+j) om).1
theorem Wd (s:Lc)(bs:ByteArray)(h:bs.data.toList.map UInt8.toNat=s):(bs.data.map λ(b:UInt8)=>Value.int .u8 b.toNat).toList=s.map λ(n:Nat)=>Value.int .u8 (n:Int):=by
 rw[<-h];simp
theorem Y6 (need old:Nat)(e:TypeId)(t:Nat):need<=(Question.appendCap need old e).cut t:=by simp[Question.cut]
theorem Vb {x:Option AO}{f:Nat->Nat->List AV->T AV->ER}{res:Result Next}(h:∀ n zl z cs,x=some (.row n zl z cs)->Res ι w st (f n zl z cs) res):Res ι w st (yg x f) res:=by
 cases x with
 |none=>trivial
 |some ob=>
  cases ob<;>try trivial
  exact h _ _ _ _ rfl
theorem jdp {s d:TypeId}{x:Operand}(ho:o.op=.convert s d x)(k:Sim ι st.h st.nx w)(hx:VR ι ((op x).run env) (ρ x)) :
  Res ι w st ((jy P op (.convert s d x)).run env st) ((execOp ρ o).run P w):=by
 have hexec:(execOp ρ o).run P w=((Go.convert s d (ρ x)).run P w).andThen λv w'=>.ok (.value v) w':=by
  simp only[execOp,ho,Sem.run_bind];cases (Go.convert s d (ρ x)).run P w<;>simp[Result.andThen]
 rw[hexec];simp only[jy,JZ];split<;>try trivial
 .rename_i k1 k2 h1 h2;try dsimp only
  generalize (op x).run env=vx at hx;cases vx<;>try trivial
  rename_i kk n;simp only[VR] at hx;refine Res.val k (x:=.int k2 (k2.wrap n)) ?_ (by rw[Qq];rfl);simp[Go.convert,hx,run_underlying h1,run_underlying h2,Conv.intToInt]
 .rename_i h1 h2;try dsimp only
  generalize (op x).run env=vx at hx;cases vx<;>try trivial
  rename_i cs;simp only[VR] at hx;obtain⟨bs,hpx,hbs⟩:=hx;refine Res.val k (x:=.string bs) ?_ (by simp only[VR];exact⟨bs,rfl,hbs⟩);simp[Go.convert,hpx,run_underlying h1,run_underlying h2]
 .rename_i e h1 h2;split<;>try trivial
  rename_i he;try dsimp only
  generalize (op x).run env=vx at hx;cases vx<;>try trivial
  .rename_i b off len cap sz ex;simp only[VR] at hx;obtain⟨hb,hlc,ad,C,hpx,hC,hex,had⟩:=hx;refine Vb λm zl z cs hg=>jQ λhle=>?_;rw[qi] at hle;obtain⟨B,S,c,elem,lo,hi,e',hw,_⟩:=k.row hb hg;obtain⟨vs,hrun,hvs,hlen,hcells⟩:=uR (P:=P) k hb hg e' hle;have main:∀ bsA,Y9 (jR zl z cs len off)=some bsA->∃ bs:ByteArray,bs.data.toList.map UInt8.toNat=bsA /\
     ((Go.convert s d (ρ x)).run P w).andThen (λv w'=>.ok (Next.value v) w')=.ok (.value (.string bs)) w:=by
    intro bsA hbs;obtain⟨hv1,hv2⟩:=jaW _ _ _ hvs hbs;have hrun':(loadCells ad len).run P w=.ok vs.toArray w:=by
     rcases (had B S e').1 with h0|h0
     .have:len=0:=om
      subst this;rw[Qbi hlen];simp[loadCells,loadCellsFrom]
     .rw[h0];exact hrun
    refine⟨(bsA.map (λ(n:Nat)=>(n:Int))).foldl (λr n=>r.push (UInt8.ofNat n.toNat)) ByteArray.empty,?_,?_⟩
    .rw[Gp _ _ hv2];simp
    .rw[hpx,run_convert_bytes_string w s d e _ _ _ h1 he h2];rw[run_bytesToString w ad len C (bsA.map (λ(n:Nat)=>(n:Int)))]
     .simp
     .rw[hrun',hv1];simp[Qbc,Qcl]
   refine Xq (λ_=>qY λbsA hbs=>?_) (λ_=>?_)
   .obtain⟨bs,q1,q2⟩:=main bsA hbs;exact Res.val k (x:=.string bs) q2 (by simp only[VR];exact⟨bs,rfl,q1⟩)
   .split<;>try trivial
    refine jQ λhzl=>?_;rw[qJ] at hzl;subst hzl;have hz:Y9 (jR 1 [.int .u8 (.ofNat 0)] .e len off)=some (Qbr len 0):=by
     rw[qm];have:∀ (l:Lc),Y9 (l.map λj=>qD 1 [.int .u8 (.ofNat 0)] .e (off+j))=some (Qbr l.length 0):=by
      intro l;induction l with
      |nil=>rfl
      |cons j l ih=>
       have h1:qD 1 [.int .u8 (.ofNat 0)] .e (off+j)=.int .u8 (.ofNat 0):=by
        rw[yP,XM];simp[Nat.mod_one]
       rw[ζ,h1];simp only[Y9,ih];rfl
     have h2:=this (ω len);rw[List.length_range] at h2;exact h2
    obtain⟨bs,q1,q2⟩:=main _ hz;refine Res.val k (x:=.string bs) q2 ?_;simp only[VR];refine⟨bs,rfl,?_⟩;have:=congrArg List.length q1;simpa using this
  .simp only[VR] at hx;refine Res.val k (x:=.string .empty) ?_ (by simp only[VR];exact⟨_,rfl,by simp⟩);rw[hx,run_convert_bytes_string w s d e _ _ _ h1 he h2];simp[Conv.bytesToString]
 .rename_i e h1 h2;split<;>try trivial
  rename_i he;try dsimp only
  generalize (op x).run env=vx at hx;cases vx<;>try trivial
  rename_i cs;simp only[VR] at hx;obtain⟨bs,hpx,hbs⟩:=hx;simp only[zV,jF,jO,yG];rw[St.alloc_eq];have hsz:=Q9 hbs;generalize hcut:(Question.appendCap bs.size 0 e).cut (w.tape w.drawn (.appendCap bs.size 0 e))=C;have hC:bs.size<=C:=by rw[<-hcut];exact Y6 _ _ _ _
  refine Res.drew (λ_ _ h=>by cases h) ?_;have hsize:((bs.data.map λ(b:UInt8)=>Value.int .u8 b.toNat) ++ QaK (C - bs.size) (Value.int .u8 0)).size=C:=by
   simp;show bs.size+(C - bs.size)=C;omega
  refine Res.alloc (w:=w.drew) k.drew (S:=C) (x:=.cells ((bs.data.map λ(b:UInt8)=>Value.int .u8 b.toNat) ++ QaK (C - bs.size) (Value.int .u8 0)) e (C,C+1)) ?_
   (Ql ι _ _ _ cs.length C 1 cs.length false (η _) om (λh=>by cases h) (λ_=>by omega)) ?_
  .simp only[OR];refine⟨_,e,C,C+1,rfl,hsize,om,om,λi hi=>?_⟩;have e1:qD cs.length (cs.map λc=>AV.int .u8 (.ofNat c)) .e i=.int .u8 (.ofNat (cs.getD i 0)):=by
    rw[yP,XM,Qby hi];simp[Qaf,hi]
   rw[e1];refine⟨rfl,.int .u8 (cs.getD i 0:Nat),?_,by simp only[VR];rfl⟩;have hi2:i<bs.data.size:=by have:bs.data.size=bs.size:=rfl;omega
   rw[Array.getElem?_append_left (by simpa using hi2)];have:(bs.data.map λ(b:UInt8)=>Value.int .u8 b.toNat)[i]? = (cs.map λ(n:Nat)=>Value.int .u8 (n:Int))[i]?:=by
    rw[<-Wd cs bs hbs];simp
   rw[this];simp[Qaf,hi]
  .have hrun:(Go.convert s d (.string bs)).run P w=(Conv.stringToBytes e bs).run P w:=by
    simp[Go.convert,run_underlying h1,run_underlying h2,run_underlying he]
   rw[hpx,hrun];have hfz:=jdU w.drew ((bs.data.map λ(b:UInt8)=>Value.int .u8 b.toNat) ++ QaK (C - bs.size) (Value.int .u8 0)) e C;have hsh:(w.drew.alloc (.cells ((bs.data.map λ(b:UInt8)=>Value.int .u8 b.toNat) ++ QaK (C - bs.size) (Value.int .u8 0)) e)).shape? w.drew.heap.size=some (e,C):=by
    simp only[World.shape?,Ut];rw[hsize]
   simp only[hsz] at hcut hsh hfz;simp only[hsz,Conv.stringToBytes,Sem.run_bind,run_choose_drew,Question.forced,QaP,if_false,Result.andThen_ok,hcut,Go.newRow,markStringish,run_newObj_alloc,Sem.run_pure,run_shape,hsh,run_freeze,hfz]
end
section
variable {P:Program} {ι:Inj} {w:World} {st:St}
variable {ρ:Operand->Value} {op:Operand->OF} {env:Env} {o:Oper}
theorem VR.plainCells {x:AV}{v:Value}(hp:x.plain=true)(h:VR ι x v):VRs ι x.cells v.cells.toList:=by
 have one:v.cells = #[v]->x.cells=[x]->VRs ι x.cells v.cells.toList:=by
  intro h1 h2;rw[h1,h2];simp only[VRs];exact⟨v,[],rfl,h,rfl⟩
 cases x<;>simp only[AV.plain] at hp<;>try(cases hp;done)
 case agg cs=>
  simp only[VR] at h;obtain⟨a,rfl,hc⟩:=h;exact hc
 all_goals
  refine one ?_ rfl;simp only[VR] at h
 case bool=>subst h;rfl
 case int=>subst h;rfl
 case str=>obtain⟨bs,rfl,_⟩:=h;rfl
 case zstr=>obtain⟨bs,rfl,_⟩:=h;rfl
 case ptr=>obtain⟨_,a,rfl,_⟩:=h;rfl
 case nilp=>subst h;rfl
 case slice=>obtain⟨_,_,a,C,rfl,_⟩:=h;rfl
 case nils=>subst h;rfl
 case map=>obtain⟨_,R,rfl,_⟩:=h;rfl
 case nilm=>subst h;rfl
 case fn=>obtain⟨cv,rfl,_⟩:=h;rfl
 case nilf=>subst h;rfl
 case iface=>obtain⟨y,rfl,_⟩:=h;rfl
 case nilif=>subst h;rfl
 case lst=>obtain⟨p,C,rfl,_⟩:=h;rfl
 case xlst=>obtain⟨p,rfl,_⟩:=h;rfl
 case lptr=>obtain⟨B,o,vs,rfl,_⟩:=h;rfl
theorem jdl (off:Nat):∀ (l:List Value) (k:Nat) (cs:Array Value),off+k+l.length<=cs.size->
  ((l.zipIdx k).foldl (λ(cs:Array Value) (p:Value×Nat)=>cs.setIfInBounds (off+p.2) p.1) cs).toList=cs.toList.take (off+k) ++ (l ++ cs.toList.drop (off+k+l.length))
 |[],k,cs,h=>by simp
 |v :: l,k,cs,h=>by
  simp only[τ] at h;rw[List.zipIdx_cons,List.foldl_cons,jdl off l (k+1) _ hae];simp only[Array.toList_setIfInBounds];have hlt:off+k<cs.toList.length:=by rw[Qan];omega
  have e1:(cs.toList.set (off+k) v).take (off+(k+1))=cs.toList.take (off+k) ++ [v]:=by
   rw[show off+(k+1)=(off+k)+1 by omega,QbX,List.take_set_of_le om];simp only[List.getElem?_set_self hlt,Option.toList]
  have e2:(cs.toList.set (off+k) v).drop (off+(k+1)+l.length)=cs.toList.drop (off+k+(l.length+1)):=by
   rw[List.drop_set_of_lt om]
   congr 1
   omega
  rw[e1,e2];simp
def PRs (ι:Inj):List (Nat×AV)->List (Nat×Value)->Prop
 |[],l=>l=[]
 |p :: ps,l=>∃ q qs,l=q :: qs/\p.1=q.1/\VR ι p.2 q.2/\PRs ι ps qs
theorem PRs.map_of {α:Type}{f:α->Nat×AV}{g:α->Nat×Value}:∀ l:List α,(∀ x∈l,(f x).1=(g x).1/\VR ι (f x).2 (g x).2)->PRs ι (l.map f) (l.map g)
 |[],_=>by simp[PRs]
 |x :: l,h=>by
  simp only[ζ,PRs];exact⟨_,_,rfl,(h x hac).1,(h x hac).2,PRs.map_of l λy hy=>h y (by simp[hy])⟩
theorem kN (place:Nat->Option (Nat×Nat)):∀ (l:List (Nat×AV)) (l':List (Nat×Value)) (cells out:List AV) (vs:Array Value),
  PRs ι l l'->VRs ι cells vs.toList->wT cells place l=some out->
  ∃ vs',Instr.fill place vs l'=some vs'/\VRs ι out vs'.toList
 |[],l',cells,out,vs,hr,hc,h=>by
  simp only[PRs] at hr;subst hr;simp only[wT,Option.some.injEq] at h;subst h;exact⟨vs,rfl,hc⟩
 |(i,v) :: l,l0,cells,out,vs,hr,hc,h=>by
  simp only[PRs] at hr;obtain⟨⟨i',x⟩,l',rfl,h0,hv,hr'⟩:=hr;simp only at h0 hv;subst h0;unfold wT at h;try simp only at h
  cases hp:place i with
  |none=>rw[hp] at h;cases h
  |some q=>
   obtain⟨off,size⟩:=q;rw[hp] at h;simp only at h;generalize h1:v.plain=q1 at h;cases q1<;>try(cases h;done)
   simp only[cond] at h;generalize h2:QcA (jP v.cells) size=q2 at h;cases q2<;>try(cases h;done)
   simp only[cond] at h;generalize h3:QcC (QcD off size) (jP cells)=q3 at h;cases q3<;>try(cases h;done)
   simp only[cond] at h;rw[qJ,jO] at h2;rw[qi,jO] at h3;have h3':off+size<=cells.length:=h3;have hvc:=VR.plainCells h1 hv;have hsz:=hvc.length;rw[Qan] at hsz;have hcl:=hc.length;rw[Qan] at hcl;simp only[yu,qX,yX] at h;have u4:=jdl off x.cells.toList 0 vs (by rw[Qan];omega);rw[Qan] at u4;have hc':VRs ι (cells.take off ++ (v.cells ++ cells.drop (off+size))) (x.cells.zipIdx.foldl (λcs (c,j)=>cs.setIfInBounds (off+j) c) vs).toList:=by
    rw[<-Array.foldl_toList,Array.toList_zipIdx];have e:(off+0+x.cells.size)=off+size:=om
    rw[e] at u4;simp only[Qbq] at u4;rw[u4];exact(hc.take off).append (hvc.append (hc.drop (off+size)))
   obtain⟨vs',h5,h6⟩:=kN place l l' _ out _ hr' hc' h;refine⟨vs',?_,h6⟩;unfold Instr.fill;simp only[hp];rw[if_neg hae];exact h5
theorem Ud {ps:Array (Nat×Operand)}(hx:∀ p∈ps.toList,VR ι ((op p.2).run env) (ρ p.2)) :
  PRs ι (YY env (yj (λp=>(p.1,op p.2)) ps.toList)) (ps.map λ(p:Nat×Operand)=>(p.1,ρ p.2)).toList:=by
 have e:YY env (yj (λp=>(p.1,op p.2)) ps.toList)=ps.toList.map λp=>(p.1,(op p.2).run env):=by
  simp only[YY,yG,Qbc];rfl
 rw[e,Qbz];exact PRs.map_of _ λp hp=>⟨rfl,hx p hp⟩
theorem jgk {fields:Array Field}(h:∀ f∈fields.toList,∃ i,P.info? f.type=some i) :
  (fields.mapM λf=>do pure (f.offset,<-Go.sizeOf f.type):Sem (Array (Nat×Nat))).run P w=.ok (fields.map λf=>(f.offset,(P.info? f.type).elim 0 (·.size))) w:=by
 rw[Array.mapM_eq_mapM_toList];have:∀ l:List Field,(∀ f∈l,∃ i,P.info? f.type=some i)->(l.mapM λf=>do pure (f.offset,<-Go.sizeOf f.type):Sem (List (Nat×Nat))).run P w=.ok (l.map λf=>(f.offset,(P.info? f.type).elim 0 (·.size))) w:=by
  intro l;induction l with
  |nil=>intro _;simp
  |cons f l ih=>
   intro hl;obtain⟨i,hi⟩:=hl f hac;rw[List.mapM_cons];simp only[Sem.run_bind,qd hi,Result.andThen_ok,Sem.run_pure,ih (λg hg=>hl g (by simp[hg]))];simp[hi]
 have h2:=this fields.toList h;simp only[Sem.run_bind,Sem.run_map,h2,Result.andThen_ok];try simp
 try(apply Array.ext';simp)
theorem jg2 {t:TypeId}{ps:Array (Nat×Operand)}(ho:o.op=.build t ps)(k:Sim ι st.h st.nx w)(hx:∀ p∈ps.toList,VR ι ((op p.2).run env) (ρ p.2)) :
  Res ι w st ((jy P op (.build t ps)).run env st) ((execOp ρ o).run P w):=by
 have hexec:(execOp ρ o).run P w=((Instr.build t (ps.map λ(p:Nat×Operand)=>(p.1,ρ p.2))).run P w).andThen λv w'=>.ok (.value v) w':=by
  simp only[execOp,ho,Sem.run_bind];cases (Instr.build t (ps.map λ(p:Nat×Operand)=>(p.1,ρ p.2))).run P w<;>simp[Result.andThen]
 rw[hexec];simp only[jy,UJ];split<;>try trivial
 .rename_i z fields hz hu;obtain⟨i,zv,hi,hzv,hr⟩:=vg hz ι;generalize hq:(fields.toList.all λf=>(Ev.sizeOf P f.type).isSome)=q;cases q<;>try trivial
  have hall:∀ f∈fields.toList,∃ i,P.info? f.type=some i:=λf hf=>by
   have:=Qah.1 hq f hf;cases hs:Ev.sizeOf P f.type with
   |none=>simp[hs] at this
   |some n=>obtain⟨i,hi,_⟩:=zt hs;exact⟨i,hi⟩
  show Res ι w st (jN _ _) _;refine qY λcs hcs=>?_;have hpl:(gI P fields)=λi=>(fields.map λf=>(f.offset,(P.info? f.type).elim 0 (·.size)))[i]?:=by
   funext j
   simp only[gI,Array.getElem?_map];cases hj:fields[j]? with
   |none=>rfl
   |some f=>
    have hf:f∈fields.toList:=by rw[Qax] at hj;obtain⟨hj1,hj2⟩:=hj;rw[<-hj2];simp
    obtain⟨i',hi'⟩:=hall f hf;simp[Ev.sizeOf,hi']
  rw[hpl] at hcs;obtain⟨vs',h5,h6⟩:=kN _ _ _ z cs zv.cells (Ud (env:=env) hx) hr hcs;refine Res.val k (x:=.agg vs') ?_ (by simp only[VR];exact⟨vs',rfl,h6⟩);simp only[Instr.build,Sem.run_bind,JB hi hzv,Result.andThen_ok,run_underlying hu,jgk hall,h5,Sem.run_pure]
 .rename_i z n e hz hu;obtain⟨i,zv,hi,hzv,hr⟩:=vg hz ι;split<;>try trivial
  rename_i s hs;obtain⟨i',hi',hsi⟩:=zt hs;show Res ι w st (jN _ _) _;refine qY λcs hcs=>?_;obtain⟨vs',h5,h6⟩:=kN _ _ _ z cs zv.cells (Ud (env:=env) hx) hr hcs;refine Res.val k (x:=.agg vs') ?_ (by simp only[VR];exact⟨vs',rfl,h6⟩);have h5':Instr.fill (λi=>some (i * s,s)) zv.cells (ps.map λ(p:Nat×Operand)=>(p.1,ρ p.2)).toList=some vs':=h5;simp only[Instr.build,Sem.run_bind,JB hi hzv,Result.andThen_ok,run_underlying hu,qd hi',hsi,h5',Sem.run_pure]
theorem Ub {z:List AV}{zs:Array Value}(h:VRs ι z zs.toList):∀ n,VRs ι (qP z n) ((ω n).flatMap λ_=>zs.toList)
 |0=>by simp[qP,VRs]
 |n+1=>by
  show VRs ι (yN z (qP z n)) _;rw[yu,List.range_succ_eq_map,Qcm];refine h.append ?_;have:=Ub h n;rw[List.flatMap_map];exact this
theorem jcF (zs:Array Value)(n:Nat):(madeCells zs (n * zs.size)).toList=(ω n).flatMap λ_=>zs.toList:=by
 induction n with
 |zero=>simp[madeCells]
 |succ n ih=>
  rw[Qbs,List.flatMap_append,<-ih];simp only[madeCells,Qbz,Array.toList_range,QaJ,Nat.one_mul,Qcm,List.flatMap_nil,QaU];rw[List.range_add,Qay,Qbc]
  congr 1
  apply Qbg
  .simp
  .intro i h1 h2;simp at h1;simp only[QbY,List.getElem_range,Function.comp];have:(n * zs.size+i) % zs.size=i:=by rw[QbB,Nat.add_mul_mod_self_right,Qby h1]
   rw[this];simp[h1]
theorem Gv {t:TypeId}{n:Nat}{ps:Array (Nat×Operand)}(ho:o.op=.buildSlice t n ps)(k:Sim ι st.h st.nx w)(hx:∀ p∈ps.toList,VR ι ((op p.2).run env) (ρ p.2)) :
  Res ι w st ((jy P op (.buildSlice t n ps)).run env st) ((execOp ρ o).run P w):=by
 have hexec:(execOp ρ o).run P w=((Instr.buildSlice t n (ps.map λ(p:Nat×Operand)=>(p.1,ρ p.2))).run P w).andThen λv w'=>.ok (.value v) w':=by
  simp only[execOp,ho,Sem.run_bind];cases (Instr.buildSlice t n (ps.map λ(p:Nat×Operand)=>(p.1,ρ p.2))).run P w<;>simp[Result.andThen]
 rw[hexec];simp only[jy,ZX];split<;>try trivial
 rename_i e he;have hu:=kR he;split<;>try trivial
 rename_i s z hs hz;obtain⟨i,hi,hsi⟩:=zt hs;obtain⟨i',zv,hi',hzv,hr⟩:=vg hz ι;rw[hi] at hi';cases hi';generalize hq:cond (QcC (QcE n s) 16777216) (QcA (jP z) s) false=q;cases q<;>try trivial
 have hq':n * s<=16777216/\z.length=s:=by
  cases h1:QcC (QcE n s) 16777216
  .rw[h1] at hq;cases hq
  .rw[h1] at hq;simp only[cond] at hq;rw[qJ,jO] at hq;rw[qi] at h1;exact⟨h1,hq⟩
 show Res ι w st (jN _ _) _;refine qY λcells hcs=>jQ λhall=>?_;rw[Wu] at hall;rw[jF,jO,St.alloc_eq];have hzs:zv.cells.size=s:=by have:=hr.length;rw[Qan] at this;omega
 have hrep:VRs ι (qP z n) (madeCells zv.cells (n * s)).toList:=by
  rw[<-hzs,jcF];exact Ub hr n
 obtain⟨vs',h5,h6⟩:=kN _ _ _ _ cells _ (Ud (env:=env) hx) hrep hcs;have h5':Instr.fill (λi=>some (i * s,s)) (madeCells zv.cells (n * s)) (ps.map λ(p:Nat×Operand)=>(p.1,ρ p.2)).toList=some vs':=h5;have le:=Le.add (ι:=ι) k.born w.heap.size vs'.toList.length;refine Res.alloc k (S:=vs'.toList.length) (x:=.cells vs' e) ?_ (Ql ι _ _ _ n n s n true (η _) (η _) (λ_=>rfl) (λh=>by cases h)) ?_
 .have:=jfA (VRs.mono le _ _ h6) hall e;simpa using this
 .simp only[Instr.buildSlice,Sem.run_bind,run_underlying hu,Result.andThen_ok,qd hi,hsi];rw[if_neg (by show ¬ n * s > 2 ^ 24;omega)];by_cases h0:n * s=0
  .have e0:madeCells zv.cells (n * s)=(Array.range (n * s)).map ((#[]:Array Value)[· % (#[]:Array Value).size]!):=by rw[h0];simp[madeCells]
   rw[e0] at h5';simp only[if_pos h0,Sem.run_pure,Result.andThen_ok,h5',Go.newRow,Sem.run_bind,run_newObj_alloc]
  .have e0:madeCells zv.cells (n * s)=(Array.range (n * s)).map (zv.cells[· % zv.cells.size]!):=rfl;rw[e0] at h5';simp only[if_neg h0,Sem.run_bind,JB hi hzv,Sem.run_pure,Result.andThen_ok,h5',Go.newRow,run_newObj_alloc]
end
section
variable {P:Program} {ι:Inj} {w:World} {st:St}
variable {ρ:Operand->Value} {op:Operand->OF} {env:Env} {o:Oper}
theorem jbW {t:TypeId}{z:AV}(h:UP P t=some z)(ι:Inj):∃ i zv,P.info? t=some i/\i.zero=some zv/\VR ι z zv:=by
 unfold UP at h;cases hi:P.info? t with
 |none=>simp[hi] at h
 |some i=>
  simp only[hi,Qbe] at h;cases hz:i.zero with
  |none=>simp[hz] at h
  |some zv=>
   simp only[hz,Qau,Option.some.injEq] at h;refine⟨i,zv,rfl,hz,?_⟩;subst h;unfold ofZ;split
   .rename_i cs;simp only[VR];refine⟨cs,rfl,?_⟩;have:=VRs.map_of (ι:=ι) (f:=ofV) (g:=id) cs.toList (λx _=>WI ι x);simpa using this
   .exact WI ι _
def wq (P:Program)(w:World)(kt:TypeId)(u:Value)(ens:List MapEntry)(i:Nat)(rr:Option (Nat×Value)):Prop:=
 (Instr.findAsking kt u ens i).run P w=.ok rr w/\∀ kind,P.underlying kt=some kind->Instr.findNow kind u ens i=some rr\/Instr.findNow kind u ens i=none
theorem KP (kt:TypeId)(u:Value)(i:Nat):wq P w kt u [] i none:=⟨by simp[Instr.findAsking],λ_ _=>.inl rfl⟩
theorem jdG {kt:TypeId}{u:Value}{e:MapEntry}{ens:List MapEntry}{i:Nat}(h:(Op.equal kt u e.key).run P w=.ok true w)
  (hn:∀ kind,P.underlying kt=some kind->Instr.sameNow kind u e.key=some true\/Instr.sameNow kind u e.key=none):wq P w kt u (e :: ens) i (some (i,e.val)):=by
 refine⟨by simp[Instr.findAsking,h],λkind hk=>?_⟩;rcases hn kind hk with h1|h1<;>simp[Instr.findNow,h1]
theorem jaX {kt:TypeId}{u:Value}{e:MapEntry}{ens:List MapEntry}{i:Nat}{rr:Option (Nat×Value)}(h:(Op.equal kt u e.key).run P w=.ok false w)
  (hn:∀ kind,P.underlying kt=some kind->Instr.sameNow kind u e.key=some false\/Instr.sameNow kind u e.key=none) (hr:wq P w kt u ens (i+1) rr):wq P w kt u (e :: ens) i rr:=by
 refine⟨by simp[Instr.findAsking,h,hr.1],λkind hk=>?_⟩;rcases hn kind hk with h1|h1
 .simp only[Instr.findNow,h1];exact hr.2 kind hk
 .simp[Instr.findNow,h1]
theorem VI {kt:TypeId}{kind:TypeDesc}(hk:P.underlying kt=some kind){u:Value}{ens:List MapEntry}{rr:Option (Nat×Value)}(h:wq P w kt u ens 0 rr):(Instr.findKey kt u ens).run P w=.ok rr w:=by
 simp only[Instr.findKey,Sem.run_bind,run_underlying hk,Result.andThen_ok];rcases h.2 kind hk with h1|h1
 .simp[h1]
 .simp[h1,h.1]
theorem U3 {d:Nat}{kt:TypeId}{x y:AV}{u v:Value}{b:Bool}(hx:VR ι x u)(hy:VR ι y v)(h:(eqF P d kt).run x y=some b) :
  ∀ kind,P.underlying kt=some kind->Instr.sameNow kind u v=some b\/Instr.sameNow kind u v=none:=by
 intro kind hk;cases d with
 |zero=>simp[eqF,NOQ] at h
 |succ d=>
  cases kind;case bool=>
   simp only[eqF,hk] at h;split at h<;>try(cases h;done)
   simp only[VR] at hx hy;subst hx;subst hy;rename_i a c;simp only[Option.some.injEq] at h;left;simp only[Instr.sameNow,<-h];cases a<;>cases c<;>rfl
  case int k0=>
   simp only[eqF,hk] at h;split at h<;>try(cases h;done)
   rename_i k a k' c;generalize hkk:eqK k k'=kk at h;cases kk
   .cases h
   .have:=ua hkk;subst this;simp only[cond,Option.some.injEq,X9] at h;simp only[VR] at hx hy;subst hx;subst hy;left;simp only[Instr.sameNow,if_true,<-h]
    congr 1
  case string=>
   simp only[eqF,hk] at h;split at h<;>try(cases h;done)
   simp only[VR] at hx hy;obtain⟨bx,rfl,hbx⟩:=hx;obtain⟨by',rfl,hby⟩:=hy;simp only[Option.some.injEq,JW] at h;left;simp only[Instr.sameNow,<-h]
   congr 1
   rw[beq_toListBytes,Qaw,decide_eq_true_iff,beq_iff_eq,ByteArray.toList_eq,ByteArray.toList_eq,<-hbx,<-hby,J6]
  all_goals
   right;rfl
theorem Vx {t:TypeId}{x y:AV}{u v:Value}{q:Bool}(hx:VR ι x u)(hy:VR ι y v)(h:(eqF P 20 t).run x y=some q):(Op.equal t u v).run P w=.ok q w:=
 jbK 20 t x y u v q hx hy h 10000 om
theorem jfe {kt:TypeId}{kA:AV}{u:Value}(hu:VR ι kA u):∀ (es:List (AV×AV)) (ens:List MapEntry) (i:Nat) (r:Option AV),MR ι es ens->ZU (eqF P 20 kt) kA es=some r->
  ∃ rr,wq P w kt u ens i rr/\(r=none/\rr=none\/∃ v j x,r=some v/\rr=some (j,x)/\VR ι v x)
 |[],ens,i,r,hm,h=>by
  simp only[MR] at hm;subst hm;have:r=none:=by
   have h':some (none:Option AV)=some r:=h;cases h';rfl
  subst this;exact⟨none,KP _ _ _,.inl ⟨rfl,rfl⟩⟩
 |e :: es,ens0,i,r,hm,h=>by
  simp only[MR] at hm;obtain⟨x,ens,rfl,h1,h2,h3⟩:=hm;change (match (eqF P 20 kt).run kA e.1 with|some b=>cond b (some (some e.2)) (ZU (eqF P 20 kt) kA es)|none=>none)=some r at h;cases hq:(eqF P 20 kt).run kA e.1 with
  |none=>rw[hq] at h;cases h
  |some b=>
   rw[hq] at h;cases b
   .obtain⟨rr,h4,h5⟩:=jfe hu es ens (i+1) r h3 h;exact⟨rr,jaX (Vx hu h1 hq) (U3 hu h1 hq) h4,h5⟩
   .simp only[cond,Option.some.injEq] at h;subst h;exact⟨_,jdG (Vx hu h1 hq) (U3 hu h1 hq),.inr ⟨_,_,_,rfl,rfl,h2⟩⟩
theorem KO {kt:TypeId}{kA:AV}{u:Value}(hu:VR ι kA u)(h:(Zv P kt).run kA=true)(emp:Bool)(D:Nat):(Instr.checkKey emp (D+2) kt u).run P w=.ok () w:=by
 unfold Zv at h;split at h
 .rename_i hk;simp[Instr.checkKey,run_underlying hk]
 .rename_i hk;simp[Instr.checkKey,run_underlying hk]
 .rename_i hk;simp[Instr.checkKey,run_underlying hk]
 .rename_i len e hk;split at h
  .rename_i kk he hs;obtain⟨i,hi,hsi⟩:=zt hs;simp only at h;split at h<;>try(cases h;done)
   rename_i cs;rw[qJ,jO] at h;simp only[VR] at hu;obtain⟨a,rfl,ha⟩:=hu;have hl:=ha.length;rw[Qan] at hl;have hag:Ev.isAgg P e=some false:=by simp[Ev.isAgg,he]
   have key:∀ (k s:Nat),s+k<=len->(do
    for i in Qag s k do
     Instr.checkKey emp (D+1) e (<-part e a (i * (<-Go.sizeOf e))):Sem Unit).run P w=.ok () w:=by
    intro k;induction k with
    |zero=>intro s _;simp
    |succ k ih=>
     intro s hs;obtain⟨x,hx,_⟩:=Zr (P:=P) (w:=w) ha (t:=e) (off:=s) (u:=cs.getD s .bad) (by
      have hb:QcC (QcB s) (jP cs)=true:=by rw[qi,jO];omega
      simp only[zA,hag,Qbe,cond,hb,zM])
     have hc:(Instr.checkKey emp (D+1) e x).run P w=.ok () w:=by simp[Instr.checkKey,run_underlying he]
     have hx':(part e a (s * i.size)).run P w=.ok x w:=by rw[hsi,Qaz];exact hx
     have:=ih (s+1) om;simp only[Sem.run_bind] at this;simp only[Qbn,List.forIn_cons,Sem.run_bind,qd hi,hx',hc,Result.andThen_ok,Sem.run_pure];exact this
   have:=key len 0 om;unfold Instr.checkKey;simp only[Sem.run_bind,run_underlying hk,Result.andThen_ok];rw[<-this];simp only[Std.Legacy.Range.forIn_eq_forIn_range',Std.Legacy.Range.size,Sem.run_bind,QaF,QbI,Nat.div_one]
  .cases h
 .cases h
theorem wC {r:Nat}{x:Obj}(h:w.heap[r]? = some x)(hn:∀ c e f,x≠.cells c e f):(getObj r).run P w=.ok x w:=by
 cases x<;>first|exact absurd rfl (hn _ _ _)|(simp only[getObj,Sem.run,h])
theorem jaR {x y:AV}{u v:Value}(h:Wz x y=true)(hx:VR ι x u)(hy:VR ι y v):u=v/\∀ D,Instr.sameBits D v v=true:=by
 unfold Wz at h;split at h
 .split at h<;>try(cases h;done)
  rename_i a _ b;simp only[VR] at hx hy;subst hx;subst hy;have:a=b:=by cases a<;>cases b<;>first|rfl|cases h
  subst this;exact⟨rfl,λD=>by cases D<;>simp[Instr.sameBits]⟩
 .split at h<;>try(cases h;done)
  rename_i k a _ k' b;generalize hk:eqK k k'=kk at h;cases kk
  .cases h
  .have:=ua hk;subst this;simp only[cond,X9,decide_eq_true_iff] at h;subst h;simp only[VR] at hx hy;subst hx;subst hy;exact⟨rfl,λD=>by cases D<;>simp[Instr.sameBits]⟩
 .split at h<;>try(cases h;done)
  rename_i a _ b;rw[JW,decide_eq_true_iff] at h;subst h;simp only[VR] at hx hy;obtain⟨bx,rfl,hbx⟩:=hx;obtain⟨by',rfl,hby⟩:=hy;have:bx=by':=by
   rw[<-hby] at hbx;have:=J6.1 hbx;cases bx;cases by';simp at this;rw[this]
  subst this;exact⟨rfl,λD=>by
   have hb:(bx == bx)=true:=by rw[beq_toListBytes];exact beq_self_eq_true _
   cases D<;>simpa[Instr.sameBits] using hb⟩
 .cases h
theorem jaQ:∀ (l r:List AV) (us vs:List Value),jdt l r=true->VRs ι l us->VRs ι r vs->us=vs/\∀ D,(vs.zip vs).all (λ(x,y)=>Instr.sameBits D x y)=true
 |[],r,us,vs,h,hl,hr=>by
  cases r with
  |nil=>simp only[VRs] at hl hr;subst hl;subst hr;exact⟨rfl,λ_=>rfl⟩
  |cons y r=>cases h
 |x :: l,r,us,vs,h,hl,hr=>by
  cases r with
  |nil=>cases h
  |cons y r=>
   change cond (Wz x y) (jdt l r) false=true at h;generalize hq:Wz x y=q at h;cases q
   .cases h
   .simp only[VRs] at hl hr;obtain⟨u,us',rfl,hu,hus⟩:=hl;obtain⟨v,vs',rfl,hv,hvs⟩:=hr;obtain⟨h1,h2⟩:=jaR hq hu hv;obtain⟨h3,h4⟩:=jaQ l r us' vs' h hus hvs;refine⟨by rw[h1,h3],λD=>?_⟩;have:=h4 D;simp only[List.zip_cons_cons,QaC,h2 D,QbJ];exact this
theorem jmw {x y:AV}{u v:Value}(h:Vy x y=true)(hx:VR ι x u)(hy:VR ι y v):u=v/\Instr.sameBits 10000 v v=true:=by
 unfold Vy at h;split at h
 .split at h<;>try(cases h;done)
  simp only[VR] at hx hy;obtain⟨a,rfl,ha⟩:=hx;obtain⟨b,rfl,hb⟩:=hy;obtain⟨h1,h2⟩:=jaQ _ _ _ _ h ha hb;have:a=b:=Array.ext' h1;subst this;refine⟨rfl,?_⟩;have key:∀ D,Instr.sameBits (D+1) (.agg a) (.agg a)=true:=λD=>by
   have:=h2 D;simp only[Instr.sameBits,BEq.rfl,QbJ];exact this
  exact key 9999
 .obtain⟨h1,h2⟩:=jaR h hx hy;exact⟨h1,h2 10000⟩
theorem jh9 {kt:TypeId}{kA vA:AV}{u x:Value}(hu:VR ι kA u)(hx:VR ι vA x)(clock:Nat):∀ (es es':List (AV×AV)) (ens:List MapEntry) (i:Nat),MR ι es ens->vI (eqF P 20 kt) kA vA es=some es'->
  (wq P w kt u ens i none/\∀ b,MR ι es' (ens ++ [{ key:=u,val:=x,born:=b }])) \/
  (∃ j e0 old,wq P w kt u ens i (some (i+j,old))/\ens[j]? = some e0/\e0.key=u/\Instr.sameBits 10000 u u=true/\MR ι es' (ens.modify j λe=>{ e with key:=u,val:=x }))
 |[],es',ens,i,hm,h=>by
  simp only[MR] at hm;subst hm;have h':some [(kA,vA)]=some es':=h;cases h';exact .inl ⟨KP _ _ _,λb=>by simp only[MR,Qam];exact⟨_,[],rfl,hu,hx,rfl⟩⟩
 |e :: es,es',ens0,i,hm,h=>by
  simp only[MR] at hm;obtain⟨y,ens,rfl,h1,h2,h3⟩:=hm;change (match (eqF P 20 kt).run kA e.1 with
   |some b=>cond b (cond (Vy kA e.1) (some (Qal (kA,vA) es)) none) (match vI (eqF P 20 kt) kA vA es with|some l=>some (Qal e l)|none=>none)
   |none=>none)=some es' at h
  cases hq:(eqF P 20 kt).run kA e.1 with
  |none=>rw[hq] at h;cases h
  |some b=>
   rw[hq] at h;cases b
   .simp only[cond] at h;cases hr:vI (eqF P 20 kt) kA vA es with
    |none=>rw[hr] at h;cases h
    |some l=>
     rw[hr] at h;simp only[Option.some.injEq] at h;subst h;have hmiss:=λrr (hb:wq P w kt u ens (i+1) rr)=>jaX (Vx hu h1 hq) (U3 hu h1 hq) hb;rcases jh9 hu hx clock es l ens (i+1) h3 hr with ⟨h4,h5⟩|⟨j,e0,old,h4,h5,h6,h7,h8⟩
     .refine .inl ⟨hmiss _ h4,λb=>?_⟩;simp only[Qai,MR];exact⟨_,_,rfl,h1,h2,h5 b⟩
     .refine .inr ⟨j+1,e0,old,?_,by simpa using h5,h6,h7,?_⟩
      .have:=hmiss _ h4;rw[show i+1+j=i+(j+1) by omega] at this;exact this
      .simp only[List.modify_succ_cons,MR];exact⟨_,_,rfl,h1,h2,h8⟩
   .simp only[cond] at h;generalize hk:Vy kA e.1=kk at h;cases kk
    .cases h
    .simp only[Option.some.injEq] at h;subst h;obtain⟨h4,h5⟩:=jmw hk hu h1;refine .inr ⟨0,y,y.val,jdG (Vx hu h1 hq) (U3 hu h1 hq),by simp,h4.symm,by rw[h4];exact h5,?_⟩;simp only[List.modify_zero_cons,MR];exact⟨_,_,rfl,hu,hx,h3⟩
theorem jec {t:TypeId}{m x:Operand}{ok:Bool}(ho:o.op=.lookup t m x ok)(k:Sim ι st.h st.nx w)(hm:VR ι ((op m).run env) (ρ m))(hx:VR ι ((op x).run env) (ρ x)) :
  Res ι w st ((jy P op (.lookup t m x ok)).run env st) ((execOp ρ o).run P w):=by
 have hexec:(execOp ρ o).run P w=((Instr.lookup t (ρ m) (ρ x) ok).run P w).andThen λv w'=>.ok (.value v) w':=by
  simp only[execOp,ho,Sem.run_bind];cases (Instr.lookup t (ρ m) (ρ x) ok).run P w<;>simp[Result.andThen]
 rw[hexec];simp only[jy,JM];split<;>try trivial
 rename_i kt e hu;split<;>try trivial
 rename_i zero hz;obtain⟨i,zv,hi,hzv,hzr⟩:=jbW hz ι;try dsimp only
 generalize hvx:(op m).run env=vm at hm;cases vm<;>try trivial
 .rename_i r;simp only[VR] at hm;obtain⟨hb,R,hpm,hR⟩:=hm;refine jQ λhk=>?_;cases hg:jv st.h r with
  |none=>trivial
  |some ob=>
   cases ob<;>try trivial
   rename_i es;simp only[Xz];refine qY λfr hfr=>?_;obtain⟨B,S,ens,clock,e1,hw,hmr⟩:=k.map hb hg;have hRB:=hR B S e1;subst hRB;obtain⟨rr,h4,h5⟩:=jfe (P:=P) (w:=w) hx es ens.toList 0 fr hmr hfr;cases hkd:P.underlying kt with
   |none=>
    simp[Zv,hkd] at hk
   |some kind=>
    have hrun:=VI hkd h4;have hchk:=KO (P:=P) (w:=w) hx hk ens.isEmpty 9998;have jv:=wC (P:=P) hw (λ_ _ _ h=>by cases h);rcases h5 with ⟨rfl,rfl⟩|⟨v,j,y,rfl,rfl,hv⟩
    .refine Res.val k (x:=if ok then .tuple #[zv,.bool false] else zv) ?_ ?_
     .simp only[Instr.lookup,Sem.run_bind,run_underlying hu,Result.andThen_ok,hpm,jv,Sem.run_pure,hchk,hrun,JB hi hzv]
     .cases ok
      .exact hzr
      .simp only[cond,VR,if_true];exact⟨_,rfl,by simp[VRs,VR];exact hzr⟩
    .refine Res.val k (x:=if ok then .tuple #[y,.bool true] else y) ?_ ?_
     .simp only[Instr.lookup,Sem.run_bind,run_underlying hu,Result.andThen_ok,hpm,jv,Sem.run_pure,hchk,hrun]
     .cases ok
      .exact hv
      .simp only[cond,VR,if_true];exact⟨_,rfl,by simp[VRs,VR];exact hv⟩
 .simp only[VR] at hm;refine jQ λhk=>?_;cases hkd:P.underlying kt with
  |none=>simp[Zv,hkd] at hk
  |some kind=>
   have hrun:=VI (P:=P) (w:=w) hkd (KP kt (ρ x) 0);have hchk:=KO (P:=P) (w:=w) hx hk true 9998;refine Res.val k (x:=if ok then .tuple #[zv,.bool false] else zv) ?_ ?_
   .have he:(#[]:Array MapEntry).isEmpty=true:=rfl;simp only[Instr.lookup,Sem.run_bind,run_underlying hu,Result.andThen_ok,hm,Sem.run_pure,he,hchk,hrun,JB hi hzv]
   .cases ok
    .exact hzr
    .simp only[cond,VR,if_true];exact⟨_,rfl,by simp[VRs,VR];exact hzr⟩
theorem HH {t:TypeId}{m x y:Operand}(ho:o.op=.mapUpdate t m x y)(k:Sim ι st.h st.nx w)(hm:VR ι ((op m).run env) (ρ m))(hx:VR ι ((op x).run env) (ρ x))(hy:VR ι ((op y).run env) (ρ y)) :
  Res ι w st ((jy P op (.mapUpdate t m x y)).run env st) ((execOp ρ o).run P w):=by
 have hexec:(execOp ρ o).run P w=((Instr.mapUpdate t (ρ m) (ρ x) (ρ y)).run P w).andThen λv w'=>.ok .skip w':=by
  simp only[execOp,ho,Sem.run_bind];cases (Instr.mapUpdate t (ρ m) (ρ x) (ρ y)).run P w<;>simp[Result.andThen]
 rw[hexec];simp only[jy,zn];split<;>try trivial
 rename_i kt e hu;try dsimp only
 generalize hvx:(op m).run env=vm at hm;cases vm<;>try trivial
 rename_i r;simp only[VR] at hm;obtain⟨hb,R,hpm,hR⟩:=hm;refine jQ λhk=>?_;cases hg:jv st.h r with
 |none=>trivial
 |some ob=>
  cases ob<;>try trivial
  rename_i es;simp only[Xz];refine qY λes' hes=>?_;rw[St.put_eq];obtain⟨B,S,ens,clock,e1,hw,hmr⟩:=k.map hb hg;have hRB:=hR B S e1;subst hRB;cases hkd:P.underlying kt with
  |none=>simp[Zv,hkd] at hk
  |some kind=>
   have hchk:=KO (P:=P) (w:=w) hx hk false 9998;have jv:=wC (P:=P) hw (λ_ _ _ h=>by cases h);have u4:∀ ob,(setObj R ob).run P w=.ok () { w with heap:=w.heap.setIfInBounds R ob }:=λob=>by
    simp only[setObj,Sem.run,hw]
   have hfin:∀ ens' clock',MR ι es' ens'.toList->Sim ι ((j2 (jK r)).run (.map es') st.h) st.nx { w with heap:=w.heap.setIfInBounds R (.map ens' clock') }/\Grew ι w ι { w with heap:=w.heap.setIfInBounds R (.map ens' clock') }:=λens' clock' hm'=>by
    have hlt:=k.lt e1;refine k.write e1 (.map es') (.map ens' clock') (by simp only[OR];exact⟨ens',clock',rfl,hm'⟩) ?_ ?_ rfl rfl rfl ?_
    .simp[hlt]
    .intro j hj;simp[Qcw (λe=>hj e.symm)]
    .simp
   rcases jh9 (P:=P) (w:=w) hx hy clock es es' ens.toList 0 hmr hes with ⟨h4,h5⟩|⟨j,e0,old,h4,h5,h6,h7,h8⟩
   .obtain⟨h9,h10⟩:=hfin (ens.push { key:=ρ x,val:=ρ y,born:=clock }) (clock+1) (by simpa using h5 clock);refine⟨ι,undef,_,.inr ⟨?_,rfl⟩,Le.refl ι,?_,h9,h10,Cleanly.put ι st r _ (k.born r hb),rfl⟩
    .have hrun:=VI hkd h4;simp only[Instr.mapUpdate,Sem.run_bind,run_underlying hu,Result.andThen_ok,hpm,jv,hchk,hrun,u4]
    .show VR ι qe undef;simp only[qe,undef,VR];exact⟨#[],rfl,by simp[VRs]⟩
   .obtain⟨h9,h10⟩:=hfin (ens.modify j λe=>{ e with key:=ρ x,val:=ρ y }) clock (by simpa using h8);refine⟨ι,undef,_,.inr ⟨?_,rfl⟩,Le.refl ι,?_,h9,h10,Cleanly.put ι st r _ (k.born r hb),rfl⟩
    .have hrun:=VI hkd h4;have hkey:((ens[0+j]?).map (·.key)).getD (ρ x)=ρ x:=by
      rw[Qaj];have:ens[j]? = some e0:=by simpa using h5
      simp[this,h6]
     simp only[Instr.mapUpdate,Sem.run_bind,run_underlying hu,Result.andThen_ok,hpm,jv,hchk,hrun,hkey,Instr.keyThatStays,h7,if_true,Sem.run_pure,u4];simp
    .show VR ι qe undef;simp only[qe,undef,VR];exact⟨#[],rfl,by simp[VRs]⟩
end
section
variable {P:Program} {ι:Inj} {w:World} {st:St}
variable {ρ:Operand->Value} {op:Operand->OF} {env:Env} {o:Oper}
theorem jgY {t:TypeId}{x:Operand}(ho:o.op=.range t x)(k:Sim ι st.h st.nx w)(hx:VR ι ((op x).run env) (ρ x)) :
  Res ι w st ((jy P op (.range t x)).run env st) ((execOp ρ o).run P w):=by
 simp only[jy];split<;>try trivial
 rename_i hu;try dsimp only
 generalize (op x).run env=vx at hx;cases vx<;>try trivial
 rename_i s;simp only[VR] at hx;obtain⟨bs,hpx,hbs⟩:=hx;simp only[zV];rw[St.alloc_eq];refine Res.alloc k (S:=0) (x:=.stringIter bs 0) (y:=.pointer (some ⟨w.heap.size,0,none⟩)) (by simp only[OR];exact⟨bs,rfl,hbs⟩) (GT _ _ _ _) ?_;simp[execOp,ho,Instr.range,run_underlying hu,hpx]
theorem Sim.iter {nx:Nat}{h:T AO}(k:Sim ι h nx w){b pos:Nat}{s:Lc}(hb:ι b≠.unborn)(e:jv h b=some (.iter s pos)) :
  ∃ B S bs,ι b=.at B S/\w.heap[B]? = some (.stringIter bs pos)/\bs.data.toList.map UInt8.toNat=s:=by
 cases hι:ι b with
 |unborn=>exact absurd hι hb
 |dead=>have:=k.gone b hι _ e;cases this
 |«at» B S=>
  obtain⟨o,x,ho,hx,hr⟩:=k.obj b B S hι;rw[e] at ho;cases ho;simp only[OR] at hr;obtain⟨bs,rfl,hm⟩:=hr;exact⟨B,S,bs,rfl,hx,hm⟩
theorem jgi {r:Nat}{x y:Obj}(h:w.heap[r]? = some x)(hn:∀ c e f,x≠.cells c e f):(setObj r y).run P w=.ok () { w with heap:=w.heap.setIfInBounds r y }:=by
 cases x<;>first|exact absurd rfl (hn _ _ _)|(simp only[setObj,Sem.run,h])
theorem Sim.set {nx:Nat}{h:T AO}(k:Sim ι h nx w){b B S:Nat}(e:ι b=.at B S)(o:AO)(x:Obj)(hx:OR ι S o x) :
  Sim ι ((j2 (jK b)).run o h) nx { w with heap:=w.heap.setIfInBounds B x }/\Grew ι w ι { w with heap:=w.heap.setIfInBounds B x }:=by
 have hlt:=k.lt e;refine k.write e o x hx ?_ ?_ rfl rfl rfl ?_
 .simp[hlt]
 .intro j hj;simp[Qcw (λe=>hj e.symm)]
 .simp
theorem jjv {it:Operand}(ho:o.op=.next it true)(k:Sim ι st.h st.nx w)(hx:VR ι ((op it).run env) (ρ it)) :
  Res ι w st ((jy P op (.next it true)).run env st) ((execOp ρ o).run P w):=by
 simp only[jy,ku];generalize (op it).run env=vx at hx;cases vx<;>try trivial
 rename_i b off;simp only[VR] at hx;obtain⟨hb,ad,hpx,had⟩:=hx;simp only[ya];refine jQ λh0=>?_;rw[qJ] at h0;subst h0;split<;>try trivial
 rename_i s pos hg;obtain⟨B,S,bs,e,hw,hbs⟩:=k.iter hb hg;rw[had B S e] at hpx;have hsz:=Q9 hbs;have jv:=wC (P:=P) hw (λ_ _ _ h=>by cases h);refine Xq (λh1=>?_) (λh1=>?_)
 .rw[qi,jO] at h1;refine Res.val k (x:=.tuple #[.bool false]) ?_ ?_
  .simp[execOp,ho,hpx,Instr.next,jv,show ¬ pos<bs.size by omega]
  .simp only[VR];exact⟨_,rfl,by simp[VRs,VR]⟩
 .have h1':pos<s.length:=by
   have:¬ QcC (jP s) pos=true:=by rw[h1];simp
   rw[qi,jO] at this;omega
  rw[jF,zM];refine jQ λh2=>?_;rw[qi] at h2;rw[St.put_eq];have hp:pos<bs.size:=om
  have hc:s.getD pos 0=(bs[pos]'hp).toNat:=by
   rw[<-hbs];have:pos<bs.data.toList.length:=by rw[Qan];exact hp
   simp only[Qaf,Qbf,Qad this,Qau,QaM];rfl
  have hdec:=decode_ascii bs pos hp om;obtain⟨h3,h4⟩:=k.set e (.iter s (pos+1)) (.stringIter bs (pos+1)) (by simp only[OR];exact⟨bs,rfl,hbs⟩);refine⟨ι,.tuple #[.bool true,.int .i64 pos,.int .i32 (bs[pos]'hp).toNat],_,.inl ?_,Le.refl ι,?_,h3,h4,Cleanly.put ι st b _ (k.born b hb),rfl⟩
  .simp[execOp,ho,hpx,Instr.next,jv,hp,hdec,jgi hw (λ_ _ _ h=>by cases h),goInt]
  .simp only[VR];refine⟨_,rfl,?_⟩;rw[hc];simp[VRs,VR]
theorem jgZ {x:Operand}(ho:o.op=.panic x)(k:Sim ι st.h st.nx w)(hx:VR ι ((op x).run env) (ρ x)) :
  Res ι w st ((jy P op (.panic x)).run env st) ((execOp ρ o).run P w):=by
 simp only[jy];try dsimp only
 generalize (op x).run env=vx at hx;cases vx<;>try trivial
 rename_i t v;refine⟨rfl,ρ x,?_,hx⟩;simp only[VR] at hx;obtain⟨y,hy,_⟩:=hx;simp[execOp,ho,hy,Instr.panic,goPanic]
theorem Gu {x:Operand}{s t:TypeId}(ho:o.op=.typeAssert x s t true)(k:Sim ι st.h st.nx w)(hx:VR ι ((op x).run env) (ρ x)) :
  Res ι w st ((jy P op (.typeAssert x s t true)).run env st) ((execOp ρ o).run P w):=by
 simp only[jy,YK];split<;>try trivial
 rename_i z hz;obtain⟨i,zv,hi,hzv,hzr⟩:=jbW hz ι;split<;>try trivial
 .rename_i want hu;try dsimp only
  generalize (op x).run env=vx at hx;cases vx<;>try trivial
  .rename_i tt v;refine qY λb hb=>?_;unfold jnP at hb;rw[QbA] at hb;obtain⟨it,hit,hb⟩:=hb;have hx':=hx;simp only[VR] at hx;obtain⟨y,hy,_⟩:=hx;refine Xq (λh=>?_) (λh=>?_)
   .subst h;cases hm:Instr.missingMethod want it.methods with
    |none=>simp[hm] at hb
    |some m=>
     refine Res.val k (x:=.tuple #[zv,.bool false]) ?_ ?_
     .simp[execOp,ho,hy,Instr.typeAssert,run_underlying hu,YX hit,hm,JB hi hzv]
     .simp only[VR];exact⟨_,rfl,by simp[VRs,VR];exact hzr⟩
   .subst h;cases hm:Instr.missingMethod want it.methods with
    |some m=>simp[hm] at hb
    |none=>
     refine Res.val k (x:=.tuple #[.iface tt y,.bool true]) ?_ ?_
     .simp[execOp,ho,hy,Instr.typeAssert,run_underlying hu,YX hit,hm]
     .rw[hy] at hx';simp only[VR] at hx';obtain⟨y',e,hy'⟩:=hx';cases e;simp only[VR];refine⟨_,rfl,?_⟩;simp only[VRs,VR];exact⟨_,_,rfl,⟨_,rfl,hy'⟩,_,_,rfl,rfl,rfl⟩
  .simp only[VR] at hx;refine Res.val k (x:=.tuple #[zv,.bool false]) ?_ ?_
   .simp[execOp,ho,hx,Instr.typeAssert,run_underlying hu,JB hi hzv]
   .simp only[VR];exact⟨_,rfl,by simp[VRs,VR];exact hzr⟩
 .rename_i d hni hu;try dsimp only
  generalize (op x).run env=vx at hx;cases vx<;>try trivial
  .rename_i tt v;simp only[VR] at hx;obtain⟨y,hy,hv⟩:=hx;refine Xq (λh=>?_) (λh=>?_)
   .rw[qJ] at h;subst h;refine Res.val k (x:=.tuple #[y,.bool true]) ?_ ?_
    .cases d<;>first|(exact absurd rfl (hni _))|(simp[execOp,ho,hy,Instr.typeAssert,run_underlying hu])
    .simp only[VR];exact⟨_,rfl,by simp[VRs,VR];exact hv⟩
   .have h':¬ tt=t:=λe=>by rw[<-qJ,h] at e;cases e
    refine Res.val k (x:=.tuple #[zv,.bool false]) ?_ ?_
    .cases d<;>first|(exact absurd rfl (hni _))|(simp[execOp,ho,hy,Instr.typeAssert,run_underlying hu,h',JB hi hzv])
    .simp only[VR];exact⟨_,rfl,by simp[VRs,VR];exact hzr⟩
  .simp only[VR] at hx;refine Res.val k (x:=.tuple #[zv,.bool false]) ?_ ?_
   .cases d<;>first|(exact absurd rfl (hni _))|(simp[execOp,ho,hx,Instr.typeAssert,run_underlying hu,JB hi hzv])
   .simp only[VR];exact⟨_,rfl,by simp[VRs,VR];exact hzr⟩
end
section
variable {P:Program} {ι:Inj} {w:World} {st:St}
variable {ρ:Operand->Value} {op:Operand->OF} {env:Env} {o:Oper}
theorem MR.length {ι:Inj}:∀ {es:List (AV×AV)} {l:List MapEntry},MR ι es l->l.length=es.length
 |[],l,h=>by simp only[MR] at h;simp[h]
 |e :: es,l,h=>by
  simp only[MR] at h;obtain⟨x,xs,rfl,_,_,h3⟩:=h;simp[MR.length h3]
theorem jdF {c:Call}(ho:o.op=.call c){b:Builtin}(hc:c.callee=.builtin b) :
  (execOp ρ o).run P w=(builtin b c.argTypes o.type (c.args.map λ| .const _=>true|_=>false) (c.args.map ρ)).run P w:=by
 simp only[execOp,ho,resolve,hc,invoke,Sem.run_bind,Sem.run_pure,Result.andThen_ok];try rfl
theorem jl7 {x:Option AO}{f:List (AV×AV)->ER}{res:Result Next}(h:∀ es,x=some (.map es)->Res ι w st (f es) res):Res ι w st (Xz x f) res:=by
 cases x with
 |none=>trivial
 |some ob=>
  cases ob<;>try trivial
  exact h _ rfl
theorem jsl {t:TypeId}{x:Operand}{l:List TypeId}{ty:TypeId}(k:Sim ι st.h st.nx w)(hx:VR ι ((op x).run env) (ρ x)) :
  Res ι w st ((wi P t (op x)).run env st) (((Builtin.len_ (t :: l).toArray ty #[ρ x]).run P w).andThen λv w'=>.ok (.value v) w'):=by
 unfold wi;split<;>try trivial
 .rename_i hu;try dsimp only
  generalize (op x).run env=vx at hx;cases vx<;>try trivial
  .rename_i s;simp only[VR] at hx;obtain⟨bs,hpx,hbs⟩:=hx;simp only[jF,jO];refine Res.val k (x:=.int .i64 s.length) ?_ (by simp only[VR];rfl);simp[Builtin.len_,run_underlying hu,hpx,goInt,Q9 hbs]
  .rename_i n;simp only[VR] at hx;obtain⟨bs,hpx,hbs⟩:=hx;refine Res.val k (x:=.int .i64 n) ?_ (by simp only[VR];rfl);simp[Builtin.len_,run_underlying hu,hpx,goInt,hbs]
 .rename_i n e hu;refine Res.val k (x:=.int .i64 n) ?_ (by simp only[VR];rfl);simp[Builtin.len_,run_underlying hu,goInt]
 .rename_i e hu;try dsimp only
  generalize (op x).run env=vx at hx;cases vx<;>try trivial
  .rename_i b off len cap sz ex;simp only[VR] at hx;obtain⟨hb,hlc,ad,C,hpx,hC,hex,had⟩:=hx;refine Res.val k (x:=.int .i64 len) ?_ (by simp only[VR];rfl);simp[Builtin.len_,run_underlying hu,hpx,goInt]
  .simp only[VR] at hx;refine Res.val k (x:=.int .i64 (0:Nat)) ?_ (by simp only[VR];rfl);simp[Builtin.len_,run_underlying hu,hx,goInt]
  .rename_i n cs;simp only[VR] at hx;obtain⟨p,C,hpx,hC,_⟩:=hx;refine Res.val k (x:=.int .i64 n) ?_ (by simp only[VR];rfl);simp[Builtin.len_,run_underlying hu,hpx,goInt]
 .rename_i kt e hu;try dsimp only
  generalize (op x).run env=vx at hx;cases vx<;>try trivial
  .rename_i r;simp only[VR] at hx;obtain⟨hb,R,hpx,hR⟩:=hx;refine jl7 λes hg=>?_
   .simp only[jF,jO];obtain⟨B,S,ens,clock,e1,hw,hmr⟩:=k.map hb hg;have hRB:=hR B S e1;subst hRB;refine Res.val k (x:=.int .i64 es.length) ?_ (by simp only[VR];rfl);have hlen:=hmr.length;rw[Qan] at hlen;simp[Builtin.len_,run_underlying hu,hpx,goInt,wC hw (λ_ _ _ h=>by cases h),hlen]
  .simp only[VR] at hx;refine Res.val k (x:=.int .i64 (0:Nat)) ?_ (by simp only[VR];rfl);simp[Builtin.len_,run_underlying hu,hx,goInt]
theorem jtf {t:TypeId}{x:Operand}{l:List TypeId}{ty:TypeId}(k:Sim ι st.h st.nx w)(hx:VR ι ((op x).run env) (ρ x)) :
  Res ι w st ((UH P t (op x)).run env st) (((Builtin.cap_ (t :: l).toArray ty #[ρ x]).run P w).andThen λv w'=>.ok (.value v) w'):=by
 unfold UH;split<;>try trivial
 rename_i e hu;try dsimp only
 generalize (op x).run env=vx at hx;cases vx<;>try trivial
 .rename_i b off len cap sz ex;cases ex<;>try trivial
  simp only[VR] at hx;obtain⟨hb,hlc,ad,C,hpx,hC,hex,had⟩:=hx;have:=hex hac;subst this;refine Res.val k (x:=.int .i64 C) ?_ (by simp only[VR];rfl);simp[Builtin.cap_,run_underlying hu,hpx,goInt]
 .simp only[VR] at hx;refine Res.val k (x:=.int .i64 (0:Nat)) ?_ (by simp only[VR];rfl);simp[Builtin.cap_,run_underlying hu,hx,goInt]
theorem jo0 {x y z:AV}{u v:Value}(hx:VR ι x u)(hy:VR ι y v)(h:Ev.min2 x y=some z):∃ r,(Builtin.min2 u v).run P w=.ok r w/\VR ι z r:=by
 unfold Ev.min2 at h;split at h<;>try(cases h;done)
 rename_i k a k' b;generalize hk:eqK k k'=kk at h;cases kk
 .cases h
 .have:=ua hk;subst this;simp only[cond,Option.some.injEq,X7] at h;simp only[VR] at hx hy;subst hx;subst hy;subst h;refine⟨.int k (if b<a then b else a),by simp[Builtin.min2],?_⟩;simp only[VR];by_cases hb:b<a<;>simp[hb]
theorem jo3 {x y z:AV}{u v:Value}(hx:VR ι x u)(hy:VR ι y v)(h:Ev.max2 x y=some z):∃ r,(Builtin.max2 u v).run P w=.ok r w/\VR ι z r:=by
 unfold Ev.max2 at h;split at h<;>try(cases h;done)
 rename_i k a k' b;generalize hk:eqK k k'=kk at h;cases kk
 .cases h
 .have:=ua hk;subst this;simp only[cond,Option.some.injEq,X7] at h;simp only[VR] at hx hy;subst hx;subst hy;subst h;refine⟨.int k (if b > a then b else a),by simp[Builtin.max2],?_⟩;simp only[VR];by_cases hb:a<b<;>simp[hb]
theorem HE {f:AV->AV->Option AV}{g:Value->Value->Sem Value}(hfg:∀ x y z u v,VR ι x u->VR ι y v->f x y=some z->∃ r,(g u v).run P w=.ok r w/\VR ι z r) :
  ∀ (l:List AV) (l':List Value) (x z:AV) (u:Value),VR ι x u->VRs ι l l'->Q5 f x l=some z->∃ r,(l'.foldlM g u).run P w=.ok r w/\VR ι z r
 |[],l',x,z,u,hx,hl,h=>by
  simp only[VRs] at hl;subst hl;simp only[Q5,Option.some.injEq] at h;subst h;exact⟨u,by simp,hx⟩
 |y :: l,l0,x,z,u,hx,hl,h=>by
  simp only[VRs] at hl;obtain⟨v,l',rfl,hy,hl'⟩:=hl;simp only[Q5] at h;cases hf:f x y with
  |none=>simp[hf] at h
  |some q=>
   simp only[hf,Qbe] at h;obtain⟨r,h1,h2⟩:=hfg x y q u v hx hy hf;obtain⟨r',h3,h4⟩:=HE hfg l l' q z r h2 hl' h;exact⟨r',by simp[List.foldlM_cons,h1,h3],h4⟩
theorem Kw {v:AV}{x:Value}(hv:VR ι v x){f:Nat->ER}{res:Result Next}(h:∀ n,(∀ w',(Builtin.lenOf x).run P w'=.ok n w')->Res ι w st (f n) res):Res ι w st (JJ v f) res:=by
 unfold JJ;split<;>try trivial
 .simp only[VR] at hv;obtain⟨hb,hlc,ad,C,rfl,hC,hex,had⟩:=hv;exact h _ λw'=>by simp[Builtin.lenOf]
 .simp only[VR] at hv;subst hv;exact h _ λw'=>by simp[Builtin.lenOf]
 .simp only[VR] at hv;obtain⟨p,C,rfl,_⟩:=hv;exact h _ λw'=>by simp[Builtin.lenOf]
 .simp only[VR] at hv;obtain⟨bs,rfl,hbs⟩:=hv;rw[jF,jO];exact h _ λw'=>by simp[Builtin.lenOf,Q9 hbs]
theorem wn (k:Sim ι st.h st.nx w){v:AV}{x:Value}(hv:VR ι v x){size n:Nat}{f:List AV->ER}{res:Result Next}(hn:∃ m,(Builtin.lenOf x).run P w=.ok m w/\n<=m)
  (h:∀ cells (vs:Array Value),(Builtin.firstCells size n x).run P w=.ok vs w->(Builtin.firstCells size n x).run P w.drew=.ok vs w.drew->VRs ι cells vs.toList->cells.all AV.cell=true->(n=0->vs = #[])->Res ι w st (f cells) res) :
  Res ι w st (Ev.firstCells st size n v f) res:=by
 obtain⟨m0,hm0,hnm⟩:=hn;unfold Ev.firstCells;split<;>try trivial
 .rename_i b off len cap sz ex;simp only[VR] at hv;obtain⟨hb,hlc,ad,C,rfl,hC,hex,had⟩:=hv;refine Vb λm zl z cs hg=>?_;rw[jF];refine jQ λhle=>?_;rw[qi] at hle;obtain⟨B,S,c,elem,lo,hi,e',hw,_⟩:=k.row hb hg;obtain⟨vs,hrun,hvs,hlen,hcells⟩:=uR (P:=P) k hb hg e' hle;obtain⟨vs2,hrun2,hvs2,hlen2,hcells2⟩:=uR (P:=P) (w:=w.drew) k.drew hb hg e' hle;have e12:vs2=vs:=by
   apply List.ext_getElem?;intro j;cases h1:vs[j]? with
   |none=>
    rw[List.getElem?_eq_none_iff] at h1 ⊢;omega
   |some u=>
    have hj:j<vs2.length:=by rw[Qbk] at h1;obtain⟨h2,_⟩:=h1;omega
    have h3:=hcells2 j _ (Qad hj);have h4:=hcells j u h1;have h5:w.drew.cell? ((⟨B,off,none⟩:Addr).add j)=w.cell? ((⟨B,off,none⟩:Addr).add j):=rfl;rw[h5,h4] at h3;rw[Qad hj];exact h3.symm
  subst e12;have hall:=(QH k hb hg hle).1;have hadr:(loadCells ad (QcE n size)).run P w=.ok vs2.toArray w/\(loadCells ad (QcE n size)).run P w.drew=.ok vs2.toArray w.drew:=by
   rcases (had B S e').1 with h0|h0
   .have hn0:n=0:=by
     simp only[Builtin.lenOf,Sem.run_pure,Result.ok.injEq] at hm0;omega
    subst hn0;have:QcE 0 size=0:=QaV size;rw[this] at hlen ⊢;rw[Qbi hlen];constructor<;>simp[loadCells,loadCellsFrom]
   .rw[h0];exact⟨hrun,hrun2⟩
  exact h _ vs2.toArray (by simpa[Builtin.firstCells] using hadr.1) (by simpa[Builtin.firstCells] using hadr.2) hvs hall (λh0=>by subst h0;have:QcE 0 size=0:=QaV size;rw[this] at hlen;rw[Qbi hlen])
 .simp only[VR] at hv;subst hv;exact h [] #[] (by simp[Builtin.firstCells]) (by simp[Builtin.firstCells]) (by simp[VRs]) rfl (λ_=>rfl)
 .rename_i len cs;simp only[VR] at hv;obtain⟨p,C,rfl,hC,e0,hl⟩:=hv;refine jQ λhle=>?_;rw[qi,jO] at hle;have hle':n * size<=cs.length:=hle;rw[qX];simp only[Builtin.lenOf,Sem.run_pure,Result.ok.injEq] at hm0;rcases Nat.eq_zero_or_pos n with h0|h0
  .subst h0;have h1:QcE 0 size=0:=QaV size;rw[h1,QaG];refine h [] #[] ?_ ?_ (by simp[VRs]) rfl (λ_=>rfl)<;>(cases p<;>simp[Builtin.firstCells,loadCells,loadCellsFrom])
  .obtain⟨B,o,vs,rfl,e2,e3,e4⟩:=hl om;have hF:=k.glob.2 B vs e2;have hr1:=Vs (P:=P) (o:=o) (n:=n * size) hF om;have hr2:=Vs (P:=P) (o:=o) (n:=n * size) (k.drew.glob.2 B vs e2) om;refine h _ ((vs.drop o).take (n * size)).toArray (by simpa[Builtin.firstCells] using hr1) (by simpa[Builtin.firstCells] using hr2) ?_ (VK e0 _) (λh1=>by omega);have:=e4.back.take (n * size);rw[QbT,Qbx hle'] at this;exact this
 .rename_i s;simp only[VR] at hv;obtain⟨bs,rfl,hbs⟩:=hv;have he:=VQ hbs 0 n;refine h _ ((bs.extract 0 n).data.map λ(b:UInt8)=>Value.int .u8 b.toNat) (by simp[Builtin.firstCells]) (by simp[Builtin.firstCells]) ?_ ?_ ?_
  .rw[Wd _ _ he,yG,qX];simp only[Qbl,QaF];exact jei _
  .rw[yG,List.all_map,Qah];intro _ _;rfl
  .intro h0;subst h0;apply Array.ext';rw[Wd _ _ he];simp
theorem vJ (ι:Inj):VR ι qe undef:=by
 simp only[qe,undef,VR];exact⟨#[],rfl,by simp[VRs]⟩
theorem jgR {x:Value}{m:Nat}(size:Nat)(h:(Builtin.lenOf x).run P w=.ok m w):∃ vs,(Builtin.firstCells size 0 x).run P w=.ok vs w:=by
 cases x;case string bs=>exact⟨_,by simp only[Builtin.firstCells,Sem.run_pure];rfl⟩
 case slice a l c=>
  cases a with
  |none=>exact⟨#[],by simp[Builtin.firstCells]⟩
  |some a=>exact⟨#[],by simp[Builtin.firstCells,loadCells,loadCellsFrom]⟩
 all_goals
  simp[Builtin.lenOf,stuck,Sem.run] at h
theorem jpn {t:TypeId}{d x:Operand}{l:List TypeId}{ty:TypeId}(k:Sim ι st.h st.nx w)(hd:VR ι ((op d).run env) (ρ d))(hx:VR ι ((op x).run env) (ρ x)) :
  Res ι w st ((VB P t (op d) (op x)).run env st) (((Builtin.copy_ (t :: l).toArray ty #[ρ d,ρ x]).run P w).andThen λv w'=>.ok (.value v) w'):=by
 unfold VB;split<;>try trivial
 rename_i e he;have hu:=kR he;split<;>try trivial
 rename_i size hs;obtain⟨i,hi,hsi⟩:=zt hs;try dsimp only
 refine Kw (P:=P) hx λn0 hn0=>?_;generalize hvd:(op d).run env=vd at hd;cases vd<;>try trivial
 .rename_i b off dl cap sz ex;simp only[VR] at hd;obtain⟨hb,hlc,ad,C,hpd,hC,hex,had⟩:=hd;simp only[jF];have hmin:(cond (QcC n0 dl) n0 dl)=Nat.min n0 dl:=by
   show _=min n0 dl;rw[Nat.min_def];cases h:QcC n0 dl
   .have:¬ n0<=dl:=λe=>by rw[<-qi,h] at e;cases e
    rw[if_neg this];rfl
   .rw[qi] at h;rw[if_pos h];rfl
  rw[hmin];refine wn (P:=P) k hx ⟨n0,hn0 w,Nat.min_le_left _ _⟩ λcells vs hf _ hvs hall hv0=>Vb λm zl z cs hg=>jQ λhle=>?_;rw[qi,jO] at hle;have hle':off+cells.length<=m:=hle;rw[St.put_eq];obtain⟨B,S,c,elem,lo,hi',e1,hw,_⟩:=k.row hb hg;obtain⟨w',hr,hs',hf'⟩:=Kl (P:=P) (o:=off) k hb hg e1 hvs hall hle';have hst:(storeCells ad vs.toList).run P w=.ok () w':=by
   rcases (had B S e1).1 with h0|h0
   .have hn:Nat.min n0 dl=0:=by have:Nat.min n0 dl<=dl:=Nat.min_le_right _ _;omega
    have hz:vs = #[]:=hv0 hn;subst hz;simp[storeCells] at hr ⊢;exact hr
   .rw[h0];exact hr
  refine⟨ι,.int .i64 (Nat.min n0 dl:Nat),w',.inl ?_,Le.refl ι,(by simp only[VR];rfl),hs',hf',Cleanly.put ι st b _ (k.born b hb),rfl⟩;simp only[Builtin.copy_];simp[run_underlying hu,hpd,hn0,qd hi,hsi,hf,hst,goInt]
 .simp only[VR] at hd;refine Res.val k (x:=.int .i64 (0:Nat)) ?_ (by simp only[VR];rfl);obtain⟨vs,hv⟩:=jgR (P:=P) (w:=w) size (hn0 w);have hmin:n0.min 0=0:=Nat.min_zero n0;simp only[Builtin.copy_];simp[run_underlying hu,hd,hn0,qd hi,hsi,hmin,hv,goInt]
end
section
variable {P:Program} {ι:Inj} {w:World} {st:St}
variable {ρ:Operand->Value} {op:Operand->OF} {env:Env} {o:Oper}
def jhz (P:Program)(w:World)(i:TypeInfo)(zv:Value)(u:TypeId)(x:Value)(n:Nat)(vs:Array Value):Prop:=
 (∃ d,P.underlying u=some d/\(d=.string\/∃ e,d=.slice e)/\(∀ w',(Builtin.lenOf x).run P w'=.ok n w')/\(Builtin.firstCells i.size n x).run P w=.ok vs w/\(Builtin.firstCells i.size n x).run P w.drew=.ok vs w.drew) \/
 (∃ k kk,P.underlying u=some (.int k)/\x=.int kk (Qar n)/\n<=9223372036854775807/\n * i.bytes<=281474976710656/\vs=if n * i.size=0 then #[] else Builtin.zeroCells zv.cells n)
theorem Zb {t e u ty:TypeId}{l:List TypeId}{i:TypeInfo}{zv:Value}(ht:P.underlying t=some (.slice e))(hi:P.info? e=some i)(hz:i.zero=some zv)
  {x:Value} {n:Nat} {vs:Array Value} (ha:jhz P w i zv u x n vs) (base:Option Addr) (sLen sCap:Nat) (hroom:sLen+n<=sCap) :
  (Builtin.append_ (t :: u :: l).toArray ty #[.slice base sLen sCap,x]).run P w =
   ((match base with|some a=>(storeCells (a.add (sLen * i.size)) vs.toList)|none=>pure ()).run P w).andThen λ_ w'=>.ok (.slice base (sLen+n) sCap) w':=by
 rcases ha with ⟨d,hd,hnd,hlen,hf,_⟩|⟨k,kk,hd,rfl,h63,h48,rfl⟩
 .rcases hnd with rfl|⟨e',rfl⟩
  all_goals
   simp[Builtin.append_,run_underlying ht,run_underlying hd,qd hi,hlen,hroom,hf];cases base<;>simp
 .have hw:IntKind.i64.wrap (n:Int)=n:=by rw[IntKind.wrap_i64];omega
  have h48':¬ (281474976710656:Int)<(n:Int) * (i.bytes:Int):=by
   have:((n * i.bytes:Nat):Int)<=281474976710656:=Int.ofNat_le.2 h48;rw[Int.natCast_mul] at this;omega
  have hneg:¬ (n:Int)<0:=om
  by_cases h0:n * i.size=0
  .simp[Builtin.append_,run_underlying ht,run_underlying hd,qd hi,YX hi,asInt,asIntOf,hw,hneg,h48',hroom,h0];cases base<;>simp
  .simp[Builtin.append_,run_underlying ht,run_underlying hd,qd hi,YX hi,asInt,asIntOf,hw,hneg,h48',hroom,h0,JB hi hz];cases base<;>simp
theorem Wf {t e u ty:TypeId}{l:List TypeId}{i:TypeInfo}{zv:Value}(ht:P.underlying t=some (.slice e))(hi:P.info? e=some i)(hz:i.zero=some zv)
  {x:Value} {n:Nat} {vs old:Array Value} (ha:jhz P w i zv u x n vs) (base:Option Addr) (sLen sCap:Nat) (hroom:¬ sLen+n<=sCap) (hc:sLen<=sCap)
  (h47:(sLen+n) * i.bytes<=140737488355328) (h63:sLen+n<=9223372036854775807) (hold:(Builtin.firstCells i.size sLen (.slice base sLen sCap)).run P w.drew=.ok old w.drew)
  {C:Nat} (hC:(Question.appendCap (sLen+n) sCap e).cut (w.tape w.drawn (.appendCap (sLen+n) sCap e))=C) :
  (Builtin.append_ (t :: u :: l).toArray ty #[.slice base sLen sCap,x]).run P w =
   .ok (.slice (some ⟨w.heap.size,0,none⟩) (sLen+n) C) (w.drew.alloc (.cells (old ++ vs ++ Builtin.zeroCells zv.cells (C - (sLen+n))) e)):=by
 have hfit:Builtin.nextslicecap (sLen+n) sCap * i.bytes<=281474976710656:=growslice_fits om h47;have hfit':¬ 281474976710656<Builtin.nextslicecap (sLen+n) sCap * i.bytes:=om
 have h63':¬ (9223372036854775807<((sLen:Int)+(n:Int))):=om
 rcases ha with ⟨d,hd,hnd,hlen,_,hf⟩|⟨k,kk,hd,rfl,hn63,h48,rfl⟩
 .rcases hnd with rfl|⟨e',rfl⟩
  all_goals
   simp[Builtin.append_,run_underlying ht,run_underlying hd,Go.sizeOf,typeInfo,zeroValue,hi,hz,hlen,hroom,h63',hfit',Question.forced,hf,hold,Go.newRow,hC]
 .have hw:IntKind.i64.wrap (n:Int)=n:=by rw[IntKind.wrap_i64];omega
  have h48':¬ (281474976710656:Int)<(n:Int) * (i.bytes:Int):=by
   have:((n * i.bytes:Nat):Int)<=281474976710656:=Int.ofNat_le.2 h48;rw[Int.natCast_mul] at this;omega
  have hneg:¬ (n:Int)<0:=om
  by_cases h0:n * i.size=0
  .simp[Builtin.append_,run_underlying ht,run_underlying hd,Go.sizeOf,typeInfo,zeroValue,hi,hz,asInt,asIntOf,hw,hneg,h48',hroom,h63',hfit',Question.forced,hold,Go.newRow,hC,h0]
  .simp[Builtin.append_,run_underlying ht,run_underlying hd,Go.sizeOf,typeInfo,zeroValue,hi,hz,asInt,asIntOf,hw,hneg,h48',hroom,h63',hfit',Question.forced,hold,Go.newRow,hC,h0]
end
section
variable {P:Program} {ι:Inj} {w:World} {st:St}
variable {ρ:Operand->Value} {op:Operand->OF} {env:Env} {o:Oper}
def Inj.kill (ι:Inj)(b:Nat):Inj:=⟨λc=>if c=b then .dead else ι c,ι.g⟩
theorem Le.kill (ι:Inj)(b:Nat):Le ι (ι.kill b):=⟨λc hc=>by
 by_cases h:c=b
 .right;simp[Inj.kill,h]
 .left;simp[Inj.kill,h],λ_ _ h=>h⟩
theorem vv {ι:Inj}{b c B S:Nat}(h:(ι.kill b) c=.at B S):ι c=.at B S/\c≠b:=by
 by_cases hc:c=b
 .simp[Inj.kill,hc] at h
 .exact⟨by simpa[Inj.kill,hc] using h,hc⟩
theorem Sim.kill {nx:Nat}{h:T AO}(k:Sim ι h nx w){b:Nat}(hb:b<nx):Sim (ι.kill b) ((j2 (jK b)).run .dead h) nx w/\Grew ι w (ι.kill b) w:=by
 have gr:Grew ι w (ι.kill b) w:=⟨rfl,rfl,rfl,η _,λ_ _ _=>rfl,λc B S e=>.inl ⟨c,S,(vv e).1⟩,λ_ _ h=>.inl h⟩;refine⟨⟨?_,?_,?_,?_,k.glob.grew gr⟩,gr⟩
 .intro c B S e;obtain⟨e1,hc⟩:=vv e;obtain⟨o',x',h1,h2,h3⟩:=k.obj c B S e1;exact⟨o',x',by rw[jW,if_neg hc];exact h1,h2,OR.mono (Le.kill ι b) _ _ h3⟩
 .intro c e o' ho;by_cases hc:c=b
  .rw[jW,if_pos hc] at ho;cases ho;rfl
  .rw[jW,if_neg hc] at ho;exact k.gone c (by simpa[Inj.kill,hc] using e) o' ho
 .intro c c' B S S' e e';exact k.inj c c' B S S' (vv e).1 (vv e').1
 .intro c e;by_cases hc:c=b
  .rw[hc];exact hb
  .exact k.born c (by simpa[Inj.kill,hc] using e)
theorem Cleanly.kill {ι:Inj}{st:St}{b:Nat}(hb:ι b≠.unborn)(hlt:b<st.nx):Cleanly ι (ι.kill b) st ⟨st.nx,(j2 (jK b)).run .dead st.h,min st.dirty b,st.fr⟩:=by
 have h:=Cleanly.put ι st b .dead hlt;refine⟨h.nx,h.dirty,h.keep,h.above,λc _ hu=>?_,λc hu=>?_,λc h1 h2=>absurd h2 (Nat.not_lt.2 h1)⟩
 .have:c≠b:=λe=>hb (by rw[<-e];exact hu);simp only[Inj.kill,if_neg this];exact hu
 .simp only[Inj.kill];split<;>simp_all
theorem Sim.adopt {nx:Nat}{h:T AO}{w':World}(k:Sim ι h nx w){B S:Nat}(hfree:∀ c S',ι c≠.at B S')(hlt:B<w.heap.size)(o:AO)(x:Obj)(hx:OR (ι.add nx B S) S o x)
  (hB:w'.heap[B]? = some x) (hne:∀ j,j≠B->w'.heap[j]? = w.heap[j]?) (hgl:Gl (ι.add nx B S) w') :
  Sim (ι.add nx B S) ((j2 (jK nx)).run o h) (nx+1) w':=by
 have le:=Le.add (ι:=ι) k.born B S;refine⟨?_,?_,?_,?_,hgl⟩
 .intro b B' T e;by_cases hb:b=nx
  .subst hb;simp only[Inj.add,if_true] at e;cases e;exact⟨o,x,by rw[jW,if_pos rfl],hB,hx⟩
  .have e':ι b=.at B' T:=by simpa[Inj.add,hb] using e
   obtain⟨o',x',h1,h2,h3⟩:=k.obj b B' T e';have:B'≠B:=λe=>hfree b T (by rw[<-e];exact e');exact⟨o',x',by rw[jW,if_neg hb];exact h1,by rw[hne B' this];exact h2,OR.mono le _ _ h3⟩
 .intro b e o' ho;by_cases hb:b=nx
  .subst hb;simp[Inj.add] at e
  .have e':ι b=.dead:=by simpa[Inj.add,hb] using e
   rw[jW,if_neg hb] at ho;exact k.gone b e' o' ho
 .intro b c B' S1 S2 e1 e2;by_cases hb:b=nx<;>by_cases hc:c=nx
  .rw[hb,hc]
  .subst hb;simp only[Inj.add,if_true] at e1;cases e1;exact absurd (by simpa[Inj.add,hc] using e2:ι c=.at B S2) (hfree c S2)
  .subst hc;simp only[Inj.add,if_true] at e2;cases e2;exact absurd (by simpa[Inj.add,hb] using e1:ι b=.at B S1) (hfree b S1)
  .exact k.inj b c B' S1 S2 (by simpa[Inj.add,hb] using e1) (by simpa[Inj.add,hc] using e2)
 .intro b e;by_cases hb:b=nx
  .omega
  .have:=k.born b (by simpa[Inj.add,hb] using e);omega
theorem jd2 {cells:List AV}{vs rest:List Value}(h:VRs ι cells vs)(hc:cells.all AV.cell=true)(elem:TypeId){S:Nat}(hS:S=vs.length+rest.length)
  {n zl:Nat} {z:List AV} {cs:T AV} (hn:n=cells.length) (hcell:∀ i,i<n->qD zl z cs i=cells.getD i .bad) :
  OR ι S (.row n zl z cs) (.cells (vs.toArray ++ rest.toArray) elem (0,0)):=by
 simp only[OR];have hl:=h.length;refine⟨_,elem,0,0,rfl,by simp[hS],om,om,λi hi=>?_⟩;have hi':i<cells.length:=om
 rw[hcell i hi];refine⟨uf hc hi',vs.getD i undef,?_,h.get i hi'⟩;have:i<vs.length:=om
 rw[Array.getElem?_append_left (by simpa using this)];simp[Qaf,Qad this]
theorem jmT {cells:List AV}{vs rest:List Value}(h:VRs ι cells vs)(hc:cells.all AV.cell=true)(elem:TypeId){S:Nat}(hS:S=vs.length+rest.length) :
  OR ι S (.row cells.length cells.length cells .e) (.cells (vs.toArray ++ rest.toArray) elem (0,0)):=
 jd2 h hc elem hS rfl λi hi=>by rw[yP,XM,Qby hi];rfl
theorem Res.after {ι1:Inj}{st1:St}{r:ER}{res:Result Next}(hp:∀ v s,r≠.pn v s)(hl:Le ι ι1)(hg:Grew ι w ι1 w)(hc:Cleanly ι ι1 st st1)(hf:st1.fr=st.fr)(h:Res ι1 w st1 r res):Res ι w st r res:=by
 cases r with
 |no=>trivial
 |ok v st'=>
  obtain⟨ι',x,w',h1,h2,h3,h4,h5,h6,h7⟩:=h;exact⟨ι',x,w',h1,hl.trans h2,h3,h4,hg.trans h5,hc.trans h6,h7.trans hf⟩
 |pn v s=>exact absurd rfl (hp v s)
theorem Ze (z:Array Value)(n:Nat):(Builtin.zeroCells z n).size=n * z.size:=by simp[Builtin.zeroCells]
theorem KD (k:Sim ι st.h st.nx w){cells:List AV}{vs:Array Value}{zs:Array Value}{e:TypeId}{need C size:Nat}{res:Result Next}(hvs:VRs ι cells vs.toList)(hall:cells.all AV.cell=true)
  (hlen:cells.length=need * size) (hzs:zs.size=size) (hC:need<=C)
  (hr:res=.ok (.value (.slice (some ⟨w.heap.size,0,none⟩) need C)) (w.drew.alloc (.cells (vs ++ Builtin.zeroCells zs (C - need)) e))) :
  Res ι w st (.ok (.slice st.nx 0 need need size false) ⟨st.nx+1,(j2 (jK st.nx)).run (.row cells.length cells.length cells .e) st.h,st.dirty,st.fr⟩) res:=by
 refine Res.drew (λ_ _ h=>by cases h) ?_;have hl:=hvs.length;rw[Qan] at hl;have hS:C * size=vs.toList.length+(Builtin.zeroCells zs (C - need)).toList.length:=by
  rw[Qan,Qan,Ze,hl,hlen,hzs,<-QaJ]
  congr 1
  omega
 refine Res.alloc (w:=w.drew) k.drew (S:=C * size) (x:=.cells (vs ++ Builtin.zeroCells zs (C - need)) e) ?_
  (Ql ι _ _ _ need C size need false (η _) hC (λh=>by cases h) (λ_=>η _)) hr
 have le:=Le.add (ι:=ι) k.born w.drew.heap.size (C * size);have:=jmT (rest:=(Builtin.zeroCells zs (C - need)).toList) (VRs.mono le _ _ hvs) hall e hS;simpa using this
theorem UM {t e u ty:TypeId}{l:List TypeId}{i:TypeInfo}{zv:Value}(ht:P.underlying t=some (.slice e))(hi:P.info? e=some i)(hz:i.zero=some zv)(hzs:zv.cells.size=i.size)
  (k:Sim ι st.h st.nx w) {s:AV} {sv x:Value} (hs:VR ι s sv) {n:Nat} {news:List AV} {vs:Array Value} (ha:jhz P w i zv u x n vs) (hvs:VRs ι news vs.toList) (hall:news.all AV.cell=true) :
  Res ι w st (qO st i.size i.bytes s n news) (((Builtin.append_ (t :: u :: l).toArray ty #[sv,x]).run P w).andThen λv w'=>.ok (.value v) w'):=by
 unfold qO;refine jQ λhlen=>?_;rw[qJ,jO] at hlen;have hlen':news.length=n * i.size:=hlen;split<;>try trivial
 ·
  simp only[VR] at hs;subst hs;refine Xq (λh0=>?_) (λh0=>?_)
  .rw[qJ] at h0;subst h0;refine Res.val k (x:=.slice none 0 0) ?_ (by simp only[VR]);rw[Zb ht hi hz ha none 0 0 (η _)];simp
  .have h0':n≠0:=λe=>by rw[<-qJ,h0] at e;cases e
   refine jQ λh1=>jQ λh2=>?_;rw[qi] at h1 h2;have h1':n * i.bytes<=140737488355328:=h1;rw[jF,St.alloc_eq];have hC:n<=(Question.appendCap (0+n) 0 e).cut (w.tape w.drawn (.appendCap (0+n) 0 e)):=by have:=Y6 (0+n) 0 e (w.tape w.drawn (.appendCap (0+n) 0 e));omega
   have:=Wf (ty:=ty) (l:=l) ht hi hz ha none 0 0 om (η _) (by rw[Qaj];exact h1') om (old:=#[]) (by simp[Builtin.firstCells]) rfl;have hg:=KD (size:=i.size) (e:=e) k hvs hall hlen' hzs hC (res:=_) rfl;rw[hlen'] at hg;rw[this];simpa using hg
 .rename_i b off sl cap sz ex;have hs0:=hs;simp only[VR] at hs;obtain⟨hb,hlc,ad,C,rfl,hC,hex,had⟩:=hs;rw[jF];refine Vb λm zl zz cs hg=>?_;obtain⟨B,S,c,elem,lo,hi',e1,hw,hcs,hmS,hfr,hcell⟩:=k.row hb hg;obtain⟨had1,had2⟩:=had B S e1;refine Xq (λhroom=>?_) (λhroom=>?_)
  ·
   rw[qi] at hroom;have hroom':sl+n<=cap:=hroom;refine Xq (λh0=>?_) (λh0=>?_)
   .rw[qJ] at h0;subst h0;refine Res.val k (x:=.slice (some ad) sl C) ?_ hs0;have hv0:vs = #[]:=by
     have:=hvs.length;rw[hlen',QaV] at this;exact Array.toList_eq_nil_iff.1 (Qbi this)
    rw[Zb ht hi hz ha (some ad) sl C om];simp[hv0,storeCells]
   .have h0':n≠0:=λe=>by rw[<-qJ,h0] at e;cases e
    refine jQ λh1=>?_;rw[qi] at h1;have h1':off+(sl+n) * i.size<=m:=h1;rw[St.put_eq];have had1':ad=⟨B,off,none⟩:=by
     rcases had1 with h|h
     .omega
     .exact h
    have hsum:(sl+n) * i.size=sl * i.size+n * i.size:=QaJ _ _ _;obtain⟨w',hr,hs',hf'⟩:=Kl (P:=P) (o:=off+sl * i.size) k hb hg e1 hvs hall om;refine⟨ι,.slice (some ad) (sl+n) C,w',.inl ?_,Le.refl ι,?_,hs',hf',Cleanly.put ι st b _ (k.born b hb),rfl⟩
    .rw[Zb ht hi hz ha (some ad) sl C om];simp only[had1',yF];rw[hr];simp
    .simp only[VR];refine⟨hb,hroom',ad,C,rfl,hC,hex,λB' S' e2=>?_⟩;rw[e1] at e2;cases e2;exact⟨had1,had2⟩
  .have hroom':¬ sl+n<=cap:=λh=>by
    have:QcC (QcD sl n) cap=true:=by rw[qi];exact h
    rw[this] at hroom;cases hroom
   refine jQ λh47=>jQ λh63=>?_;rw[qi] at h47 h63;have h47':(sl+n) * i.bytes<=140737488355328:=h47;have h63':sl+n<=9223372036854775807:=h63;have growth:∀ (kk:Sim ι st.h st.nx w),¬ sl+n<=C->off+sl * i.size<=m->
     ∃ olds:List Value,VRs ι (jR zl zz cs (sl * i.size) off) olds/\(jR zl zz cs (sl * i.size) off).all AV.cell=true/\(jR zl zz cs (sl * i.size) off).length=sl * i.size /\
      ((Builtin.append_ (t :: u :: l).toArray ty #[.slice (some ad) sl C,x]).run P w).andThen (λv w'=>.ok (.value v) w') =
       .ok (Next.value (.slice (some ⟨w.heap.size,0,none⟩) (sl+n) ((Question.appendCap (sl+n) C e).cut (w.tape w.drawn (.appendCap (sl+n) C e)))))
        (w.drew.alloc (.cells ((olds.toArray ++ vs) ++ Builtin.zeroCells zv.cells ((Question.appendCap (sl+n) C e).cut (w.tape w.drawn (.appendCap (sl+n) C e)) - (sl+n))) e)):=by
    intro _ hno hle;obtain⟨olds,hrun,hol,hlo,_⟩:=uR (P:=P) (w:=w.drew) k.drew hb hg e1 hle;obtain⟨hall',hlen''⟩:=QH k hb hg hle;refine⟨olds,hol,hall',hlen'',?_⟩;have hold:(Builtin.firstCells i.size sl (.slice (some ad) sl C)).run P w.drew=.ok olds.toArray w.drew:=by
     rcases had1 with h|h
     .have:sl=0:=om
      subst this;have h2:olds=[]:=by rw[QaV] at hlo;exact Qbi hlo
      subst h2;simp[Builtin.firstCells,loadCells,loadCellsFrom]
     .rw[h];simpa[Builtin.firstCells] using hrun
    have:=Wf (ty:=ty) (l:=l) ht hi hz ha (some ad) sl C hno om h47' h63' hold rfl;rw[this];simp
   cases ex
   ·
    simp only[cond];refine jQ λhsz=>jQ λho0=>jQ λhm=>?_;rw[qJ] at hsz ho0 hm;subst hsz;subst ho0;have hm':sl * i.size=m:=hm;have hbn:b<st.nx:=k.born b hb;obtain⟨k1,g1⟩:=k.kill hbn;rw[St.put_eq,jF,St.alloc_eq];have hnew:∀ j,j<(sl+n) * i.size->qD zl zz (qk news cs m) j=if j<m then qD zl zz cs j else news.getD (j - m) .bad:=by
     intro j hj;rw[yU];have hsum:(sl+n) * i.size=sl * i.size+n * i.size:=QaJ _ _ _;by_cases hjm:j<m
     .rw[if_pos hjm,if_neg om]
     .rw[if_neg hjm,if_pos om]
    by_cases hroomC:sl+n<=C
    .have had1':ad=⟨B,0,none⟩:=by
      rcases had1 with h|h
      .omega
      .exact h
     have hS:=had2 rfl;have hle2:(sl+n) * i.size<=C * i.size:=QaA _ hroomC;have hsum:(sl+n) * i.size=sl * i.size+n * i.size:=QaJ _ _ _;have hvl:=hvs.length;have h1:∀ v∈vs.toList,v.oneCell'=true:=by
      intro v hv;obtain⟨q,hq,rfl⟩:=Qbm.1 hv;have:=hvs.get q om;have h3:=VR.cell (uf hall om) this;simpa[Qaf,Qad hq] using h3
     obtain⟨w',c',hr,hB',hs',hc',hne,hos,htp,hou,hsz'⟩:=Zl (P:=P) (o:=sl * i.size) vs.toList 0 w c hw om om h1;have hfree:∀ c S',(ι.kill b) c≠.at B S':=λc2 S' e2=>by
      obtain⟨e3,e4⟩:=vv e2;exact e4 (k.inj c2 b B S' S e3 e1)
     have le:=(Le.kill ι b).trans (Le.add (ι:=ι.kill b) k1.born B S);have gr:Grew ι w ((ι.kill b).add st.nx B S) w':=by
      refine⟨hos,htp,hou,om,λj _ hn=>hne j (λej=>hn b S (by rw[ej];exact e1)),λc2 B2 S2 e2=>?_,λ_ _ h=>.inl h⟩;by_cases hc2:c2=st.nx
      .subst hc2;rw[Yw] at e2;cases e2;exact .inl ⟨b,S,e1⟩
      .have:(ι.kill b) c2=.at B2 S2:=by simpa[Inj.add,hc2] using e2
       exact .inl ⟨c2,S2,(vv this).1⟩
     have hsim:=k1.adopt (w':=w') (S:=S) hfree (k.lt e1) (.row ((sl+n) * i.size) zl zz (qk news cs m)) (.cells c' elem (lo,hi')) (by
      simp only[OR];refine⟨c',elem,lo,hi',rfl,om,om,om,λj hj=>?_⟩;rw[hnew j hj,hc' j];by_cases hjm:j<m
      .rw[if_pos hjm,if_neg om];obtain⟨q1,v,q2,q3⟩:=hcell j hjm;exact⟨q1,v,q2,VR.mono le _ _ q3⟩
      .rw[if_neg hjm,if_pos om];refine⟨uf hall om,vs.toList.getD (j - m) undef,?_,VR.mono le _ _ (hvs.get (j - m) om)⟩;have:j - m<vs.toList.length:=om
       rw[show j - (sl * i.size+0)=j - m by omega];simp[Qaf,Qad this]) hB' hne (k.glob.grew gr)
     refine⟨(ι.kill b).add st.nx B S,.slice (some ad) (sl+n) C,w',.inl ?_,le,?_,hsim,?_,(Cleanly.kill hb hbn).trans (Cleanly.alloc (ι.kill b) ⟨st.nx,(j2 (jK b)).run .dead st.h,min st.dirty b,st.fr⟩ _ B S),rfl⟩
     .rw[Zb ht hi hz ha (some ad) sl C hroomC];simp only[had1',yF,Qaj];rw[hr];simp
     .rw[had1'];exact Ql (ι.kill b) st.nx B S (sl+n) C i.size (sl+n) false (η _) hroomC (λh=>by cases h) (λ_=>by omega)
     .exact gr
    .obtain⟨olds,hol,hall',hlen'',hrun⟩:=growth k hroomC om;rw[hrun];refine Res.after (λ_ _ h=>by cases h) (Le.kill ι b) g1 (Cleanly.kill hb hbn) rfl ?_;refine Res.drew (λ_ _ h=>by cases h) ?_;have le:=Le.kill ι b;have hCC:=Y6 (sl+n) C e (w.tape w.drawn (.appendCap (sl+n) C e));generalize (Question.appendCap (sl+n) C e).cut (w.tape w.drawn (.appendCap (sl+n) C e))=D at hCC hrun ⊢;have hvl:=hvs.length;have hol':=hol.length;have hsum:(sl+n) * i.size=sl * i.size+n * i.size:=QaJ _ _ _;have hS:D * i.size=(olds ++ vs.toList).length+(Builtin.zeroCells zv.cells (D - (sl+n))).toList.length:=by
      rw[υ,Qan (xs:=Builtin.zeroCells zv.cells (D - (sl+n))),Ze,hol',hvl,hlen'',hlen',hzs,<-QaJ,<-QaJ]
      congr 1
      omega
     have le2:=Le.add (ι:=ι.kill b) k1.born w.drew.heap.size (D * i.size);refine Res.alloc (w:=w.drew) (st:=⟨st.nx,_,_,st.fr⟩) k1.drew (S:=D * i.size) (x:=.cells ((olds.toArray ++ vs) ++ Builtin.zeroCells zv.cells (D - (sl+n))) e) ?_
      (Ql (ι.kill b) _ _ _ (sl+n) D i.size (sl+n) false (η _) hCC (λh=>by cases h) (λ_=>η _)) rfl
     have hcells:VRs ((ι.kill b).add st.nx w.drew.heap.size (D * i.size)) (jR zl zz cs (sl * i.size) 0 ++ news) (olds ++ vs.toList):=VRs.mono (le.trans le2) _ _ (hol.append hvs);have:=jd2 (rest:=(Builtin.zeroCells zv.cells (D - (sl+n))).toList) hcells (by rw[QaN,hall',hall];rfl) e hS (n:=(sl+n) * i.size) (zl:=zl) (z:=zz) (cs:=qk news cs m)
      (by rw[υ,hlen'',hlen',hsum]) (λj hj=>by
       rw[hnew j hj];by_cases hjm:j<m
       .rw[if_pos hjm];simp only[qm,Qaj,Qaf];rw[Qbt hae];simp[show j<sl * i.size by omega]
       .rw[if_neg hjm];simp only[Qaf];rw[QbK (by rw[hlen''];omega),hlen'',hm'])
     have e2:(olds ++ vs.toList).toArray=olds.toArray ++ vs:=by apply Array.ext';simp
     rw[e2] at this;simpa using this
   .simp only[cond];have hCe:=hex hac;subst hCe;rw[jF];refine jQ λhle=>?_;rw[qi] at hle;have hle':off+sl * i.size<=m:=hle;rw[jF,St.alloc_eq];obtain⟨olds,hol,hall',hlen'',hrun⟩:=growth k hroom' hle';rw[hrun];have hl3:(jR zl zz cs (sl * i.size) off ++ news).length=(sl+n) * i.size:=by rw[υ,hlen'',hlen',QaJ]
    have hg2:=KD (w:=w) (size:=i.size) (e:=e) k (cells:=jR zl zz cs (sl * i.size) off ++ news) (vs:=olds.toArray ++ vs) (zs:=zv.cells) (need:=sl+n)
     (by simpa using hol.append hvs) (by rw[QaN,hall',hall];rfl) hl3 hzs (Y6 (sl+n) C e (w.tape w.drawn (.appendCap (sl+n) C e))) rfl
    rw[hl3] at hg2;rw[yu];exact hg2
 ·
  rename_i sl cs;simp only[VR] at hs;obtain⟨p,rfl,e0,hl⟩:=hs;refine Xq (λ_=>trivial) (λh0=>?_);have h0':n≠0:=λe=>by rw[<-qJ,h0] at e;cases e
  rw[jF];refine jQ λh1=>jQ λh2=>jQ λh3=>?_;rw[qi] at h1 h2 h3;rw[jO] at h3;have h1':(sl+n) * i.bytes<=140737488355328:=h1;have h2':sl+n<=9223372036854775807:=h2;have h3':sl * i.size<=cs.length:=h3;rw[jF,St.alloc_eq,yu,qX];have hold:∃ olds:List Value,VRs ι (cs.take (sl * i.size)) olds/\(Builtin.firstCells i.size sl (.slice p sl sl)).run P w.drew=.ok olds.toArray w.drew:=by
   rcases Nat.eq_zero_or_pos sl with h4|h4
   .subst h4;refine⟨[],by rw[QaV,QaG];simp[VRs],?_⟩;cases p<;>simp[Builtin.firstCells,loadCells,loadCellsFrom]
   .obtain⟨B,o,vs',rfl,e2,e3,e4⟩:=hl h4;clear hl;have hr2:=Vs (P:=P) (o:=o) (n:=sl * i.size) (k.drew.glob.2 B vs' e2) om;refine⟨_,?_,by simpa[Builtin.firstCells] using hr2⟩;have:=e4.back.take (sl * i.size);rw[QbT,Qbx h3'] at this;exact this
  obtain⟨olds,hol,hrun⟩:=hold;have hC:=Y6 (sl+n) sl e (w.tape w.drawn (.appendCap (sl+n) sl e));have hg:=Wf (ty:=ty) (l:=l) ht hi hz ha p sl sl om (η _) h1' h2' hrun rfl;have hlen2:(cs.take (sl * i.size) ++ news).length=(sl+n) * i.size:=by
   rw[υ,Qas,hlen',Qbx h3',QaJ]
  have h9:=KD (size:=i.size) (e:=e) k (cells:=cs.take (sl * i.size) ++ news) (vs:=olds.toArray ++ vs) (by simpa using hol.append hvs) (by rw[QaN,VK e0,hall];rfl) hlen2 hzs hC (res:=_) rfl;rw[hlen2] at h9;rw[hg];simpa using h9
end
section
variable {P:Program} {ι:Inj} {w:World} {st:St}
variable {ρ:Operand->Value} {op:Operand->OF} {env:Env} {o:Oper}
theorem gD {z:List AV}(h:z.all AV.cell=true):∀ n,(qP z n).all AV.cell=true
 |0=>rfl
 |n+1=>by
  show(yN z (qP z n)).all AV.cell=true;rw[yu,QaN,h,gD h n];rfl
theorem jhs {t u ty:TypeId}{l:List TypeId}{s x:Operand}(k:Sim ι st.h st.nx w)(hs:VR ι ((op s).run env) (ρ s))(hx:VR ι ((op x).run env) (ρ x)) :
  Res ι w st ((QR P t u (op s) (op x)).run env st) (((Builtin.append_ (t :: u :: l).toArray ty #[ρ s,ρ x]).run P w).andThen λv w'=>.ok (.value v) w'):=by
 unfold QR;split<;>try trivial
 rename_i e he;have ht:=kR he;split<;>try trivial
 rename_i i z hi hz;obtain⟨i',zv,hi',hzv,hr⟩:=vg hz ι;rw[hi] at hi';cases hi';generalize hcc:cond (lall AV.cell z) (QcA (jP z) i.size) false=cc;cases cc<;>try trivial
 have hcell:z.all AV.cell=true/\z.length=i.size:=by
  cases hh:lall AV.cell z
  .rw[hh] at hcc;cases hcc
  .rw[hh] at hcc;simp only[cond] at hcc;rw[qJ,jO] at hcc;rw[Wu] at hh;exact⟨hh,hcc⟩
 have hzs:zv.cells.size=i.size:=by have:=hr.length;rw[Qan] at this;omega
 simp only[cond];split<;>try trivial
 .rename_i k0 hu;refine zK hx λkk n hn=>jQ λh1=>jQ λh2=>?_;rw[qi] at h1 h2;have hrep:VRs ι (qP z n) (Builtin.zeroCells zv.cells n).toList:=by
   have:Builtin.zeroCells zv.cells n=madeCells zv.cells (n * zv.cells.size):=rfl;rw[this,jcF];exact Ub hr n
  refine UM ht hi hzv hzs k hs (vs:=if n * i.size=0 then #[] else Builtin.zeroCells zv.cells n) (.inr ⟨k0,kk,hu,hn,h2,h1,rfl⟩) ?_ (gD hcell.1 n);by_cases h0:n * i.size=0
  .rw[if_pos h0];have h3:=hrep.length;rw[Qan,Ze,hzs,h0] at h3;have h4:qP z n=[]:=Qbi h3.symm;rw[h4];simp[VRs]
  .rw[if_neg h0];exact hrep
 .rename_i e' hu;refine Kw (P:=P) hx λn hn=>wn (P:=P) k hx ⟨n,hn w,η _⟩ λcells vs hf hf' hvs hall _=>?_;exact UM ht hi hzv hzs k hs (.inl ⟨_,hu,.inr ⟨_,rfl⟩,hn,hf,hf'⟩) hvs hall
 .rename_i hu;refine Kw (P:=P) hx λn hn=>wn (P:=P) k hx ⟨n,hn w,η _⟩ λcells vs hf hf' hvs hall _=>?_;exact UM ht hi hzv hzs k hs (.inl ⟨_,hu,.inl rfl,hn,hf,hf'⟩) hvs hall
def jbv (b:Builtin):Bool:=match b with | .recover=>false|_=>true
theorem jn6 (x:Operand)(l:List Operand)(hx:∀ y∈l,VR ι ((op y).run env) (ρ y)):VRs ι (yj (λx:OF=>x.run env) (l.map op)) (l.map ρ):=by
 rw[yG,Qbc];exact VRs.map_of l hx
theorem jhk {b:Builtin}(hb:jbv b=true){ts:Array TypeId}{ty:TypeId}{cs:Array Bool}{args:Array Operand}(k:Sim ι st.h st.nx w)(hx:∀ x∈args.toList,VR ι ((op x).run env) (ρ x)) :
  Res ι w st ((qF P b ts (yj op args.toList)).run env st) ((Go.builtin b ts ty cs (args.map ρ)).run P w):=by
 rw[yG];obtain⟨args⟩:=args;obtain⟨ts⟩:=ts;simp only at hx;unfold qF;split
 all_goals try trivial
 .rename_i x t _ heq ht
  match args,heq with
  |[y],heq=>
   simp only[ζ,θ,List.cons.injEq,and_true] at heq;subst heq;simp only at ht;subst ht;simp only[Go.builtin,Sem.run_bind,Sem.run_pure,QbL,ζ,θ];exact jsl k (hx y hac)
 .rename_i x t _ heq ht
  match args,heq with
  |[y],heq=>
   simp only[ζ,θ,List.cons.injEq,and_true] at heq;subst heq;simp only at ht;subst ht;simp only[Go.builtin,Sem.run_bind,Sem.run_pure,QbL,ζ,θ];exact jtf k (hx y hac)
 .rename_i s x t u _ heq ht
  match args,heq with
  |[y,y'],heq=>
   simp only[ζ,θ,List.cons.injEq,and_true] at heq;obtain⟨rfl,rfl⟩:=heq;simp only at ht;subst ht;simp only[Go.builtin,Sem.run_bind,Sem.run_pure,QbL,ζ,θ];exact jhs k (hx y hac) (hx y' hac)
 .rename_i d x t _ heq ht
  match args,heq with
  |[y,y'],heq=>
   simp only[ζ,θ,List.cons.injEq,and_true] at heq;obtain⟨rfl,rfl⟩:=heq;simp only at ht;subst ht;simp only[Go.builtin,Sem.run_bind,Sem.run_pure,QbL,ζ,θ];exact jpn k (hx y hac) (hx y' hac)
 .rename_i x l heq
  match args,heq with
  |y :: l',heq=>
   simp only[ζ,List.cons.injEq] at heq;obtain⟨rfl,rfl⟩:=heq;refine qY λv hv=>?_;obtain⟨r,h1,h2⟩:=HE (P:=P) (w:=w) (f:=Ev.min2) (g:=Builtin.min2) (λx y z u v=>jo0) _ _ _ _ _ (hx y hac) (jn6 (env:=env) (op:=op) (ρ:=ρ) y l' (λq hq=>hx q (by simp[hq]))) hv;refine Res.val k (x:=r) ?_ h2;simp only[Go.builtin,Sem.run_bind,Sem.run_pure,QbL,ζ,Builtin.min_,h1,Result.andThen_ok]
 .rename_i x l heq
  match args,heq with
  |y :: l',heq=>
   simp only[ζ,List.cons.injEq] at heq;obtain⟨rfl,rfl⟩:=heq;refine qY λv hv=>?_;obtain⟨r,h1,h2⟩:=HE (P:=P) (w:=w) (f:=Ev.max2) (g:=Builtin.max2) (λx y z u v=>jo3) _ _ _ _ _ (hx y hac) (jn6 (env:=env) (op:=op) (ρ:=ρ) y l' (λq hq=>hx q (by simp[hq]))) hv;refine Res.val k (x:=r) ?_ h2;simp only[Go.builtin,Sem.run_bind,Sem.run_pure,QbL,ζ,Builtin.max_,h1,Result.andThen_ok]
def ug (o:Op):Bool:=
 match o with
 |.defer _=>false
 |.call c=>match c.callee with
  |.builtin b=>jbv b
  |_=>false
 |_=>true
theorem jff (hc:ug o.op=true)(k:Sim ι st.h st.nx w)(hx:∀ x∈o.op.operands.toList,VR ι ((op x).run env) (ρ x)) :
  Res ι w st ((jy P op o.op).run env st) ((execOp ρ o).run P w):=by
 cases ho:o.op<;>rw[ho] at hc hx<;>simp only[Op.operands] at hx;case move x=>exact jaO (.inl ho) k (hx x hac)
 case assign x=>exact jaO (.inr ho) k (hx x hac)
 case pick c a b=>exact jju ho k (hx c hac) (hx a hac) (hx b hac)
 case alloc t=>exact jg4 ho k
 case box t x=>exact jmu ho k (hx x hac)
 case build t ps=>exact jg2 ho k (λp hp=>hx p.2 (by simp;exact⟨p.1,by simpa using hp⟩))
 case buildSlice t n ps=>exact Gv ho k (λp hp=>hx p.2 (by simp;exact⟨p.1,by simpa using hp⟩))
 case load t a=>exact jjw ho k (hx a hac)
 case store t a x=>exact jgW ho k (hx a hac) (hx x hac)
 case nilCheck x=>exact ja6 ho k (hx x hac)
 case binOp b t x y s=>exact jg3 ho k (hx x hac) (hx y hac)
 case unOp b t x=>exact jjt ho k (hx x hac)
 case convert s d x=>exact jdp ho k (hx x hac)
 case makeInterface t x=>exact Ur ho k (hx x hac)
 case makeFunc f first caps=>
  cases f<;>try trivial
  exact ja7 ho k (λx hxm=>hx x (by simp;right;exact hxm))
 case makeMap t r=>
  cases r<;>try trivial
  exact jdn ho k
 case makeSlice t l c=>exact HI ho k (hx l hac) (hx c hac)
 case slice t x lo hi mx=>exact jgX ho k (hx x hac) (λa ha=>hx a (by simp[ha])) (λa ha=>hx a (by simp[ha])) (λa ha=>hx a (by simp[ha]))
 case fieldAddr s x f=>exact HK ho k (hx x hac)
 case field s x f=>exact jg1 ho k (hx x hac)
 case indexAddr t x i=>exact HJ ho k (hx x hac) (hx i hac)
 case index t x i=>exact jg0 ho k (hx x hac) (hx i hac)
 case lookup t m x ok=>exact jec ho k (hx m hac) (hx x hac)
 case mapUpdate t m x y=>exact HH ho k (hx m hac) (hx x hac) (hx y hac)
 case range t x=>exact jgY ho k (hx x hac)
 case next it s=>
  cases s<;>try trivial
  exact jjv ho k (hx it hac)
 case typeAssert x s t ok=>
  cases ok<;>try trivial
  exact Gu ho k (hx x hac)
 case panic x=>exact jgZ ho k (hx x hac)
 case extract x i=>exact jdo ho k (hx x hac)
 case call c=>
  simp only[ug] at hc;split at hc
  .rename_i b hb;have:(jy P op (.call c))=qF P b c.argTypes (yj op c.args.toList):=by simp only[jy,hb]
   rw[this,jdF ho hb];exact jhk hc k (λx hxm=>hx x (by simp[Call.operands,hb];simpa using hxm))
  .cases hc
 case defer c=>cases hc
 all_goals trivial
end
def zI (t:T AV)(x:Nat):AV:=((QX (jK x)).run t).getD qe
def idx (x:Nat):Lc->Option Nat
 |[]=>none
 |n :: ns=>if n=x then some 0 else(idx x ns).map (· + 1)
theorem jab (x:Nat):∀ (ns:Lc) (k:Nat),
  (List.rec (motive:=λ_=>(Nat->Option OF)) (λ_=>none) (λn _ ih i=>cond (QcA n x) (some ⟨λenv=>yt .bad env.rs i⟩) (ih (QcB i))) ns k:Option OF)
   = (idx x ns).map λi=>⟨λenv=>yt .bad env.rs (k+i)⟩
 |[],k=>rfl
 |n :: ns,k=>by
  show cond (QcA n x) _ _=_;simp only[idx];cases h:QcA n x
  .have:n≠x:=λe=>by rw[<-qJ,h] at e;cases e
   rw[if_neg this];refine(jab x ns (QcB k)).trans ?_;rw[Option.map_map]
   congr 1
   funext i
   simp only[Function.comp]
   congr 2
   funext env
   congr 1
   omega
  .rw[qJ] at h;rw[if_pos h];rfl
theorem Hm (x:Nat)(ns:Lc):jlX x ns=(idx x ns).map λi=>⟨λenv=>yt .bad env.rs i⟩:=by
 unfold jlX;rw[jab]
 congr 1
 funext i
 rw[Qaj]
def DRs (ι:Inj):List (FuncId×List AV)->List Deferred->Prop
 |[],l=>l=[]
 |p :: ps,l=>∃ cap dargs ds,l={ target:=.fn (.func p.1) cap,args:=dargs } :: ds/\VRs ι p.2 (dargs ++ cap).toList/\DRs ι ps ds
theorem DRs.mono {ι ι':Inj}(h:Le ι ι'):∀ (ps:List (FuncId×List AV)) (l:List Deferred),DRs ι ps l->DRs ι' ps l
 |[],_,k=>k
 |p :: ps,l,k=>by
  simp only[DRs] at k ⊢;obtain⟨cap,dargs,ds,rfl,h1,h2⟩:=k;exact⟨cap,dargs,ds,rfl,VRs.mono h _ _ h1,DRs.mono h ps ds h2⟩
structure Rel (ι:Inj)(U N:Nat)(t:T AV)(ns:Lc)(rs:List AV)(st:St)(a:Act)(w:World):Prop where
 sim:Sim ι st.h st.nx w
 size:N<=a.tmps.size
 env:∀ x,inU U x=true->idx x ns=none->VR ι (zI t x) (a.tmps.getD x undef)
 recs:∀ x i,idx x ns=some i->VR ι (rs.getD i .bad) (a.tmps.getD x undef)
 len:ns.length=rs.length
 ds:DRs ι st.fr a.defers
section
variable {P:Program} {ι:Inj} {w:World} {st:St} {U N:Nat} {t:T AV} {ns:Lc} {rs:List AV} {a:Act}
theorem Rel.opd (r:Rel ι U N t ns rs st a w)(x:Operand):VR ι ((jS U ns x).run ⟨t,rs⟩) (a.eval x):=by
 cases x with
 |tmp x=>
  simp only[jS,Hm];cases h:idx x ns with
  |some i=>
   simp only[Qau,zM];exact r.recs x i h
  |none=>
   simp only[Qbh];cases hu:inU U x
   .simp[VR]
   .have:=r.env x hu h;simp only[cond,zI] at this ⊢;cases hg:(QX (jK x)).run t<;>rw[hg] at this<;>exact this
 |const v=>exact WI ι v
 |global g=>simp[jS,VR]
 |func f=>simp only[jS,VR,Act.eval];exact⟨#[],rfl,by simp[VRs]⟩
theorem Rel.mono (r:Rel ι U N t ns rs st a w){ι':Inj}(h:Le ι ι'){st':St}{w':World}(hs:Sim ι' st'.h st'.nx w')(hf:st'.fr=st.fr):Rel ι' U N t ns rs st' a w':=
 ⟨hs,r.size,λx hu hx=>VR.mono h _ _ (r.env x hu hx),λx i hx=>VR.mono h _ _ (r.recs x i hx),r.len,by rw[hf];exact DRs.mono h _ _ r.ds⟩
theorem U7 (a:Act)(d:Nat)(v:Value)(x:Nat)(hd:d<a.tmps.size):(a.put (some d) v).tmps.getD x undef=if d=x then v else a.tmps.getD x undef:=by
 simp only[Act.put,QbZ,Array.getElem?_setIfInBounds];by_cases h:d=x
 .subst h;simp[hd]
 .simp[h]
theorem jcI (a:Act)(d:Option Nat)(v:Value):(a.put d v).tmps.size=a.tmps.size:=by
 cases d<;>simp[Act.put]
theorem gF (a:Act)(d:Option Nat)(v:Value):(a.put d v).defers=a.defers:=by cases d<;>rfl
theorem Rel.put (r:Rel ι U N t ns rs st a w){d:Option Nat}(hd:∀ x,d=some x->x<N){v:AV}{y:Value}(hv:VR ι v y) :
  Rel ι U N t (qA d ns) ((yQ d).run v rs) st (a.put d y) w:=by
 cases d with
 |none=>exact r
 |some d=>
  have hlt:d<a.tmps.size:=Qat (hd d rfl) r.size;refine⟨r.sim,by rw[jcI];exact r.size,λx hu hx=>?_,λx i hx=>?_,by simp[qA,yQ,r.len],by rw[gF];exact r.ds⟩
  .rw[U7 a d y x hlt];simp only[qA,idx] at hx;split at hx
   .cases hx
   .rename_i hne;rw[if_neg hne];exact r.env x hu (by simpa using hx)
  .rw[U7 a d y x hlt];simp only[qA,idx] at hx;split at hx
   .rename_i he;rw[if_pos he];simp only[Option.some.injEq] at hx;subst hx;exact hv
   .rename_i hne;rw[if_neg hne,QbA] at *;obtain⟨j,hj,rfl⟩:=hx;exact r.recs x j hj
theorem Uq (U:Nat):∀ (ns:Lc) (rs:List AV) (t:T AV),ns.length=rs.length->∀ x,inU U x=true->
  zI ((zY U ns).run rs t) x=match idx x ns with|some i=>rs.getD i .bad|none=>zI t x
 |[],rs,t,_,x,_=>rfl
 |n :: ns,[],t,h,x,_=>by simp at h
 |n :: ns,v :: rs,t,h,x,hx=>by
  have ih:=Uq U ns rs t (by simpa using h) x hx;have e:(zY U (n :: ns)).run (v :: rs) t=cond (inU U n) ((j2 (jK n)).run v ((zY U ns).run rs t)) ((zY U ns).run rs t):=by
   show(LF.run (cond (inU U n) _ _)) _ _=_;cases inU U n<;>rfl
  rw[e];simp only[idx];by_cases hn:n=x
  .subst hn;rw[hx,if_pos rfl];simp only[cond,zI,YH,if_true,QaM];rfl
  .rw[if_neg hn];have h2:zI (cond (inU U n) ((j2 (jK n)).run v ((zY U ns).run rs t)) ((zY U ns).run rs t)) x=zI ((zY U ns).run rs t) x:=by
    cases inU U n
    .rfl
    .simp only[cond,zI,YH,if_neg (λe=>hn e.symm:¬ x=n)]
   rw[h2,ih];cases idx x ns<;>rfl
theorem Rel.flush (r:Rel ι U N t ns rs st a w):Rel ι U N ((zY U ns).run rs t) [] [] st a w:=by
 refine⟨r.sim,r.size,λx hu _=>?_,λx i hx=>by simp[idx] at hx,rfl,r.ds⟩;rw[Uq U ns rs t r.len x hu];cases h:idx x ns with
 |none=>exact r.env x hu h
 |some i=>exact r.recs x i h
def wpO (P:Program)(ops:Array Oper)(Q:Exit->Act->World->Prop):Lc->Act->World->Prop
 |[],a,w=>Q .normal a w
 |i :: rest,a,w=>
  match ops[i]? with
  |none=>wpO P ops Q rest a w
  |some o=>if Region.wanted o (yielded ops a.tmps) then o.wp P a w (wpO P ops Q rest) Q else wpO P ops Q rest (a.put o.dst undef) w
theorem WP {ops:Array Oper}{Q:Exit->Act->World->Prop}:∀ (l:Lc) (a:Act) (w:World),wpO P ops Q l a w->wpOps P ops Q l a w
 |[],a,w,h=>h
 |i :: l,a,w,h=>by
  simp only[wpO] at h;simp only[wpOps];split
  .rename_i ho;rw[ho] at h;exact WP l a w h
  .rename_i o ho;simp only[ho] at h;split
   .rename_i hw;simp only[hw,if_true] at h;exact .inl (Oper.wp_mono (λa w=>WP l a w) h)
   .rename_i hw;simp only[hw,if_false] at h;exact WP l _ w h
def Enters (P : Program) (f : FuncId) : Prop := ∃ fn, P.funcs[f]? = some fn ∧ fn.body.isSome = true ∧ (fn.name == "runtime.NumGoroutine") = false
def Jv (ι:Inj)(w:World)(st st':St)(v:AV)(x:Value)(w':World):Prop:=
 ∃ ι',Le ι ι'/\VR ι' v x/\Sim ι' st'.h st'.nx w'/\Grew ι w ι' w'/\Cleanly ι ι' st st'
def JH (P:Program)(call:qG):Prop:=
 ∀ (f:FuncId) (args:List AV) (st:St) (ι:Inj) (w:World) (vs:Array Value),Sim ι st.h st.nx w->VRs ι args vs.toList->
  match call f args st with
  |.no=>True
  |.ok v st'=>Enters P f/\Calls P f vs w λe w'=>∃ x,e=.returned x/\Jv ι w st st' v x w'
  |.pn v st'=>Enters P f/\Calls P f vs w λe w'=>∃ x,e=.panicked [{ v:=x,recovered:=false }]/\Jv ι w st st' v x w'
def Post (ι:Inj)(U N:Nat)(w:World)(st:St)(r:R)(Q:Exit->Act->World->Prop):Prop:=
 match r with
 |.no=>False
 |.go t' st'=>∀ ι' a' w',Le ι ι'->Rel ι' U N t' [] [] st' a' w'->Grew ι w ι' w'->Cleanly ι ι' st st'->Q .normal a' w'
 |.ex id t' st'=>∀ ι' a' w',Le ι ι'->Rel ι' U N t' [] [] st' a' w'->Grew ι w ι' w'->Cleanly ι ι' st st'->Q (.exit id) a' w'
 |.rt t' st'=>∀ ι' a' w',Le ι ι'->Rel ι' U N t' [] [] st' a' w'->Grew ι w ι' w'->Cleanly ι ι' st st'->Q .ret a' w'
 |.pn v t' st'=>∀ ι' a' w' x,Le ι ι'->Rel ι' U N t' [] [] st' a' w'->Grew ι w ι' w'->Cleanly ι ι' st st'->VR ι' v x->Q (.panic [{ v:=x,recovered:=false }]) a' w'
theorem Post.step {ι':Inj}{w':World}{st':St}{r:R}{Q:Exit->Act->World->Prop}(hl:Le ι ι')(hg:Grew ι w ι' w')(hc:Cleanly ι ι' st st')(h:Post ι U N w st r Q):Post ι' U N w' st' r Q:=by
 cases r with
 |no=>exact h
 |go t s=>exact λι2 a2 w2 l2 r2 g2 c2=>h ι2 a2 w2 (hl.trans l2) r2 (hg.trans g2) (hc.trans c2)
 |ex i t s=>exact λι2 a2 w2 l2 r2 g2 c2=>h ι2 a2 w2 (hl.trans l2) r2 (hg.trans g2) (hc.trans c2)
 |rt t s=>exact λι2 a2 w2 l2 r2 g2 c2=>h ι2 a2 w2 (hl.trans l2) r2 (hg.trans g2) (hc.trans c2)
 |pn v t s=>exact λι2 a2 w2 x l2 r2 g2 c2 hv=>h ι2 a2 w2 x (hl.trans l2) r2 (hg.trans g2) (hc.trans c2) hv
theorem VH {o:Oper}{c:Call}{ff:Operand}(ho:o.op=.call c)(hc:c.callee=.value ff){f:FuncId}{cv:Array Value}(hf:a.eval ff=.func (.func f) #[] cv)(he:Enters P f) :
  (execOp a.eval o).run P w=.ok (.enter f ((c.args.map a.eval) ++ cv)) w:=by
 obtain⟨fn,h1,h2,h3⟩:=he;have h2':fn.body.isNone=false:=by cases hb:fn.body<;>simp[hb] at h2 ⊢
 simp only[execOp,ho,resolve,hc,hf,Deferred.ofValue,Sem.run_bind,Sem.run_pure,Result.andThen_ok,invoke,callFunc,run_program,h1,h3,h2'];simp
theorem jjF {o:Oper}{c:Call}{ff:Operand}(ho:o.op=.defer c)(hc:c.callee=.value ff){f:FuncId}{cv:Array Value}(hf:a.eval ff=.func (.func f) #[] cv) :
  (execOp a.eval o).run P w=.ok (.defer { target:=.fn (.func f) cv,args:=c.args.map a.eval }) w:=by
 simp only[execOp,ho,resolve,hc,hf,Deferred.ofValue,Sem.run_bind,Sem.run_pure,Result.andThen_ok];simp
theorem joz {call:qG}(hcall:JH P call)(r:Rel ι U N t ns rs st a w){o:Oper}(hd:∀ x,o.dst=some x->x<N){next:RF}{n:Nat}{K:Act->World->Prop}{Q:Exit->Act->World->Prop}
  (hp:Post ι U N w st ((ZG P (jS U ns) (zY U ns) o next).run call n t rs st) Q)
  (hk:∀ ι' rs' st' a' w',Le ι ι'->Grew ι w ι' w'->Cleanly ι ι' st st'->Rel ι' U N t (qA o.dst ns) rs' st' a' w'->
   Post ι' U N w' st' (next.run call n t rs' st') Q->K a' w') :
  o.wp P a w K Q:=by
 unfold ZG at hp;unfold Oper.wp;split at hp
 ·
  rename_i f args hco;have hcs:∃ c,o.op=.call c/\c.callee=.value f/\args=c.args.toList:=by
   unfold qy at hco;split at hco
   .rename_i c hoc;split at hco
    .rename_i f' hf';cases hco;exact⟨c,hoc,hf',rfl⟩
    .cases hco
   .cases hco
  obtain⟨c,hoc,hcf,rfl⟩:=hcs;have hvf:=r.opd f;try dsimp only at hp
  generalize hfv:(jS U ns f).run ⟨t,rs⟩=fv at hp hvf;cases fv<;>try(exact hp.elim)
  rename_i fid caps;simp only[VR] at hvf;obtain⟨cv,hcv,hcaps⟩:=hvf;simp only[yu,yG] at hp;have hargs:VRs ι (c.args.toList.map (λx=>(jS U ns x).run ⟨t,rs⟩) ++ caps) ((c.args.map a.eval) ++ cv).toList:=by
   rw[Qcn,Qbz];exact(VRs.map_of _ λx _=>r.opd x).append hcaps
  have hC:=hcall fid _ st ι w ((c.args.map a.eval) ++ cv) r.sim hargs;generalize call fid (c.args.toList.map (λx=>(jS U ns x).run ⟨t,rs⟩) ++ caps) st=er at hp hC;cases er with
  |no=>exact hp.elim
  |ok v st'=>
   obtain⟨hen,hcs⟩:=hC;rw[VH hoc hcf hcv hen];simp only[Oper.upon];refine Calls.mono hcs λe w' he=>?_;obtain⟨x,rfl,ι',hl,hv,hs,hg,hcl⟩:=he;have hcl':Cleanly ι ι' st (back st st'):=⟨hcl.nx,hcl.dirty,hcl.keep,hcl.above,hcl.u,hcl.le,hcl.n⟩;have r':=(r.mono hl (st':=back st st') hs rfl).put hd hv;exact hk ι' _ _ _ _ hl hg hcl' r' (Post.step hl hg hcl' hp)
  |pn v st'=>
   obtain⟨hen,hcs⟩:=hC;rw[VH hoc hcf hcv hen];simp only[Oper.upon];refine Calls.mono hcs λe w' he=>?_;obtain⟨x,rfl,ι',hl,hv,hs,hg,hcl⟩:=he;have hcl':Cleanly ι ι' st (back st st'):=⟨hcl.nx,hcl.dirty,hcl.keep,hcl.above,hcl.u,hcl.le,hcl.n⟩;have r':=(r.mono hl (st':=back st st') hs rfl).flush;exact hp ι' _ _ x hl r' hg hcl' hv
 .rename_i hco;try dsimp only at hp
  cases hcalm:ug o.op
  ·
   cases ho:o.op<;>rw[ho] at hcalm hp hco<;>simp only[ug] at hcalm<;>try(cases hcalm;done)
   case call c=>
    exfalso;simp only[jy] at hp;split at hcalm
    .rename_i b hb;simp only[hb] at hp;cases b<;>simp only[jbv] at hcalm<;>try(cases hcalm;done)
     have:qF P .recover c.argTypes (yj (jS U ns) c.args.toList)=NOE:=by
      unfold qF;split<;>first|rfl|contradiction|simp_all
     rw[this] at hp;exact hp
    .rename_i hnb;cases hcc:c.callee with
     |builtin b=>exact hnb b hcc
     |value f=>simp[qy,hcc] at hco
     |invoke r m=>rw[hcc] at hp;exact hp
   case defer c=>
    simp only[jy] at hp;cases hf:c.callee<;>rw[hf] at hp<;>try(exact hp.elim)
    .rename_i f;have hvf:=r.opd f;try dsimp only at hp
     generalize hfv:(jS U ns f).run ⟨t,rs⟩=fv at hp hvf;cases fv<;>try(exact hp.elim)
     rename_i fid caps;simp only[VR] at hvf;obtain⟨cv,hcv,hcaps⟩:=hvf;rw[jjF ho hf hcv];simp only[Oper.upon];simp only[yu,yG] at hp;have hargs:VRs ι (c.args.toList.map (λx=>(jS U ns x).run ⟨t,rs⟩) ++ caps) ((c.args.map a.eval) ++ cv).toList:=by
      rw[Qcn,Qbz];exact(VRs.map_of _ λx _=>r.opd x).append hcaps
     have hcl:Cleanly ι ι st ⟨st.nx,st.h,st.dirty,Qal (fid,c.args.toList.map (λx=>(jS U ns x).run ⟨t,rs⟩) ++ caps) st.fr⟩:=⟨η _,η _,λ_ _ _=>rfl,λ_ _=>rfl,λ_ _ h=>h,λ_ h=>h,λ_ h1 h2=>absurd h2 (Nat.not_lt.2 h1)⟩;have r1:Rel ι U N t ns rs ⟨st.nx,st.h,st.dirty,Qal (fid,c.args.toList.map (λx=>(jS U ns x).run ⟨t,rs⟩) ++ caps) st.fr⟩
       { a with defers:={ target:=.fn (.func fid) cv,args:=c.args.map a.eval } :: a.defers } w:=
      ⟨r.sim,r.size,r.env,r.recs,r.len,by simp only[DRs];exact⟨cv,_,_,rfl,hargs,r.ds⟩⟩
     exact hk ι _ _ _ _ (Le.refl ι) (Grew.refl ι w) hcl (r1.put hd (vJ ι)) (Post.step (Le.refl ι) (Grew.refl ι w) hcl hp)
  .have hres:=jff (P:=P) (ρ:=a.eval) (op:=jS U ns) (env:=⟨t,rs⟩) hcalm r.sim (λx _=>r.opd x);generalize (jy P (jS U ns) o.op).run ⟨t,rs⟩ st=er at hp hres;cases er with
   |no=>exact hp.elim
   |ok v st'=>
    obtain⟨ι',x,w',hr,hl,hv,hs,hg,hcl,hfr⟩:=hres;have r':=(r.mono hl hs hfr).put hd hv;rcases hr with hr|⟨hr,rfl⟩
    .rw[hr];exact hk ι' _ _ _ _ hl hg hcl r' (Post.step hl hg hcl hp)
    .rw[hr];exact hk ι' _ _ _ _ hl hg hcl r' (Post.step hl hg hcl hp)
   |pn v st'=>
    obtain⟨rfl,x,hr,hv⟩:=hres;rw[hr];exact hp ι a w x (Le.refl ι) r.flush (Grew.refl ι w) (Cleanly.refl ι st') hv
end
section
variable {P:Program} {ι:Inj} {w:World} {st:St} {U N:Nat} {t:T AV} {ns:Lc} {rs:List AV} {a:Act}
theorem jeR {v:AV}{x:Value}(h:VR ι v x)(h1:∀ b,v≠.bool b)(h2:v≠.bad)(b:Bool):x≠.bool b:=by
 intro e;subst e;cases v<;>simp only[VR] at h;case bool c=>exact h1 c rfl
 case bad=>exact h2 rfl
 case lptr=>obtain⟨_,_,_,h,_⟩:=h;cases h
 all_goals
  first
  |(cases h;done)
  |(obtain⟨_,h,_⟩:=h;cases h;done)
  |(obtain⟨_,_,h,_⟩:=h;cases h;done)
  |(obtain⟨_,_,_,_,h,_⟩:=h;cases h;done)
theorem jhK (r:Rel ι U N t ns rs st a w)(ops:Array Oper)(o:Oper) :
  match ym (jS U ns) ops o with
  |none=>Region.wanted o (yielded ops a.tmps)=true
  |some wf=>∀ b,wf.run ⟨t,rs⟩=some b->Region.wanted o (yielded ops a.tmps)=b:=by
 unfold ym Region.wanted;cases hg:o.guard with
 |none=>rfl
 |some jw=>
  obtain⟨j,want⟩:=jw;simp only;cases hd:(ops[j]?).bind (·.dst) with
  |none=>simp
  |some d=>
   simp only;intro b hb;have hv:=r.opd (.tmp d);simp only[Act.eval] at hv;generalize (jS U ns (.tmp d)).run ⟨t,rs⟩=v at hb hv;have hy:yielded ops a.tmps j=match a.tmps[d]? with|some (.bool b)=>some b|_=>none:=by
    unfold yielded;rw[hd];rfl
   rw[hy];have jv:a.tmps.getD d undef=(a.tmps[d]?).getD undef:=by simp[QbZ]
   rw[jv] at hv;split at hb
   .rename_i c;simp only[Option.some.injEq] at hb;simp only[VR] at hv;cases hq:a.tmps[d]? with
    |none=>rw[hq] at hv;simp[undef] at hv
    |some x=>
     rw[hq] at hv;simp only[QaM] at hv;subst hv;simp only;subst hb;cases c<;>cases want<;>rfl
   .cases hb
   .rename_i h1 h2;simp only[Option.some.injEq] at hb;subst hb;have hn:=jeR hv (λb e=>h1 b e) (λe=>h2 e);cases hq:a.tmps[d]? with
    |none=>rfl
    |some x=>
     rw[hq] at hn;simp only[QaM] at hn;cases x<;>first|rfl|(exact absurd rfl (hn _))
theorem UG (U:Nat)(ops:Array Oper)(o:Oper)(l:List Oper)(ns:Lc) :
 y8 P U ops (o :: l) ns=Ul (ym (jS U ns) ops o) o.dst (ZG P (jS U ns) (zY U ns) o (y8 P U ops l (qA o.dst ns))) (y8 P U ops l (qA o.dst ns)):=rfl
theorem gJ {call:qG}(hcall:JH P call){n:Nat}(ops:Array Oper){Q:Exit->Act->World->Prop}:∀ (l:List Oper) (il:Lc),il.map (λi=>ops[i]?)=l.map some->(∀ o∈l,∀ x,o.dst=some x->x<N)->
  ∀ (ι:Inj) (ns:Lc) (t:T AV) (rs:List AV) (st:St) (a:Act) (w:World),Rel ι U N t ns rs st a w->Post ι U N w st ((y8 P U ops l ns).run call n t rs st) Q->wpO P ops Q il a w
 |[],il,hil,_,ι,ns,t,rs,st,a,w,r,hp=>by
  have:il=[]:=by simpa using hil
  subst this;exact hp ι a w (Le.refl ι) r.flush (Grew.refl ι w) (Cleanly.refl ι st)
 |o :: l,[],hil,_,ι,ns,t,rs,st,a,w,r,hp=>by simp at hil
 |o :: l,i :: il,hil,hd,ι,ns,t,rs,st,a,w,r,hp=>by
  simp only[ζ,List.cons.injEq] at hil;obtain⟨hi,hil⟩:=hil;have ih:=gJ (Q:=Q) hcall (n:=n) ops l il hil (λo ho=>hd o (by simp[ho]));rw[UG] at hp;simp only[wpO,hi];have hw:=jhK r ops o;have hstep:Post ι U N w st ((ZG P (jS U ns) (zY U ns) o (y8 P U ops l (qA o.dst ns))).run call n t rs st) Q->o.wp P a w (wpO P ops Q il) Q:=λhp=>
   joz hcall r (hd o hac) hp λι' rs' st' a' w' _ _ _ r' hp'=>ih ι' _ t rs' st' a' w' r' hp'
  unfold Ul at hp;generalize ym (jS U ns) ops o=wf at hp hw;cases wf with
  |none=>
   simp only at hw;rw[if_pos hw];exact hstep hp
  |some wf=>
   simp only at hw;try dsimp only at hp
   cases hb:wf.run ⟨t,rs⟩ with
   |none=>rw[hb] at hp;exact hp.elim
   |some b=>
    rw[hb] at hp;have hwb:=hw b hb;cases b
    .rw[if_neg (by rw[hwb];simp)];exact ih ι _ t _ st _ w (r.put (hd o hac) (vJ ι)) hp
    .rw[if_pos hwb];exact hstep hp
theorem jhJ {c:Code}{Q:Exit->Act->World->Prop}(J:Nat->Act->World->Prop)(hz:∀ a w,¬ J 0 a w)
  (round:∀ k a w,J (k+1) a w->c.wp P (Exit.then (λa' w'=>J k a' w') Q) a w) {k0:Nat} (h:J k0 a w):(Code.loop c).wp P Q a w:=by
 intro b k cs;have key:∀ n a w,J n a w->∃ e a' w',Q e a' w'/\Arrives P (lone (b.at a (.code c :: .inLoop c :: k)) cs w) b k cs e a' w':=by
  intro n;induction n with
  |zero=>intro a w hJ;exact absurd hJ (hz a w)
  |succ n ih=>
   intro a w hJ;obtain⟨e,a₁,w₁,hq,harr⟩:=round n a w hJ b (.inLoop c :: k) cs;cases e with
   |normal=>
    obtain⟨e₂,a₂,w₂,hq₂,harr₂⟩:=ih a₁ w₁ hq;exact⟨e₂,a₂,w₂,hq₂,.of_steps (Steps.trans harr (.one step_inLoop)) harr₂⟩
   |exit id=>exact⟨_,a₁,w₁,hq,.pass (x:=.inLoop c) rfl (λ_ _=>.inl hac) harr⟩
   |goto l=>exact⟨_,a₁,w₁,hq,.pass (x:=.inLoop c) rfl (λ_ _=>.inl hac) harr⟩
   |ret=>exact⟨_,a₁,w₁,hq,.pass (x:=.inLoop c) rfl (λ_ _=>.inl hac) harr⟩
   |panic ch=>exact⟨_,a₁,w₁,hq,.pass (x:=.inLoop c) rfl (λ_ _=>.inl hac) harr⟩
   |outgrown=>exact⟨_,a₁,w₁,hq,.pass (x:=.inLoop c) rfl (λ_ _=>.inl hac) harr⟩
 obtain⟨e,a',w',hq,harr⟩:=key _ a w h;exact⟨e,a',w',hq,.of_steps (.one step_loop) harr⟩
def Zd (P:Program):Prop:=
 ∀ (call:qG),JH P call->∀ (n:Nat) (U N:Nat) (ops:Array Oper),Jx P ops=true->(∀ o∈ops.toList,∀ x,o.dst=some x->x<N)->
  ∀ (ι:Inj) (t:T AV) (st:St) (a:Act) (w:World) (Q:Exit->Act->World->Prop) (id:Nat),Rel ι U N t [] [] st a w->Post ι U N w st ((wV P U ops).run call n t [] [] st) Q->(Code.region id ops true).wp P Q a w
theorem jdb {α:Type}(p:α->Bool)(l:List α):Ga p l=l.all p:=by
 induction l with
 |nil=>rfl
 |cons a l ih=>show cond (p a) (Ga p l) false=_;rw[ih];cases h:p a<;>simp[h]
theorem Wb {id:Nat}{ops:Array Oper}{d:Bool}(h:Xp N (.region id ops d)=true):∀ o∈ops.toList,∀ x,o.dst=some x->x<N:=by
 change Ga _ ops.toList=true at h;rw[jdb,Qah] at h;intro o ho x hx;have:=h o ho;rw[hx] at this;simp only at this;rw[qi] at this;exact this
theorem jit (ops:Array Oper):(ω ops.size).map (λi=>ops[i]?)=ops.toList.map some:=by
 apply Qbg
 .simp
 .intro i h1 h2;simp at h1;simp[h1]
theorem qN {a b:Bool}(h:cond a b false=true):a=true/\b=true:=by
 cases a
 .cases h
 .exact⟨rfl,h⟩
theorem jfo {call:qG}(hcall:JH P call)(hdraw:Zd P){n:Nat}:∀ (c:Code),Xp N c=true->∀ (ι:Inj) (t:T AV) (st:St) (a:Act) (w:World) (Q:Exit->Act->World->Prop),
  Rel ι U N t [] [] st a w->Post ι U N w st ((comp P U c).run call n t st) Q->c.wp P Q a w:=by
 intro c;induction c with
 |skip=>exact λ_ ι t st a w Q r hp=>wp_skip (hp ι a w (Le.refl ι) r (Grew.refl ι w) (Cleanly.refl ι st))
 |region id ops d=>
  intro hd ι t st a w Q r hp;have hdst:=Wb hd;cases d with
  |false=>
   refine wp_region (WP _ _ _ ?_);exact gJ hcall (n:=n) ops ops.toList (ω ops.size) (jit ops) hdst ι [] t [] st a w r hp
  |true=>
   change Post ι U N w st ((cond (Jx P ops) (⟨λcall n t st=>(wV P U ops).run call n t [] [] st⟩:CF) NOC).run call n t st) Q at hp;cases ho:Jx P ops
   .rw[ho] at hp;exact hp.elim
   .rw[ho] at hp;exact hdraw call hcall n U N ops ho hdst ι t st a w Q id r hp
 |seq x y ihx ihy=>
  intro hd ι t st a w Q r hp;obtain⟨hdx,hdy⟩:=qN (show cond (Xp N x) (Xp N y) false=true from hd);change Post ι U N w st (match (comp P U x).run call n t st with | .go env st=>(comp P U y).run call n env st|r=>r) Q at hp;refine wp_seq (ihx hdx ι t st a w _ r ?_);generalize (comp P U x).run call n t st=rx at hp;cases rx with
  |no=>exact hp
  |go t' st'=>exact λι' a' w' hl r' hg hc=>ihy hdy ι' t' st' a' w' Q r' (Post.step hl hg hc hp)
  |ex i t' st'=>exact hp
  |rt t' st'=>exact hp
  |pn v t' st'=>exact hp
 |cond x a1 b1 iha ihb=>
  intro hd ι t st a w Q r hp;obtain⟨hda,hdb⟩:=qN (show cond (Xp N a1) (Xp N b1) false=true from hd);change Post ι U N w st (match (jS U [] x).run ⟨t,[]⟩ with | .bool q=>_root_.cond q ((comp P U a1).run call n t st) ((comp P U b1).run call n t st)|_=>.no) Q at hp;have hv:=r.opd x;generalize (jS U [] x).run ⟨t,[]⟩=v at hp hv;cases v<;>try(exact hp.elim)
  rename_i q;simp only[VR] at hv;refine wp_cond hv ?_;cases q
  .exact ihb hdb ι t st a w Q r hp
  .exact iha hda ι t st a w Q r hp
 |block id x ih=>
  intro hd ι t st a w Q r hp;change Post ι U N w st (match (comp P U x).run call n t st with | .ex id' env st=>_root_.cond (QcA id' id) (.go env st) (.ex id' env st)|r=>r) Q at hp;refine wp_block (ih hd ι t st a w _ r ?_);generalize (comp P U x).run call n t st=rx at hp;cases rx with
  |no=>exact hp
  |go t' st'=>exact hp
  |ex i t' st'=>
   intro ι' a' w' hl r' hg hc;simp only at hp;cases hb:QcA i id
   .rw[hb] at hp;have hne:¬ i=id:=λe=>by rw[<-qJ,hb] at e;cases e
    simp only[Exit.inBlock,if_neg hne];exact hp ι' a' w' hl r' hg hc
   .rw[hb] at hp;rw[qJ] at hb;simp only[Exit.inBlock,if_pos hb];exact hp ι' a' w' hl r' hg hc
  |rt t' st'=>exact hp
  |pn v t' st'=>exact hp
 |loop x ih=>
  intro hd ι t st a w Q r hp;change Post ι U N w st (uG (comp P U x) call n n t st) Q at hp;refine jhJ (λk a w=>∃ ι t st,Rel ι U N t [] [] st a w/\Post ι U N w st (uG (comp P U x) call n k t st) Q) (λa w h=>?_) (λk a w h=>?_) ⟨ι,t,st,r,hp⟩
  .obtain⟨ι,t,st,r,hp⟩:=h;exact hp
  .obtain⟨ι,t,st,r,hp⟩:=h;refine ih hd ι t st a w _ r ?_;change Post ι U N w st (match (comp P U x).run call n t st with | .go env st=>uG (comp P U x) call n k env st|r=>r) Q at hp;generalize (comp P U x).run call n t st=rx at hp;cases rx with
   |no=>exact hp
   |go t' st'=>exact λι' a' w' hl r' hg hc=>⟨ι',t',st',r',Post.step hl hg hc hp⟩
   |ex i t' st'=>exact hp
   |rt t' st'=>exact hp
   |pn v t' st'=>exact hp
 |rangeFunc f ps a1 b1=>exact λ_ ι t st a w Q r hp=>hp.elim
 |exit id=>exact λ_ ι t st a w Q r hp=>wp_exit (hp ι a w (Le.refl ι) r (Grew.refl ι w) (Cleanly.refl ι st))
 |scope x=>exact λ_ ι t st a w Q r hp=>hp.elim
 |label l=>exact λ_ ι t st a w Q r hp=>hp.elim
 |goto l=>exact λ_ ι t st a w Q r hp=>hp.elim
 |ret=>exact λ_ ι t st a w Q r hp=>wp_ret (hp ι a w (Le.refl ι) r (Grew.refl ι w) (Cleanly.refl ι st))
 |_=>exact λ_ ι t st a w Q r hp=>hp.elim
end
section
variable {P:Program} {ι:Inj} {w:World} {st:St} {U N:Nat} {t:T AV} {a:Act}
def gC (tmps:Array Value):ResultVar->Sem Value
 |.tmp t=>pure (tmps.getD t undef)
 |.cell b t=>do loadVar t (<-asAddr (tmps.getD b undef))
theorem jgj {r:ResultVar}(h:Rel ι U N t [] [] st a w){v:AV}(hv:(QO P U r).run ⟨t,[]⟩ st=some v) :
  ∃ x,(gC a.tmps r).run P w=.ok x w/\VR ι v x:=by
 cases r with
 |tmp x=>
  simp only[QO,Option.some.injEq] at hv;subst hv;exact⟨a.tmps.getD x undef,by simp[gC],h.opd (.tmp x)⟩
 |cell b ty=>
  simp only[QO] at hv;have hop:=h.opd (.tmp b);obtain⟨x,hx,hvx⟩:=jeX h.sim hop hv;refine⟨x,?_,hvx⟩;have hptr:(∃ bb o,(jS U [] (.tmp b)).run ⟨t,[]⟩=.ptr bb o)\/∃ cs o,(jS U [] (.tmp b)).run ⟨t,[]⟩=.lptr cs o:=by
   generalize (jS U [] (.tmp b)).run ⟨t,[]⟩=q at hv;unfold qV at hv;split at hv
   .cases q<;>first|(cases hv;done)|exact .inl ⟨_,_,rfl⟩|exact .inr ⟨_,_,rfl⟩
   .cases q<;>first|(cases hv;done)|exact .inl ⟨_,_,rfl⟩|exact .inr ⟨_,_,rfl⟩
   .cases hv
  obtain⟨ad,had⟩:∃ ad,a.eval (.tmp b)=.pointer (some ad):=by
   rcases hptr with ⟨bb,o,hp⟩|⟨cs,o,hp⟩<;>(rw[hp] at hop;simp only[VR] at hop)
   .obtain⟨_,ad,had,_⟩:=hop;exact⟨ad,had⟩
   .obtain⟨_,_,_,had,_⟩:=hop;exact⟨_,had⟩
  simp only[Act.eval] at had hx;rw[had] at hx;simp only[Instr.loadAt,Instr.sureAddr,Sem.run_bind,Sem.run_pure,Result.andThen_ok] at hx;simp only[gC,had,asAddr,Sem.run_bind,Sem.run_pure,Result.andThen_ok];exact hx
theorem Ua (h:Rel ι U N t [] [] st a w):∀ (l:List ResultVar) (vs:List AV),yD P U l ⟨t,[]⟩ st=some vs->
  ∃ xs:List Value,(l.mapM (gC a.tmps)).run P w=.ok xs w/\VRs ι vs xs
 |[],vs,hv=>by
  have:some ([]:List AV)=some vs:=hv;cases this;exact⟨[],by simp,by simp[VRs]⟩
 |r :: l,vs,hv=>by
  change (match (QO P U r).run ⟨t,[]⟩ st,yD P U l ⟨t,[]⟩ st with|some v,some vs=>some (Qal v vs)|_,_=>none)=some vs at hv;cases h1:(QO P U r).run ⟨t,[]⟩ st with
  |none=>rw[h1] at hv;cases hv
  |some v=>
   cases h2:yD P U l ⟨t,[]⟩ st with
   |none=>rw[h1,h2] at hv;cases hv
   |some vs'=>
    rw[h1,h2] at hv;simp only[Option.some.injEq] at hv;subst hv;obtain⟨x,hx,hvx⟩:=jgj h h1;obtain⟨xs,hxs,hvxs⟩:=Ua h l vs' h2;refine⟨x :: xs,?_,by simp only[VRs];exact⟨x,xs,rfl,hvx,hvxs⟩⟩;rw[List.mapM_cons];simp only[Sem.run_bind,hx,hxs,Result.andThen_ok,Sem.run_pure]
theorem jd7 (fn:Func)(tmps:Array Value):results fn tmps=(do let vs <-fn.results.mapM (gC tmps);pure (if h:vs.size=1 then vs[0] else .tuple vs)):=by
 unfold results
 congr 2
theorem gB (h:Rel ι U N t [] [] st a w){fn:Func}{vs:List AV}(hv:yD P U fn.results.toList ⟨t,[]⟩ st=some vs) :
  ∃ x,(results fn a.tmps).run P w=.ok x w/\VR ι (zB vs) x:=by
 obtain⟨xs,hxs,hvxs⟩:=Ua h _ _ hv;refine⟨if h:xs.toArray.size=1 then xs.toArray[0] else .tuple xs.toArray,?_,?_⟩
 .rw[jd7,Array.mapM_eq_mapM_toList];simp only[Sem.run_bind,Sem.run_map];rw[hxs];simp
 .unfold zB;split
  .rename_i v;simp only[VRs] at hvxs;obtain⟨x,xs',rfl,hx,rfl⟩:=hvxs;simpa using hx
  .rename_i vs' hne;have hl:=hvxs.length;have:¬ xs.toArray.size=1:=by
    intro e;rw[List.size_toArray,hl] at e
    match vs,e with
    |[v],_=>exact hne v rfl
   rw[dif_neg this];simp only[VR];exact⟨_,rfl,by simpa using hvxs⟩
theorem wg:∀ (l:List AV) (i:Nat) (t:T AV) (x:Nat),zI (Ji l i t) x=if i<=x/\x<i+l.length then l.getD (x - i) .bad else zI t x
 |[],i,t,x=>by
  have:¬ (i<=x/\x<i+([]:List AV).length):=by simp
  rw[if_neg this];rfl
 |v :: l,i,t,x=>by
  have e:Ji (v :: l) i t=Ji l (i+1) ((j2 (jK i)).run v t):=rfl;rw[e,wg l (i+1)];by_cases h:x=i
  .subst h;rw[if_neg om,if_pos hac];simp[zI,YH]
  .by_cases h2:i+1<=x/\x<i+1+l.length
   .rw[if_pos h2,if_pos hae];obtain⟨k,hk⟩:∃ k,x - i=k+1:=⟨x - i - 1,om⟩;have hk':x - (i+1)=k:=om
    rw[hk,hk'];simp
   .rw[if_neg h2,if_neg hae];simp only[zI,YH,if_neg h]
theorem jaS {args:List AV}{vs:Array Value}(hs:Sim ι st.h st.nx w)(hargs:VRs ι args vs.toList)(hfr:st.fr=[]) :
  Rel ι U N (Ji args 0 .e) [] [] st { tmps:=vs ++ QaK (N - vs.size) undef,defers:=[] } w:=by
 have hl:=hargs.length;rw[Qan] at hl;refine⟨hs,by simp;omega,λx hu _=>?_,λx i hx=>by simp[idx] at hx,rfl,by rw[hfr];simp[DRs]⟩;rw[wg];by_cases h:0<=x/\x<0+args.length
 .rw[if_pos h,QaF];have hx:x<vs.size:=om
  have:=hargs.get x om;have e:(vs ++ QaK (N - vs.size) undef).getD x undef=vs.toList.getD x undef:=by
   simp[QbZ,Array.getElem?_append,hx,Qaf]
  rw[e];exact this
 .rw[if_neg h];have hx:¬ x<vs.size:=om
  have e:(vs ++ QaK (N - vs.size) undef).getD x undef=undef:=by
   simp only[QbZ,Array.getElem?_append,if_neg hx];by_cases h2:x - vs.size<N - vs.size
   .simp[h2]
   .simp[h2]
  have e2:zI (.e:T AV) x=qe:=by simp[zI,XM]
  rw[e,e2];exact vJ ι
def MdR (ι:Inj):Md->FrameMode->Prop
 |.calm,u=>u=.returning
 |.pan v,u=>∃ x,u=.panicking [{ v:=x,recovered:=false }]/\VR ι v x
 |.done,u=>∃ x,u=.panicking [{ v:=x,recovered:=true }]
theorem MdR.mono {ι ι':Inj}(h:Le ι ι'){m:Md}{u:FrameMode}(k:MdR ι m u):MdR ι' m u:=by
 cases m with
 |calm=>exact k
 |pan v=>obtain⟨x,e,hv⟩:=k;exact⟨x,e,VR.mono h _ _ hv⟩
 |done=>exact k
def Fin (ι:Inj)(w:World)(st:St)(r:ER)(R:Ending->World->Prop):Prop:=
 match r with
 |.no=>False
 |.ok v st'=>∀ x w',Jv ι w st st' v x w'->R (.returned x) w'
 |.pn v st'=>∀ x w',Jv ι w st st' v x w'->R (.panicked [{ v:=x,recovered:=false }]) w'
theorem Fin.step {ι':Inj}{w':World}{st':St}{r:ER}{R:Ending->World->Prop}(hl:Le ι ι')(hg:Grew ι w ι' w')(hc:Cleanly ι ι' st st')(h:Fin ι w st r R):Fin ι' w' st' r R:=by
 cases r with
 |no=>exact h
 |ok v s=>exact λx w2 ⟨ι2,l2,v2,s2,g2,c2⟩=>h x w2 ⟨ι2,hl.trans l2,v2,s2,hg.trans g2,hc.trans c2⟩
 |pn v s=>exact λx w2 ⟨ι2,l2,v2,s2,g2,c2⟩=>h x w2 ⟨ι2,hl.trans l2,v2,s2,hg.trans g2,hc.trans c2⟩
def joh (P:Program)(D:DF):Prop:=
 ∀ (f:FuncId) (args:List AV) (m:Md) (st:St) (ι:Inj) (w:World) (vs:Array Value) (u:FrameMode),st.fr=[]->Sim ι st.h st.nx w->VRs ι args vs.toList->MdR ι m u->
  match D.run f args m st with
  |.no=>True
  |.ok m' st'=>Enters P f/\CallsD P f vs u w λe u' w'=>∃ y ι',e=.returned y/\Le ι ι'/\MdR ι' m' u'/\Sim ι' st'.h st'.nx w'/\Grew ι w ι' w'/\Cleanly ι ι' st st'
theorem vU {D:DF}(hD:joh P D){fn:Func}{tmps:Array Value}{R:Ending->World->Prop}:∀ (ds:List (FuncId×List AV)) (dl:List Deferred) (ι:Inj) (st:St) (w:World) (m:Md) (u:FrameMode),
  Rel ι U N t [] [] st ⟨tmps,[]⟩ w->st.fr=[]->DRs ι ds dl->MdR ι m u->Fin ι w st (zo P U D fn.results.toList ds t st m) R->Leaves P fn tmps R dl u w
 |[],dl,ι,st,w,m,u,r,hfr,hd,hm,hf=>by
  simp only[DRs] at hd;subst hd;cases m with
  |calm=>
   simp only[MdR] at hm;subst hm;change Fin ι w st (match yD P U fn.results.toList ⟨t,[]⟩ st with|some vs=>.ok (zB vs) st|none=>.no) R at hf;cases hv:yD P U fn.results.toList ⟨t,[]⟩ st with
   |none=>rw[hv] at hf;exact hf.elim
   |some vs=>
    rw[hv] at hf;obtain⟨x,hx,hvx⟩:=gB r hv;exact⟨x,hx,hf x w ⟨ι,Le.refl ι,hvx,r.sim,Grew.refl ι w,Cleanly.refl ι st⟩⟩
  |pan v=>
   obtain⟨x,rfl,hvx⟩:=hm;exact hf x w ⟨ι,Le.refl ι,hvx,r.sim,Grew.refl ι w,Cleanly.refl ι st⟩
  |done=>exact hf.elim
 |d :: ds,dl,ι,st,w,m,u,r,hfr,hd,hm,hf=>by
  simp only[DRs] at hd;obtain⟨cap,dargs,dl',rfl,hargs,hd'⟩:=hd;change Fin ι w st (match D.run d.1 d.2 m st.bare with
   |.ok m' st'=>(match m' with
    |.calm=>zo P U D fn.results.toList ds t st'.bare .calm
    |.pan v=>zo P U D fn.results.toList ds t st'.bare (.pan v)
    |.done=>zo P U D fn.results.toList ds t st'.bare .calm)
   |.no=>.no) R at hf
  have h1:=hD d.1 d.2 m st.bare ι w (dargs ++ cap) u rfl r.sim hargs hm;generalize D.run d.1 d.2 m st.bare=dr at hf h1;cases dr with
  |no=>exact hf.elim
  |ok m' st'=>
   obtain⟨hen,hcall⟩:=h1;have hu:u≠.run:=by
    cases m with
    |calm=>simp only[MdR] at hm;rw[hm];simp
    |pan v=>obtain⟨x,rfl,_⟩:=hm;simp
    |done=>obtain⟨x,rfl⟩:=hm;simp
   refine⟨hu,.func d.1,cap,d.1,dargs ++ cap,rfl,?_,?_⟩
   .obtain⟨fn',h1,h2,h3⟩:=hen;have h2':fn'.body.isNone=false:=by cases hb:fn'.body<;>simp[hb] at h2 ⊢
    simp only[invoke,callFunc,Sem.run_bind,run_program,Result.andThen_ok,h1,h3,h2'];simp
   .refine CallsD.mono hcall λe u' w' he=>?_;obtain⟨y,ι',rfl,hl,hm',hs,hg,hcl⟩:=he;have hcl':Cleanly ι ι' st st'.bare:=⟨hcl.nx,hcl.dirty,hcl.keep,hcl.above,hcl.u,hcl.le,hcl.n⟩;have r':Rel ι' U N t [] [] st'.bare ⟨tmps,[]⟩ w':=r.mono hl (st':=st'.bare) hs (by rw[hfr];rfl);have hf':=Fin.step hl hg hcl' hf;have u4:∃ m2,MdR ι' m2 (settle u')/\Fin ι' w' st'.bare (zo P U D fn.results.toList ds t st'.bare m2) R:=by
     cases m' with
     |calm=>
      simp only[MdR] at hm';subst hm';exact⟨.calm,rfl,hf'⟩
     |pan v=>
      obtain⟨x,rfl,hv⟩:=hm';exact⟨.pan v,⟨x,rfl,hv⟩,hf'⟩
     |done=>
      obtain⟨x,rfl⟩:=hm';exact⟨.calm,rfl,hf'⟩
    obtain⟨m2,hm2,hf2⟩:=u4;exact vU hD ds dl' ι' st'.bare w' m2 (settle u') r' rfl (DRs.mono hl _ _ hd') hm2 hf2
end
section
variable {P:Program} {ι:Inj} {w:World} {st:St} {U N:Nat} {t:T AV} {a:Act}
theorem JN {ops:Array Oper}{Q:Exit->Act->List Frame->World->Prop}{cs:List Frame}:∀ (l:Lc) (a:Act) (w:World),
  wpO P ops (λe a w=>Q e a cs w) l a w->wpOpsS P ops Q l a cs w
 |[],a,w,h=>h
 |i :: l,a,w,h=>by
  simp only[wpO] at h;simp only[wpOpsS];split
  .rename_i ho;rw[ho] at h;exact JN l a w h
  .rename_i o ho;simp only[ho] at h;split
   .rename_i hw;rw[if_pos hw] at h;unfold Oper.wp at h;generalize (execOp a.eval o).run P w=r at h ⊢;cases r with
    |halt x w'=>cases x<;>exact h
    |ok n w'=>
     cases n<;>simp only[Oper.upon] at h ⊢;case value v=>exact JN l _ _ h
     case skip=>exact JN l _ _ h
     case defer d=>exact JN l _ _ h
     case enter f args=>
      refine Calls.mono h λe w'' he=>?_;cases e with
      |returned v=>exact JN l _ _ he
      |panicked c=>exact he
      |outgrown=>exact he
     case row row args=>exact Rows.mono h λ_ _ he=>JN l _ _ he
   .rename_i hw;rw[if_neg hw] at h;exact JN l _ _ h
theorem jr0 {o:Oper}(h:uI o=true):o.guard=none/\∀ (ρ:Operand->Value) (w:World),(execOp ρ o).run P w=.ok .recover w:=by
 unfold uI at h;split at h
 .rename_i c hc;split at h
  .rename_i hb;split at h
   .rename_i hg;refine⟨hg,λρ w=>?_⟩;simp[execOp,hc,resolve,hb,invoke,builtin]
   .cases h
  .cases h
 .cases h
theorem jlW {m:Md}{u:FrameMode}(hm:MdR ι m u)(c:Frame)(cs:List Frame)(hc:c.mode=u) :
  ∃ x u',VR ι (Xc m) x/\MdR ι (XV m) u' /\
   (recoverD (c :: cs)=some (x,{ c with mode:=u' } :: cs)\/(recoverD (c :: cs)=none/\x=.nilIface/\{ c with mode:=u' }=c)):=by
 cases m with
 |calm=>
  simp only[MdR] at hm;subst hm;exact⟨.nilIface,c.mode,by simp[Xc,VR],hc,.inr ⟨by simp[recoverD,hc],rfl,rfl⟩⟩
 |pan v=>
  obtain⟨x,rfl,hv⟩:=hm;exact⟨x,.panicking [{ v:=x,recovered:=true }],hv,⟨x,rfl⟩,.inl (by simp[recoverD,hc])⟩
 |done=>
  obtain⟨x,rfl⟩:=hm;exact⟨.nilIface,c.mode,by simp[Xc,VR],⟨x,hc⟩,.inr ⟨by simp[recoverD,hc],rfl,rfl⟩⟩
def jbT (ι:Inj)(w:World)(st:St)(r:DR)(e:Ending)(u':FrameMode)(w':World):Prop:=
 ∃ m' st',r=.ok m' st'/\∃ y ι',e=.returned y/\Le ι ι'/\MdR ι' m' u'/\Sim ι' st'.h st'.nx w'/\Grew ι w ι' w'/\Cleanly ι ι' st st'
theorem jeZ {fn:Func}{m:Md}{ι':Inj}{st':St}{w':World}{r:Rel ι' U N t [] [] st' a w'}{c:Frame}{cs:List Frame}{u':FrameMode}(hl:Le ι ι')(hg:Grew ι w ι' w')(hc:Cleanly ι ι' st st')
  (hm:MdR ι' m u') {dr:DR} (hdr:dr≠.no)
  (hdef:dr=(match st'.fr with|[]=>(match yD P U fn.results.toList ⟨t,[]⟩ st' with|some _=>.ok m st'|none=>.no)|_=>.no)) :
  a.defers=[]/\∃ u'',({ c with mode:=u' } :: cs)=({ c with mode:=u'' } :: cs:List Frame)/\∃ v,(results fn a.tmps).run P w'=.ok v w'/\jbT ι w st dr (.returned v) u'' w':=by
 have hds:=r.ds;cases hfr:st'.fr with
 |cons d ds=>rw[hfr] at hdef;exact absurd hdef hdr
 |nil=>
  rw[hfr] at hdef hds;simp only[DRs] at hds;cases hv:yD P U fn.results.toList ⟨t,[]⟩ st' with
  |none=>rw[hv] at hdef;exact absurd hdef hdr
  |some vs=>
   rw[hv] at hdef;obtain⟨x,hx,_⟩:=gB r hv;exact⟨hds,u',rfl,x,hx,m,st',hdef,x,ι',rfl,hl,hm,r.sim,hg,hc⟩
theorem jsx {ops:Array Oper}{o:Oper}{l:List Oper}(h:ops.toList=o :: l):ω ops.size=0 :: (Qag 1 l.length)/\ops[0]? = some o/\(Qag 1 l.length).map (λi=>ops[i]?)=l.map some:=by
 have hs:ops.size=l.length+1:=by rw[<-Qan,h];rfl
 refine⟨?_,?_,?_⟩
 .rw[hs,List.range_eq_range',Qbn]
 .rw[<-QbM,h];rfl
 .apply Qbg
  .simp
  .intro i h1 h2;simp at h1;simp only[QbY,List.getElem_range'];rw[<-QbM,h,Nat.one_mul,QbB];simp[h1]
theorem jdz {call:qG}(hcall:JH P call)(hdraw:Zd P){n:Nat}{fn:Func}{f:FuncId}{ops:Array Oper}{o:Oper}{l:List Oper}(hops:ops.toList=o :: l)(ho:uI o=true)
  {id:Nat} {rest:Option Code} {B:CF} (hf:P.funcs[f]? = some fn) (hb:fn.body=some (match rest with|some c=>.seq (.region id ops false) c|none=>.region id ops false))
  (hB:match rest with|some c=>Xp fn.ntmps c=true/\B=comp P U c|none=>B=⟨λ_ _ env st=>.go env st⟩) (hd:∀ o∈ops.toList,∀ x,o.dst=some x->x<fn.ntmps)
  {args:List AV} {m:Md} {vs:Array Value} {u:FrameMode} (hfr:st.fr=[]) (hs:Sim ι st.h st.nx w) (hargs:VRs ι args vs.toList) (hm:MdR ι m u)
  (hr:(GG P fn U o (y8 P U ops l (qA o.dst [])) B).run call n args m st≠.no) :
  CallsD P f vs u w (jbT ι w st ((GG P fn U o (y8 P U ops l (qA o.dst [])) B).run call n args m st)):=by
 obtain⟨hg,hrec⟩:=jr0 (P:=P) ho;obtain⟨hrange,h0,hil⟩:=jsx hops;refine callsD_of_wpS hf hb λc₀ cs hc=>?_;obtain⟨x,u',hvx,hm',hrd⟩:=jlW hm c₀ cs hc;generalize hres:(GG P fn U o (y8 P U ops l (qA o.dst [])) B).run call n args m st=dr at hr ⊢;have hres':hY P fn U (XV m) (match (y8 P U ops l (qA o.dst [])).run call n (Ji args 0 .e) ((yQ o.dst).run (Xc m) []) st with
  |.go env st=>B.run call n env st
  |r=>r)=dr:=hres
 have r0:Rel ι U fn.ntmps (Ji args 0 .e) [] [] st { tmps:=vs ++ QaK (fn.ntmps - vs.size) undef,defers:=[] } w:=jaS hs hargs hfr;have r1:=r0.put (hd o (by rw[hops];simp)) hvx;have hcs:∃ cs',cs'={ c₀ with mode:=u' } :: cs/\∀ (Q:Exit->Act->List Frame->World->Prop),wpOpsS P ops Q (Qag 1 l.length) ({ tmps:=vs ++ QaK (fn.ntmps - vs.size) undef,defers:=[]:Act }.put o.dst x) cs' w->
   wpOpsS P ops Q (ω ops.size) { tmps:=vs ++ QaK (fn.ntmps - vs.size) undef,defers:=[] } (c₀ :: cs) w:=by
  refine⟨_,rfl,λQ h=>?_⟩;rw[hrange];simp only[wpOpsS,h0];rw[if_pos (by simp[Region.wanted,hg])];rw[hrec];simp only;rcases hrd with h1|⟨h1,rfl,h2⟩
  .rw[h1];exact h
  .rw[h1];simp only;rw[h2] at h;exact h
 obtain⟨cs',hcs',hcsW⟩:=hcs;have fin:∀ (r:R),hY P fn U (XV m) r=dr->Post ι U fn.ntmps w st r (λe a' w'=>bodyPostS P fn c₀ cs (jbT ι w st dr) e a' cs' w'):=by
  intro r hrr;cases r with
  |no=>exact(hr (by rw[<-hrr];rfl)).elim
  |go t' st'=>
   intro ι' a' w' hl r' hg' hc';have:=jeZ (P:=P) (ι:=ι) (w:=w) (st:=st) (fn:=fn) (r:=r') (c:=c₀) (cs:=cs) (u':=u') hl hg' hc' (MdR.mono hl hm') (dr:=dr) hr hrr.symm;simp only[bodyPostS];obtain⟨h1,u'',h2,h3⟩:=this;exact⟨h1,u'',by rw[hcs',h2],h3⟩
  |ex i t' st'=>exact(hr (by rw[<-hrr];rfl)).elim
  |rt t' st'=>
   intro ι' a' w' hl r' hg' hc';have:=jeZ (P:=P) (ι:=ι) (w:=w) (st:=st) (fn:=fn) (r:=r') (c:=c₀) (cs:=cs) (u':=u') hl hg' hc' (MdR.mono hl hm') (dr:=dr) hr hrr.symm;simp only[bodyPostS];obtain⟨h1,u'',h2,h3⟩:=this;exact⟨h1,u'',by rw[hcs',h2],h3⟩
  |pn v t' st'=>exact(hr (by rw[<-hrr];rfl)).elim
 cases rest with
 |none=>
  subst hB;refine wpS_region (hcsW _ (JN _ _ _ ?_));refine gJ hcall (n:=n) ops l _ hil (λq hq=>hd q (by rw[hops];simp[hq])) ι _ _ _ st _ w r1 (fin _ ?_);rw[<-hres'];generalize (y8 P U ops l (qA o.dst [])).run call n (Ji args 0 .e) ((yQ o.dst).run (Xc m) []) st=r;cases r<;>rfl
 |some c=>
  obtain⟨hdc,rfl⟩:=hB;refine wpS_seq (wpS_region (hcsW _ (JN _ _ _ ?_)));refine gJ hcall (n:=n) ops l _ hil (λq hq=>hd q (by rw[hops];simp[hq])) ι _ _ _ st _ w r1 ?_;generalize (y8 P U ops l (qA o.dst [])).run call n (Ji args 0 .e) ((yQ o.dst).run (Xc m) []) st=r at hres';cases r with
  |no=>exact(hr (by rw[<-hres'];rfl)).elim
  |go t' st'=>
   intro ι' a' w' hl r' hg' hc';exact wpS_of_wp (jfo hcall hdraw c hdc ι' t' st' a' w' _ r' (Post.step hl hg' hc' (fin _ hres')))
  |ex i t' st'=>exact fin _ hres'
  |rt t' st'=>exact fin _ hres'
  |pn v t' st'=>exact fin _ hres'
theorem vQ (h:okP P=true){f:FuncId}{fn:Func}{c:Code}(hf:P.funcs[f]? = some fn)(hb:fn.body=some c):Xp fn.ntmps c=true/\Enters P f:=by
 unfold okP at h;rw[jdb,Qah] at h;have hm:fn∈P.funcs.toList:=by
  rw[Qax] at hf;obtain⟨h1,h2⟩:=hf;rw[<-h2];simp
 have:=h fn hm;rw[hb] at this;obtain⟨h1,h2⟩:=qN this;refine⟨h1,fn,hf,by rw[hb];rfl,?_⟩
 cases hq : fn.name == "runtime.NumGoroutine"
 .rfl
 .rw[hq] at h2;cases h2
theorem jmE (hok:okP P=true){call:qG}(hcall:JH P call)(hdraw:Zd P)(n:Nat):joh P ⟨λf args m st=>(yT P f).run call n args m st⟩:=by
 intro f args m st ι w vs u hfr hs hargs hm;have key:(yT P f).run call n args m st≠.no->Enters P f/\CallsD P f vs u w (jbT ι w st ((yT P f).run call n args m st)):=by
  intro hr;unfold yT at hr ⊢;cases hf:P.funcs[f]? with
  |none=>rw[hf] at hr;exact absurd rfl hr
  |some fn=>
   rw[hf] at hr;simp only at hr ⊢;split at hr
   .rename_i id ops c hb;obtain⟨h1,h2⟩:=vQ hok hf hb;refine⟨h2,?_⟩;split at hr
    .rename_i o l hops;cases ho:uI o
     .rw[ho] at hr;exact absurd rfl hr
     .rw[ho] at hr;simp only[cond_true] at hr ⊢;obtain⟨h3,h4⟩:=qN (show cond (Xp fn.ntmps (.region id ops false)) (Xp fn.ntmps c) false=true from h1);exact jdz hcall hdraw hops ho (rest:=some c) hf hb ⟨h4,rfl⟩ (Wb h3) hfr hs hargs hm hr
    .exact absurd rfl hr
   .rename_i id ops hb;obtain⟨h1,h2⟩:=vQ hok hf hb;refine⟨h2,?_⟩;split at hr
    .rename_i o l hops;cases ho:uI o
     .rw[ho] at hr;exact absurd rfl hr
     .rw[ho] at hr;simp only[cond_true] at hr ⊢;exact jdz hcall hdraw hops ho (rest:=none) hf hb rfl (Wb h1) hfr hs hargs hm hr
    .exact absurd rfl hr
   .exact absurd rfl hr
 show match (yT P f).run call n args m st with | .no=>True | .ok m' st'=>_
 generalize hdr:(yT P f).run call n args m st=dr at key;cases dr with
 |no=>trivial
 |ok m' st'=>
  obtain⟨h1,h2⟩:=key hac;refine⟨h1,CallsD.mono h2 λe u' w' he=>?_⟩;obtain⟨m2,st2,e1,y,ι',e2,h3,h4,h5,h6,h7⟩:=he;cases e1;exact⟨y,ι',e2,h3,h4,h5,h6,h7⟩
theorem jmW {ι:Inj}{w:World}{st:St}{r:ER}:(r=.no\/Fin ι w st r λe w'=>(∃ v st' x,r=.ok v st'/\e=.returned x/\Jv ι w st st' v x w') \/
  (∃ v st' x,r=.pn v st'/\e=.panicked [{ v:=x,recovered:=false }]/\Jv ι w st st' v x w')):=by
 cases r with
 |no=>exact .inl rfl
 |ok v st'=>exact .inr λx w' hd=>.inl ⟨v,st',x,rfl,rfl,hd⟩
 |pn v st'=>exact .inr λx w' hd=>.inr ⟨v,st',x,rfl,rfl,hd⟩
theorem jdB (hok:okP P=true){call:qG}(hcall:JH P call)(hdraw:Zd P)(n:Nat):JH P (λf args st=>(XR P f).run call n args st):=by
 intro f args st ι w vs hs hargs;show match (XR P f).run call n args st with | .no=>True | .ok v st'=>_ | .pn v st'=>_
 generalize hr:(XR P f).run call n args st=r;have key:r≠.no->Enters P f/\Calls P f vs w λe w'=>(∃ v st' x,r=.ok v st'/\e=.returned x/\Jv ι w st st' v x w') \/
  (∃ v st' x,r=.pn v st'/\e=.panicked [{ v:=x,recovered:=false }]/\Jv ι w st st' v x w'):=by
  intro hne;unfold XR jdH at hr;cases hf:P.funcs[f]? with
  |none=>rw[hf] at hr;exact absurd hr.symm hne
  |some fn=>
   rw[hf] at hr;simp only at hr;cases hb:fn.body with
   |none=>rw[hb] at hr;exact absurd hr.symm hne
   |some c=>
    rw[hb] at hr;simp only at hr;obtain⟨h1,h2⟩:=vQ hok hf hb;refine⟨h2,calls_of_wp_defers hf hb ?_⟩;have hfin:=(jmW (ι:=ι) (w:=w) (st:=st) (r:=r)).resolve_left hne;generalize hR:(λe w'=>(∃ v st' x,r=.ok v st'/\e=Ending.returned x/\Jv ι w st st' v x w') \/
     (∃ v st' x,r=.pn v st'/\e=Ending.panicked [{ v:=x,recovered:=false }]/\Jv ι w st st' v x w'))=RR at hfin ⊢
    have hD:=jmE hok hcall hdraw n;have r0:Rel ι (yc fn c) fn.ntmps (Ji args 0 .e) [] [] st.bare { tmps:=vs ++ QaK (fn.ntmps - vs.size) undef,defers:=[] } w:=jaS (st:=st.bare) hs hargs rfl;refine jfo hcall hdraw (n:=n) c h1 ι _ st.bare _ w _ r0 ?_;have hst:(⟨st.nx,st.h,st.dirty,[]⟩:St)=st.bare:=rfl;rw[hst] at hr;generalize (comp P (yc fn c) c).run call n (Ji args 0 .e) st.bare=rc at hr;have leave:∀ (t':T AV) (st':St) (ι':Inj) (a':Act) (w':World) (m:Md) (u:FrameMode),Le ι ι'->Rel ι' (yc fn c) fn.ntmps t' [] [] st' a' w'->Grew ι w ι' w'->Cleanly ι ι' st.bare st'->MdR ι' m u->
      zo P (yc fn c) ⟨λf args m st=>(yT P f).run call n args m st⟩ fn.results.toList st'.fr t' st'.bare m=r->Leaves P fn a'.tmps RR a'.defers u w':=by
     intro t' st' ι' a' w' m u hl r' hg hc hm hlr;have r2:Rel ι' (yc fn c) fn.ntmps t' [] [] st'.bare ⟨a'.tmps,[]⟩ w':=⟨r'.sim,r'.size,r'.env,r'.recs,r'.len,by simp[DRs,St.bare]⟩;refine vU hD st'.fr a'.defers ι' st'.bare w' m u r2 rfl r'.ds hm ?_;rw[hlr];exact Fin.step hl hg (show Cleanly ι ι' st st'.bare from⟨hc.nx,hc.dirty,hc.keep,hc.above,hc.u,hc.le,hc.n⟩) hfin
    cases rc with
    |no=>exact absurd hr.symm hne
    |go t' st'=>exact λι' a' w' hl r' hg hc=>leave t' st' ι' a' w' .calm .returning hl r' hg hc rfl hr
    |ex i t' st'=>exact absurd hr.symm hne
    |rt t' st'=>exact λι' a' w' hl r' hg hc=>leave t' st' ι' a' w' .calm .returning hl r' hg hc rfl hr
    |pn v t' st'=>exact λι' a' w' x hl r' hg hc hv=>leave t' st' ι' a' w' (.pan v) (.panicking [{ v:=x,recovered:=false }]) hl r' hg hc ⟨x,rfl,hv⟩ hr
 cases r with
 |no=>trivial
 |ok v st'=>
  obtain⟨h1,h2⟩:=key hac;refine⟨h1,Calls.mono h2 λe w' he=>?_⟩;rcases he with ⟨v1,st1,x,e1,e2,hd⟩|⟨v1,st1,x,e1,_⟩
  .cases e1;exact⟨x,e2,hd⟩
  .cases e1
 |pn v st'=>
  obtain⟨h1,h2⟩:=key hac;refine⟨h1,Calls.mono h2 λe w' he=>?_⟩;rcases he with ⟨v1,st1,x,e1,_⟩|⟨v1,st1,x,e1,e2,hd⟩
  .cases e1
  .cases e1;exact⟨x,e2,hd⟩
theorem jaP (hok:okP P=true)(hdraw:Zd P)(n:Nat):∀ d,JH P (Gw P n d)
 |0=>λf args st ι w vs _ _=>trivial
 |d+1=>jdB hok (jaP hok hdraw n d) hdraw n
theorem jlU (hok:okP P=true)(hdraw:Zd P){n d:Nat}{f:FuncId}(h:jiX (Gw P n d f [] st0)=true)(w:World)(hgl:Gl ⟨λ_=>.unborn,λ_=>none⟩ w) :
  Calls P f #[] w λe w'=>e=.returned (.bool true)/\w'.os=w.os/\w'.tape=w.tape/\w'.output=w.output/\w.heap.size<=w'.heap.size/\∀ k,k<w.heap.size->w'.heap[k]? = w.heap[k]?:=by
 have hs:Sim ⟨λ_=>.unborn,λ_=>none⟩ st0.h st0.nx w:=
  ⟨λb B S e=>(by cases e),λb e=>(by cases e),λb b' B S S' e=>(by cases e),λb e=>absurd rfl e,hgl⟩
 have hc:=jaP hok hdraw n d f [] st0 ⟨λ_=>.unborn,λ_=>none⟩ w #[] hs (by simp[VRs]);generalize Gw P n d f [] st0=r at h hc;cases r with
 |no=>cases h
 |pn v st'=>cases h
 |ok v st'=>
  obtain⟨_,hcalls⟩:=hc;refine Calls.mono hcalls λe w' he=>?_;obtain⟨x,rfl,ι',_,hv,_,hg,_⟩:=he;cases v<;>try(cases h;done)
  rename_i b;have:b=true:=h;subst this;simp only[VR] at hv;subst hv;exact⟨rfl,hg.os,hg.tape,hg.output,hg.size,λk hk=>hg.keep k hk (λb S e=>by cases e)⟩
end
theorem jjA {x y:AV}(h:jdu x y=true):x=y:=by
 unfold jdu at h;split at h
 all_goals try(split at h<;>try(cases h;done))
 .rename_i a _ b;cases a<;>cases b<;>first|rfl|cases h
 .rename_i k a _ k' b;obtain⟨h1,h2⟩:=qN h;rw[X9,decide_eq_true_iff] at h2;rw[ua h1,h2]
 .obtain⟨h1,h2⟩:=qN h;rw[qJ] at h1 h2;rw[h1,h2]
 .rfl
 .rename_i ex _ b' o' len' cap' sz' ex';obtain⟨h1,g1⟩:=qN h;obtain⟨h2,g2⟩:=qN g1;obtain⟨h3,g3⟩:=qN g2;obtain⟨h4,g4⟩:=qN g3;obtain⟨h5,g5⟩:=qN g4;clear h g1 g2 g3 g4;rw[qJ] at h1 h2 h3 h4 h5;subst h1;subst h2;subst h3;subst h4;subst h5;cases ex<;>cases ex'<;>first|rfl|cases g5
 .rfl
 .rw[qJ] at h;rw[h]
 .rfl
 .rfl
 .rfl
 .cases h
theorem HL {a b:List AV}(h:Wa a b=true):a=b:=by unfold Wa at h;exact @of_decide_eq_true _ (_) h
theorem Gz {x y:AV}(h:ZA x y=true):x=y:=by
 unfold ZA at h;split at h
 .split at h<;>try(cases h;done)
  obtain⟨h1,h2⟩:=qN h;rw[qJ] at h1;have h2:=HL h2;rw[h1,h2]
 .split at h<;>try(cases h;done)
  obtain⟨h1,h2⟩:=qN h;rw[qJ] at h1;have h2:=HL h2;rw[h1,h2]
 .split at h<;>try(cases h;done)
  obtain⟨h1,h2⟩:=qN h;rw[qJ] at h1;have h2:=HL h2;rw[h1,h2]
 .split at h<;>try(cases h;done)
  rw[JW] at h;simp at h;rw[h]
 .exact jjA h
theorem Gy:∀ {l r:List AV},WA l r=true->l=r
 |[],r,h=>by
  cases r with
  |nil=>rfl
  |cons y r=>cases h
 |x :: l,r,h=>by
  cases r with
  |nil=>cases h
  |cons y r=>
   obtain⟨h1,h2⟩:=qN (show cond (ZA x y) (WA l r) false=true from h);rw[Gz h1,Gy h2]
theorem jpj {x y:AV}(h:jg6 x y=true):x=y:=by
 unfold jg6 at h;split at h
 .split at h<;>try(cases h;done)
  rw[Gy h]
 .exact Gz h
def hide (ι:Inj)(n:Nat):Inj:=⟨λb=>if b<n then ι b else .unborn,ι.g⟩
theorem zO {ι:Inj}{n b B S:Nat}(h:hide ι n b=.at B S):ι b=.at B S/\b<n:=by
 unfold hide at h;dsimp only at h;split at h
 .rename_i hb;exact⟨h,hb⟩
 .cases h
mutual
theorem VR.hide {ι ι0:Inj}{n:Nat}(hn:∀ b,ι0 b≠.unborn->b<n):∀ (x:AV) (v0 v:Value),VR ι0 x v0->VR ι x v->VR (hide ι n) x v
 |.bool _,_,_,_,k=>k
 |.int _ _,_,_,_,k=>k
 |.str _,_,_,_,k=>k
 |.zstr _,_,_,_,k=>k
 |.ptr b o,v0,v,k0,k=>by
  simp only[VR] at k0 k ⊢;have hb:=hn b k0.1;obtain⟨h1,a,rfl,h2⟩:=k;have e:Ev.hide ι n b=ι b:=by simp[Ev.hide,hb]
  rw[e];exact⟨h1,a,rfl,h2⟩
 |.nilp,_,_,_,k=>k
 |.slice b o len cap sz ex,v0,v,k0,k=>by
  simp only[VR] at k0 k ⊢;have hb:=hn b k0.1;obtain⟨h1,h2,a,C,rfl,h3,h4,h5⟩:=k;have e:Ev.hide ι n b=ι b:=by simp[Ev.hide,hb]
  rw[e];exact⟨h1,h2,a,C,rfl,h3,h4,h5⟩
 |.nils,_,_,_,k=>k
 |.map r,v0,v,k0,k=>by
  simp only[VR] at k0 k ⊢;have hb:=hn r k0.1;obtain⟨h1,a,rfl,h2⟩:=k;have e:Ev.hide ι n r=ι r:=by simp[Ev.hide,hb]
  rw[e];exact⟨h1,a,rfl,h2⟩
 |.nilm,_,_,_,k=>k
 |.fn f caps,v0,v,k0,k=>by
  simp only[VR] at k0 k ⊢;obtain⟨cv,rfl,hc⟩:=k;obtain⟨cv0,rfl,hc0⟩:=k0;exact⟨cv,rfl,VRs.hide hn caps _ _ hc0 hc⟩
 |.nilf,_,_,_,k=>k
 |.iface t x,v0,v,k0,k=>by
  simp only[VR] at k0 k ⊢;obtain⟨y,rfl,hy⟩:=k;obtain⟨y0,rfl,hy0⟩:=k0;exact⟨y,rfl,VR.hide hn x _ _ hy0 hy⟩
 |.nilif,_,_,_,k=>k
 |.agg cs,v0,v,k0,k=>by
  simp only[VR] at k0 k ⊢;obtain⟨cv,rfl,hc⟩:=k;obtain⟨cv0,rfl,hc0⟩:=k0;exact⟨cv,rfl,VRs.hide hn cs _ _ hc0 hc⟩
 |.tup cs,v0,v,k0,k=>by
  simp only[VR] at k0 k ⊢;obtain⟨cv,rfl,hc⟩:=k;obtain⟨cv0,rfl,hc0⟩:=k0;exact⟨cv,rfl,VRs.hide hn cs _ _ hc0 hc⟩
 |.lst m cs,v0,v,k0,k=>by
  simp only[VR] at k0 k ⊢;obtain⟨p,C,rfl,h1,h3,h2⟩:=k;obtain⟨p0,C0,rfl,_,_,h0⟩:=k0;refine⟨p,C,rfl,h1,h3,λhm=>?_⟩;obtain⟨B,o,vs,e1,e2,e3,e4⟩:=h2 hm;obtain⟨_,_,_,_,_,_,e0⟩:=h0 hm;exact⟨B,o,vs,e1,e2,e3,e4⟩
 |.xlst m cs,v0,v,k0,k=>by
  simp only[VR] at k0 k ⊢;obtain⟨p,rfl,h3,h2⟩:=k;obtain⟨p0,rfl,_,h0⟩:=k0;refine⟨p,rfl,h3,λhm=>?_⟩;obtain⟨B,o,vs,e1,e2,e3,e4⟩:=h2 hm;obtain⟨_,_,_,_,_,_,e0⟩:=h0 hm;exact⟨B,o,vs,e1,e2,e3,e4⟩
 |.lptr cs j,v0,v,k0,k=>by
  simp only[VR] at k0 k ⊢;obtain⟨B,o,vs,e1,e5,e2,e3,e4⟩:=k;obtain⟨_,_,_,_,_,_,_,e0⟩:=k0;exact⟨B,o,vs,e1,e5,e2,e3,e4⟩
 |.bad,_,_,_,k=>k
theorem VRs.hide {ι ι0:Inj}{n:Nat}(hn:∀ b,ι0 b≠.unborn->b<n):∀ (xs:List AV) (vs0 vs:List Value),VRs ι0 xs vs0->VRs ι xs vs->VRs (hide ι n) xs vs
 |[],_,_,_,k=>k
 |x :: xs,l0,l,k0,k=>by
  simp only[VRs] at k0 k ⊢;obtain⟨v,vs,rfl,h1,h2⟩:=k;obtain⟨v0,vs0,rfl,h10,h20⟩:=k0;exact⟨v,vs,rfl,VR.hide hn x _ _ h10 h1,VRs.hide hn xs _ _ h20 h2⟩
end
theorem MR.hide {ι ι0:Inj}{n:Nat}(hn:∀ b,ι0 b≠.unborn->b<n):∀ (es:List (AV×AV)) (l0 l:List MapEntry),MR ι0 es l0->MR ι es l->MR (hide ι n) es l
 |[],_,_,_,k=>k
 |e :: es,l0,l,k0,k=>by
  simp only[MR] at k0 k ⊢;obtain⟨x,xs,rfl,h1,h2,h3⟩:=k;obtain⟨x0,xs0,rfl,h10,h20,h30⟩:=k0;exact⟨x,xs,rfl,VR.hide hn _ _ _ h10 h1,VR.hide hn _ _ _ h20 h2,MR.hide hn es _ _ h30 h3⟩
def obnd (n:Nat)(o:AO):Prop:=∃ ι0 S0 x0,(∀ b,ι0 b≠.unborn->b<n)/\OR ι0 S0 o x0
def vbnd (n:Nat)(v:AV):Prop:=∃ ι0 x0,(∀ b,ι0 b≠.unborn->b<n)/\VR ι0 v x0
theorem vbnd.hide {n:Nat}{v:AV}(h:vbnd n v){ι:Inj}{x:Value}(k:VR ι v x):VR (hide ι n) v x:=by
 obtain⟨ι0,x0,hn,h0⟩:=h;exact VR.hide hn v x0 x h0 k
theorem vbnd.mono {n m:Nat}{v:AV}(h:vbnd n v)(hm:n<=m):vbnd m v:=by
 obtain⟨ι0,x0,hn,h0⟩:=h;exact⟨ι0,x0,λb hb=>Qat (hn b hb) hm,h0⟩
theorem obnd.mono {n m:Nat}{o:AO}(h:obnd n o)(hm:n<=m):obnd m o:=by
 obtain⟨ι0,S0,x0,hn,h0⟩:=h;exact⟨ι0,S0,x0,λb hb=>Qat (hn b hb) hm,h0⟩
theorem obnd.hide {n:Nat}{o:AO}(h:obnd n o){ι:Inj}{S:Nat}{x:Obj}(k:OR ι S o x):OR (hide ι n) S o x:=by
 obtain⟨ι0,S0,x0,hn,h0⟩:=h;cases o with
 |row m zl z cs=>
  simp only[OR] at h0 k ⊢;obtain⟨c,elem,lo,hi,rfl,h1,h2,h3,h4⟩:=k;obtain⟨c0,elem0,lo0,hi0,rfl,_,_,_,h40⟩:=h0;exact⟨c,elem,lo,hi,rfl,h1,h2,h3,λi hi=>let ⟨a,v,b,d⟩:=h4 i hi;let ⟨_,v0,_,d0⟩:=h40 i hi;⟨a,v,b,VR.hide hn _ _ _ d0 d⟩⟩
 |map es=>
  simp only[OR] at h0 k ⊢;obtain⟨ens,clock,rfl,hm⟩:=k;obtain⟨ens0,clock0,rfl,hm0⟩:=h0;exact⟨ens,clock,rfl,MR.hide hn _ _ _ hm0 hm⟩
 |iter s pos=>exact k
 |dead=>exact k
def Pu (F:St->ER):Prop:=∀ st v st',F st=.ok v st'->st'=st/\∀ st2,F st2=.ok v st2
theorem Pu.no:Pu λ_=>.no:=λst v st' h=>by cases h
theorem Pu.ok (v:AV):Pu λst=>.ok v st:=λst v' st' h=>by cases h;exact⟨rfl,λ_=>rfl⟩
theorem Pu.cond {b:Bool}{F G:St->ER}(hF:Pu F)(hG:Pu G):Pu λst=>cond b (F st) (G st):=by cases b<;>assumption
theorem Pu.bool {x:AV}{F:Bool->St->ER}(h:∀ b,Pu (F b)):Pu λst=>Z4 x λb=>F b st:=by
 cases x<;>first|exact h _|exact Pu.no
theorem Pu.ptr {x:AV}{F:Nat->Nat->St->ER}(h:∀ b o,Pu (F b o)):Pu λst=>ya x λb o=>F b o st:=by
 cases x<;>first|exact h _ _|exact Pu.no
theorem Pu.agg {x:AV}{F:List AV->St->ER}(h:∀ b,Pu (F b)):Pu λst=>Qy x λb=>F b st:=by
 cases x<;>first|exact h _|exact Pu.no
theorem Pu.str {x:AV}{F:Lc->St->ER}(h:∀ b,Pu (F b)):Pu λst=>zV x λb=>F b st:=by
 cases x<;>first|exact h _|exact Pu.no
theorem Pu.some {α:Type}{x:Option α}{F:α->St->ER}(h:∀ b,Pu (F b)):Pu λst=>jN x λb=>F b st:=by
 cases x<;>first|exact h _|exact Pu.no
theorem Pu.nat {x:AV}{F:Nat->St->ER}(h:∀ b,Pu (F b)):Pu λst=>qv x λb=>F b st:=by
 unfold qv;split
 .simp only[jF];exact h _
 .exact Pu.no
theorem Pu.force {n:Nat}{F:Nat->St->ER}(h:∀ b,Pu (F b)):Pu λst=>force n λb=>F b st:=by
 simp only[jF];exact h _
theorem Pu.opt {x:Option OF}{d:Nat}{env:Env}{F:Nat->St->ER}(h:∀ b,Pu (F b)):Pu λst=>optF x d env λb=>F b st:=by
 cases x
 .exact h _
 .exact Pu.nat h
end Go.Ev
end
