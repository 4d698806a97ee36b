/- A symbolic run of the program that Lean checks, and what the functions of the program come to by it: part 1 of 6. -/
import Derived.WalkKit
import Derived.OrdersHeld
import Derived.Maps.RangeRun
import Derived.KernelRfl
set_option linter.unusedVariables false
set_option maxHeartbeats 4000000
set_option maxRecDepth 10000
open Array renaming ext'->a3u,replicate->a4a,getElem?_eq_none->a4u
open Bool renaming and_eq_true->a0g
open Go.IntKind renaming u8->a1x
open Go.Sem renaming run_bind->a1n,run_pure->a2i
open List renaming range->a2f,map_congr_left->a2g,map_map->a3q,mem_map->a1d,map_cons->a3h,mem_cons->a0k,mem_of_mem_take->a5l,mem_of_getElem?->a0v,getElem?_map->a2t,length_map->a1k,size_toArray->a6a,append_assoc->a1g,getD->a0r,getElem?_eq_getElem->a0b,mem_singleton->a0d,mem_cons_self->a0f,mem_cons_of_mem->a0e,getElem?_eq_some_iff->a2l,all_eq_true->a0y,mem_range->a3f,length_append->a0c,eq_nil_of_length_eq_zero->a5m,length_take->a2b,length_drop->a2p,flatMap_append->a3y,getElem?_append_right->a6o,getElem?_append_left->a6x,flatMap_cons->a2z,append_nil->a1q
open Nat renaming beq->a1m,ble->a5r,le_refl->a0q,le_trans->a0n,lt_of_lt_of_le->a1b,beq_refl->a4h,le_of_ble_eq_true->a0w,le_succ->a4l,not_lt_zero->a0x,sub_zero->a3e,add_mul->a6l,zero_le->a0s,mul_le_mul_right->a6u,lt_succ_self->a3p,le_add_right->a0m
open Option renaming map_eq_some_iff->a1y,getD_some->a1e,map_some->a2u,getD_none->a4s,isSome_iff_exists->a2o
open Option.some renaming injEq->a0l,inj->a2h
open Prod.mk renaming injEq->a1f
theorem kq {α : Sort _} {a b : α} (h : a = b := by kernel_rfl) : a = b := h
section
namespace Go.SX
open Go
def inK:IntKind->Int->Prop
 | .i8,n=>-128<=n/\n<=127
 | .i16,n=>-32768<=n/\n<=32767
 | .i32,n=>-2147483648<=n/\n<=2147483647
 | .i64,n=>-9223372036854775808<=n/\n<=9223372036854775807
 | .u8,n=>0<=n/\n<=255
 | .u16,n=>0<=n/\n<=65535
 | .u32,n=>0<=n/\n<=4294967295
 | .u64,n=>0<=n/\n<=18446744073709551615
inductive SV where
 | int (k:IntKind) (n:Int)
 | bool (b:Bool)
 | sb (b:Bool)
 | str (l:List UInt8)
 | ptr (b off:Nat)
 | fn (f:FuncId) (cap:List Nat)
 | sli (b n cap:Nat)
 | row (r:Nat) (s:Option Addr) (n cap:Nat)
 | el (r:Nat) (s:Option Addr) (size i j:Nat)
 | val (v:Value)
 deriving Inhabited
inductive CV where
 | one (x:SV)
 | agg (xs:List SV)
 deriving Inhabited
inductive RV where
 | v (x:CV)
 | tup (xs:List CV)
 | grd (g:Nat) (pol:Bool) (c:Bool) (x:CV)
 deriving Inhabited
abbrev ov (x:SV):RV:=.v (.one x)
structure Blk where
 cells:List SV
 elem:TypeId
 rw:Bool
 deriving Inhabited
structure Row where
 s:Option Addr
 n:Nat
 cap:Nat
 elem:TypeId
 size:Nat
 get:Nat->List SV
 own:Bool
 obj:Option Obj:=none
structure m6 where
 D:Nat->Prop
 φ:World->Prop
structure St where
 n:Nat
 slots:List (Nat×RV)
 gs:List Nat
 heap:List (Nat×Blk)
 next:Nat
 rows:List (Nat×Row)
 nr:Nat
 pers:List m6
 wr:Bool
 fx:Nat:=0
 defs:List Deferred:=[]
structure Cfg where
 todo:List Item
 st:St
def SV.den (ρ:Nat->Nat):SV->Value
 | .int k n=>.int k n
 | .bool b=>.bool b
 | .sb b=>.bool b
 | .str l=>.string ⟨l.toArray⟩
 | .ptr b off=>.pointer (some ⟨ρ b,off,none⟩)
 | .fn f cap=>.func (.func f) #[] (cap.map λb=>Value.pointer (some ⟨ρ b,0,none⟩)).toArray
 | .sli b n cap=>.slice (some ⟨ρ b,0,none⟩) n cap
 | .row _ s n cap=>.slice s n cap
 | .el _ s size i j=>match s with
  | some a=>.pointer (some ⟨a.block,a.off+(i*size+j),none⟩)
  | none=>undef
 | .val v=>v
def CV.den (ρ:Nat->Nat):CV->Value
 | .one x=>x.den ρ
 | .agg xs=>.agg (xs.map (SV.den ρ)).toArray
def RV.den (ρ:Nat->Nat):RV->Value
 | .v x=>x.den ρ
 | .tup xs=>.tuple (xs.map (CV.den ρ)).toArray
 | .grd _ pol c x=>if c=pol then x.den ρ else undef
def look {α:Type}:List (Nat×α)->Nat->Option α
 | [],_=>none
 | (k,v)::l,i=>match a1m k i with
  | true=>some v
  | false=>look l i
def upd {α:Type}:List (Nat×α)->Nat->α->List (Nat×α)
 | [],i,v=>[(i,v)]
 | (k,u)::l,i,v=>match a1m k i with
  | true=>(k,v)::l
  | false=>(k,u)::upd l i v
def p5:List Nat->Nat->Bool
 | [],_=>false
 | k::l,i=>match a1m k i with
  | true=>true
  | false=>p5 l i
def M4 (l:List Nat) (g:Nat):List Nat:=match p5 l g with
 | true=>l
 | false=>g::l
def St.put (s:St) (d:Option Nat) (v:RV):Option St :=
 match d with
 | none=>some s
 | some d=>match Nat.blt d s.n with
  | false=>none
  | true=>match p5 s.gs d with
   | true=>none
   | false=>some { s with slots:=upd s.slots d v }
def rX:Value->SV
 | .int k n=>.int k n
 | .bool b=>.bool b
 | .string s=>.str s.data.toList
 | v=>.val v
def iW:Value->CV
 | .agg cs=>.agg (cs.toList.map rX)
 | v=>.one (rX v)
def ev (s:St) (gc:Option (Nat×Bool)):Operand->Option CV
 | .tmp t=>match look s.slots t with
  | some (.v x)=>some x
  | some (.grd g pol _ x)=>match gc with
   | some (g',pol')=>match a1m g g'&&(pol==pol') with
    | true=>some x
    | false=>none
   | none=>none
  | _=>none
 | .const v=>some (iW v)
 | .global g=>some (.one (.val (.pointer (some ⟨g,0,none⟩))))
 | .func f=>some (.one (.fn f []))
def CV.cells:CV->Option (List SV)
 | .one (.val (.agg _))=>none
 | .one (.val (.tuple _))=>none
 | .one (.val v)=>match v.oneCell' with
  | true=>some [.val v]
  | false=>none
 | .one x=>some [x]
 | .agg xs=>some xs
def SV.fit:SV->Bool
 | .val v=>v.oneCell'
 | .el _ _ _ _ _=>false
 | _=>true
def rY:List SV->Bool
 | []=>true
 | x::l=>match x.fit with
  | true=>rY l
  | false=>false
def rZ (P:Program) (t:TypeId):Option Bool :=
 match P.underlying t with
 | some (.struct _)=>some true
 | some (.array _ _)=>some true
 | some _=>some false
 | none=>none
def df (P:Program) (t:TypeId):Option Nat:=(P.info? t).map (·.size)
def mF (P:Program) (t:TypeId) (f:Nat):Option (Nat×TypeId×Nat) :=
 match P.underlying t with
 | some (.struct fs)=>match fs[f]? with
  | some fd=>match df P fd.type with
   | some sz=>some (fd.offset,fd.type,sz)
   | none=>none
  | none=>none
 | _=>none
def seg (xs:List SV) (off n:Nat):Option (List SV) :=
 let l:=(xs.drop off).take n
 match a1m l.length n with
 | true=>some l
 | false=>none
def R9 (P:Program) (t:TypeId) (xs:List SV) (off:Nat):Option CV :=
 match rZ P t with
 | some true=>match df P t with
  | some n=>match seg xs off n with
   | some l=>some (.agg l)
   | none=>none
  | none=>none
 | some false=>match xs.drop off with
  | x::_=>some (.one x)
  | []=>none
 | none=>none
def JI (op:BinOp) (a b:Int):Option Int :=
 match op with
 | .add=>some (a+b)
 | .sub=>some (a - b)
 | .mul=>some (a*b)
 | _=>none
def cmp (op:BinOp) (a b:Int):Option Bool :=
 match op with
 | .eql=>some (a==b)
 | .neq=>some (a != b)
 | .lss=>some (decide (a<b))
 | .leq=>some (decide (a<=b))
 | .gtr=>some (decide (a>b))
 | .geq=>some (decide (a>=b))
 | _=>none
def ig (wr:Bool) (k:IntKind) (n:Int):SV×List Prop :=
 match wr with
 | true=>(.int k (k.wrap n),[])
 | false=>(.int k n,[inK k n])
def JJ (op:BinOp) (k:IntKind) (a b:Int):Option Int :=
 match op with
 | .and=>some (k.wrap ((BitVec.ofInt k.bits a &&& BitVec.ofInt k.bits b).toNat:Int))
 | .or=>some (k.wrap ((BitVec.ofInt k.bits a ||| BitVec.ofInt k.bits b).toNat:Int))
 | .xor=>some (k.wrap ((BitVec.ofInt k.bits a ^^^ BitVec.ofInt k.bits b).toNat:Int))
 | .andNot=>some (k.wrap ((BitVec.ofInt k.bits a &&& ~~~ BitVec.ofInt k.bits b).toNat:Int))
 | _=>none
def aa (wr:Bool) (op:BinOp) (k:IntKind) (a b:Int):Option (SV×List Prop) :=
 match op with
 | .shl=>some (.int k (k.wrap (a*2 ^ (min b.toNat k.bits))),[0<=b])
 | .shr=>some (.int k (a.fdiv (2 ^ (min b.toNat k.bits))),[0<=b])
 | .quo=>match wr with
  | true=>some (.int k (k.wrap (a.tdiv b)),[b≠0])
  | false=>some (.int k (a.tdiv b),[b≠0,inK k (a.tdiv b)])
 | .rem=>some (.int k (a.tmod b),[b≠0])
 | _=>match JI op a b with
  | some n=>some (ig wr k n)
  | none=>match JJ op k a b with
   | some n=>some (.int k n,[])
   | none=>match cmp op a b with
    | some r=>some (.sb r,[])
    | none=>none
def sc (op:BinOp) (a b:List UInt8):Option (SV×List Prop) :=
 match op with
 | .add=>some (.str (a++b),[(a.length+b.length:Nat)<=9223372036854775807])
 | .eql=>some (.sb (a==b),[])
 | .neq=>some (.sb (!(a==b)),[])
 | _=>none
def nu:IntKind->IntKind->Bool
 | .i8,.i8 | .i16,.i16 | .i32,.i32 | .i64,.i64 | .u8,.u8 | .u16,.u16 | .u32,.u32 | .u64,.u64=>true
 | _,_=>false
def bOf:SV->Option Bool
 | .bool b=>some b
 | .sb b=>some b
 | _=>none
def ur:TypeDesc->SV->SV->Option Bool
 | .int _,.int k a,.int k' b=>match nu k k' with
  | true=>some (a==b)
  | false=>none
 | .bool,x,y=>match bOf x,bOf y with
  | some a,some b=>some (a==b)
  | _,_=>none
 | .string,.str a,.str b=>some (a==b)
 | _,_,_=>none
def eqF (P:Program) (xs ys:List SV):List Field->Option Bool
 | []=>some true
 | f::fs=>match f.name == "_" with
  | true=>eqF P xs ys fs
  | false=>match P.underlying f.type with
   | none=>none
   | some td=>match xs.drop f.offset,ys.drop f.offset with
    | x::_,y::_=>match ur td x y with
     | none=>none
     | some r=>match fs with
      | []=>some r
      | _=>match eqF P xs ys fs with
       | some q=>some (r&&q)
       | none=>none
    | _,_=>none
def qv (P:Program) (t:TypeId) (xs ys:List SV):Option Bool :=
 match P.underlying t with
 | some (.struct fs)=>match P.stoodInHeld t,P.eqGuardType P.depth t with
  | false,false=>eqF P xs ys fs.toList
  | _,_=>none
 | _=>none
def KS (P:Program) (wr:Bool) (op:BinOp) (t:TypeId) (x y:CV):Option (CV×List Prop) :=
 match x,y with
 | .one (.int k a),.one (.int k' b)=>match op with
  | .shl | .shr=>(aa wr op k a b).map λ(v,o)=>(.one v,o)
  | _=>match nu k k' with
   | true=>(aa wr op k a b).map λ(v,o)=>(.one v,o)
   | false=>none
 | .one (.str a),.one (.str b)=>(sc op a b).map λ(v,o)=>(.one v,o)
 | .one (.bool a),.one y=>match P.underlying t,bOf y with
  | some .bool,some b=>match op with
   | .eql=>some (.one (.sb (a==b)),[])
   | .neq=>some (.one (.sb (!(a==b))),[])
   | _=>none
  | _,_=>none
 | .one (.sb a),.one y=>match P.underlying t,bOf y with
  | some .bool,some b=>match op with
   | .eql=>some (.one (.sb (a==b)),[])
   | .neq=>some (.one (.sb (!(a==b))),[])
   | _=>none
  | _,_=>none
 | .agg xs,.agg ys=>match op with
  | .eql=>(qv P t xs ys).map λr=>(.one (.sb r),[])
  | .neq=>(qv P t xs ys).map λr=>(.one (.sb (!r)),[])
  | _=>none
 | _,_=>none
def unS (wr:Bool) (op:UnOp) (x:CV):Option (CV×List Prop) :=
 match op,x with
 | .not,.one (.bool b)=>some (.one (.bool (!b)),[])
 | .not,.one (.sb b)=>some (.one (.sb (!b)),[])
 | .neg,.one (.int k n)=>match ig wr k (0 - n) with
  | (x,ob)=>some (.one x,ob)
 | _,_=>none
def Cr (P:Program) (src dst:TypeId) (x:CV):Option CV :=
 match P.underlying src,P.underlying dst,x with
 | some _,some (.int k),.one (.int _ n)=>some (.one (.int k (k.wrap n)))
 | some _,some .string,.one (.str l)=>some (.one (.str l))
 | _,_,_=>none
def caps (s:St) (gc:Option (Nat×Bool)):List Operand->Option (List Nat)
 | []=>some []
 | o::l=>match ev s gc o with
  | some (.one (.ptr b 0))=>match caps s gc l with
   | some bs=>some (b::bs)
   | none=>none
  | _=>none
def kA (xs:List SV) (off:Nat) (ys:List SV):List SV:=xs.take off++ys++xs.drop (off+ys.length)
def nw (P:Program) (fs:Array Field) (i:Nat):Option (Nat×Nat) :=
 match fs[i]? with
 | some f=>match df P f.type with
  | some sz=>some (f.offset,sz)
  | none=>none
 | none=>none
def nz (s:St) (gc:Option (Nat×Bool)) (pl:Nat->Option (Nat×Nat)) (cells:List SV):List (Nat×Operand)->Option (List SV)
 | []=>some cells
 | (i,o)::l=>match pl i,ev s gc o with
  | some (off,sz),some v=>match v.cells with
   | none=>none
   | some ys=>match a1m ys.length sz,a5r (off+ys.length) cells.length with
    | true,true=>nz s gc pl (kA cells off ys) l
    | _,_=>none
  | _,_=>none
def yM (P:Program):List Field->Bool
 | []=>true
 | f::l=>match df P f.type with
  | some _=>yM P l
  | none=>false
def qx (P:Program) (t:TypeId):Option (List SV) :=
 match P.info? t with
 | some i=>match i.zero with
  | some z=>some (z.cells.toList.map rX)
  | none=>none
 | none=>none
def NZ (P:Program) (s:St) (gc:Option (Nat×Bool)) (c:Call):Option (RV×List Prop) :=
 match c.callee with
 | .builtin .len=>match c.args.toList,c.argTypes.toList with
  | [x],[t]=>match P.underlying t,ev s gc x with
   | some .string,some (.one (.str l))=>some (.v (.one (.int .i64 l.length)),[])
   | some (.slice _),some (.one (.val (.slice _ n _)))=>some (.v (.one (.int .i64 n)),[])
   | some (.slice _),some (.one (.sli _ n _))=>some (.v (.one (.int .i64 n)),[])
   | some (.slice _),some (.one (.row _ _ n _))=>some (.v (.one (.int .i64 n)),[])
   | _,_=>none
  | _,_=>none
 | .builtin .max=>match c.args.toList with
  | [x,y]=>match ev s gc x,ev s gc y with
   | some (.one (.int k a)),some (.one (.int _ b))=>some (.v (.one (.int k (if b>a then b else a))),[])
   | _,_=>none
  | _=>none
 | .builtin .cap=>match c.args.toList,c.argTypes.toList with
  | [x],[t]=>match P.underlying t,ev s gc x with
   | some (.slice _),some (.one (.val (.slice _ _ m)))=>some (.v (.one (.int .i64 m)),[])
   | some (.slice _),some (.one (.sli _ _ m))=>some (.v (.one (.int .i64 m)),[])
   | some (.slice _),some (.one (.row _ _ _ m))=>some (.v (.one (.int .i64 m)),[])
   | _,_=>none
  | _,_=>none
 | _=>none
def kB (s:St) (gc:Option (Nat×Bool)):Option Operand->Option (Option Int)
 | none=>some none
 | some o=>match ev s gc o with
  | some (.one (.int _ n))=>some (some n)
  | _=>none
def sd (P:Program) (s:St) (gc:Option (Nat×Bool)):Op->Option (RV×List Prop)
 | .move x | .assign x=>match x with
  | .tmp t=>match look s.slots t with
   | some (.tup xs)=>some (.tup xs,[])
   | _=>match ev s gc x with
    | some v=>some (.v v,[])
    | none=>none
  | _=>match ev s gc x with
   | some v=>some (.v v,[])
   | none=>none
 | .extract (.tmp t) i=>match look s.slots t with
  | some (.tup xs)=>match xs[i]? with
   | some x=>some (.v x,[])
   | none=>none
  | _=>none
 | .pick c a b=>match ev s gc c with
  | some (.one (.bool true))=>match ev s gc a with
   | some v=>some (.v v,[])
   | none=>none
  | some (.one (.bool false))=>match ev s gc b with
   | some v=>some (.v v,[])
   | none=>none
  | some (.one (.sb r))=>match c with
   | .tmp g=>match a,b with
    | .tmp u,.const (.bool false)=>match look s.slots u with
     | some (.grd g' true _ (.one x))=>match a1m g g',bOf x with
      | true,some q=>some (.v (.one (.sb (r&&q))),[])
      | _,_=>none
     | _=>none
    | .const (.bool true),.tmp u=>match look s.slots u with
     | some (.grd g' false _ (.one x))=>match a1m g g',bOf x with
      | true,some q=>some (.v (.one (.sb (r||q))),[])
      | _,_=>none
     | _=>none
    | _,_=>none
   | _=>none
  | _=>none
 | .load t a=>match ev s gc a with
  | some (.one (.ptr b off))=>match look s.heap b with
   | some blk=>match R9 P t blk.cells off with
    | some v=>some (.v v,[])
    | none=>none
   | none=>none
  | some (.one (.el r _ _ i j))=>match look s.rows r with
   | some R=>match R9 P t (R.get i) j with
    | some v=>some (.v v,[])
    | none=>none
   | none=>none
  | _=>none
 | .nilCheck x=>match ev s gc x with
  | some (.one (.ptr b off))=>some (.v (.one (.ptr b off)),[])
  | some (.one (.val (.pointer (some a))))=>some (.v (.one (.val (.pointer (some a)))),[])
  | some (.one (.fn f cap))=>some (.v (.one (.fn f cap)),[])
  | _=>none
 | .binOp op t x y _=>match ev s gc x,ev s gc y with
  | some a,some b=>match KS P s.wr op t a b with
   | some (v,o)=>some (.v v,o)
   | none=>none
  | _,_=>none
 | .unOp op _ x=>match ev s gc x with
  | some a=>match unS s.wr op a with
   | some (v,o)=>some (.v v,o)
   | none=>none
  | none=>none
 | .convert src dst x=>match ev s gc x with
  | some a=>match Cr P src dst a with
   | some v=>some (.v v,[])
   | none=>none
  | none=>none
 | .makeFunc (.func f) first captured=>match first.toList with
  | []=>match caps s gc captured.toList with
   | some bs=>some (.v (.one (.fn f bs)),[])
   | none=>none
  | _=>none
 | .fieldAddr t x f=>match mF P t f with
  | some (off,_,sz)=>match a1m sz 0 with
   | true=>none
   | false=>match ev s gc x with
    | some (.one (.ptr b o))=>some (.v (.one (.ptr b (o+off))),[])
    | some (.one (.el r q size i j))=>match look s.rows r with
     | some _=>some (.v (.one (.el r q size i (j+off))),[])
     | none=>none
    | _=>none
  | none=>none
 | .field t x f=>match mF P t f with
  | some (off,ft,_)=>match ev s gc x with
   | some (.agg xs)=>match R9 P ft xs off with
    | some v=>some (.v v,[])
    | none=>none
   | _=>none
  | none=>none
 | .indexAddr t x i=>match P.underlying t,ev s gc x,ev s gc i with
  | some (.slice e),some (.one (.row r q n _)),some (.one (.int _ k))=>match df P e,look s.rows r with
   | some sz,some R=>match a1m R.size sz with
    | true=>some (.v (.one (.el r q sz k.toNat 0)),[0<=k/\k<(n:Int)])
    | false=>none
   | _,_=>none
  | _,_,_=>none
 | .index t x i=>match P.underlying t,ev s gc x,ev s gc i with
  | some .string,some (.one (.str l)),some (.one (.int _ n))=>some (.v (.one (.int .u8 ((l.getD n.toNat 0).toNat:Int))),[0<=n/\n<(l.length:Int)])
  | _,_,_=>none
 | .build t parts=>match P.underlying t,qx P t with
  | some (.struct fs),some z=>match yM P fs.toList,nz s gc (nw P fs) z parts.toList with
   | true,some cs=>some (.v (.agg cs),[])
   | _,_=>none
  | _,_=>none
 | .call c=>NZ P s gc c
 | .slice t x lo hi none=>match P.underlying t,ev s gc x,kB s gc lo,kB s gc hi with
  | some .string,some (.one (.str l)),some lo',some ao =>
   some (.v (.one (.str ((l.take (ao.getD (l.length:Int)).toNat).drop (lo'.getD 0).toNat))),[0<=lo'.getD 0/\lo'.getD 0<=ao.getD (l.length:Int)/\ao.getD (l.length:Int)<=(l.length:Int)])
  | _,_,_,_=>none
 | _=>none
def U5 (q:Option Addr) (lo sz cap:Nat):Option Addr:=if cap=lo then q else q.map (·.add (lo*sz))
def se:Operand->Bool
 | .const (.slice none _ _)=>true
 | _=>false
def KT:SV->Option (Option Addr)
 | .val (.slice q _ _)=>some q
 | .row _ q _ _=>some q
 | _=>none
def wP:Operand->Bool
 | .const .nilIface=>true
 | _=>false
def wQ (P:Program) (s:St) (gc:Option (Nat×Bool)):Op->Option (RV×List Prop)
 | .indexAddr t x i=>match P.underlying t,ev s gc x,ev s gc i with
  | some (.slice e),some (.one (.sli b n _)),some (.one (.int _ k))=>match df P e with
   | some sz=>some (.v (.one (.ptr b (k.toNat*sz))),[0<=k/\k<(n:Int)])
   | none=>none
  | some (.array n e),some (.one (.ptr b off)),some (.one (.int _ k))=>match df P e with
   | some sz=>some (.v (.one (.ptr b (off+k.toNat*sz))),[0<=k/\k<(n:Int)])
   | none=>none
  | some (.array n e),some (.one (.el r q size i j)),some (.one (.int _ k))=>match df P e,look s.rows r with
   | some sz,some _=>some (.v (.one (.el r q size i (j+k.toNat*sz))),[0<=k/\k<(n:Int)])
   | _,_=>none
  | _,_,_=>none
 | .index t x i=>match P.underlying t,ev s gc x,ev s gc i with
  | some (.array n e),some (.agg xs),some (.one (.int _ k))=>match df P e with
   | some sz=>match R9 P e xs (k.toNat*sz) with
    | some v=>some (.v v,[0<=k/\k<(n:Int)])
    | none=>none
   | none=>none
  | _,_,_=>none
 | .build t parts=>match P.underlying t,qx P t with
  | some (.array _ e),some z=>match df P e with
   | some sz=>match nz s gc (λi=>some (i*sz,sz)) z parts.toList with
    | some cs=>some (.v (.agg cs),[])
    | none=>none
   | none=>none
  | _,_=>none
 | .slice t x lo hi none=>match P.underlying t,ev s gc x,kB s gc lo,kB s gc hi with
  | some (.slice e),some (.one (.val (.slice q n cap))),some lo',some ao=>match df P e with
   | some sz=>some (.v (.one (.val (.slice (U5 q (lo'.getD 0).toNat sz cap) ((ao.getD (n:Int)).toNat - (lo'.getD 0).toNat) (cap - (lo'.getD 0).toNat)))),
          [0<=lo'.getD 0/\lo'.getD 0<=ao.getD (n:Int)/\ao.getD (n:Int)<=(cap:Int)])
   | none=>none
  | some (.array n e),some (.one (.val (.pointer (some ad)))),some lo',some ao=>match df P e with
   | some sz=>some (.v (.one (.val (.slice (U5 (some ad) (lo'.getD 0).toNat sz n) ((ao.getD (n:Int)).toNat - (lo'.getD 0).toNat) (n - (lo'.getD 0).toNat)))),
          [0<=lo'.getD 0/\lo'.getD 0<=ao.getD (n:Int)/\ao.getD (n:Int)<=(n:Int)])
   | none=>none
  | _,_,_,_=>none
 | .binOp op t x y _=>match wP y,P.underlying t,ev s gc x with
  | true,some (.interface _),some (.one (.val v))=>match v,op with
   | .nilIface,.eql=>some (.v (.one (.bool true)),[])
   | .nilIface,.neq=>some (.v (.one (.bool false)),[])
   | .iface _ _,.eql=>some (.v (.one (.bool false)),[])
   | .iface _ _,.neq=>some (.v (.one (.bool true)),[])
   | _,_=>none
  | _,some (.slice _),some (.one v)=>match se y,KT v,op with
   | true,some q,.eql=>some (.v (.one (.sb q.isNone)),[])
   | _,_,_=>none
  | _,_,_=>none
 | .makeInterface t x=>match P.concrete t,ev s gc x with
  | true,some (.one (.int k n))=>some (.v (.one (.val (.iface t (.int k n)))),[])
  | _,_=>none
 | _=>none
def kC (P:Program) (s:St) (gc:Option (Nat×Bool)) (op:Op):Option (RV×List Prop) :=
 match sd P s gc op with
 | some r=>some r
 | none=>wQ P s gc op
def gW (P:Program) (s:St) (gc:Option (Nat×Bool)):Op->Option (RV×St)
 | .alloc t=>match qx P t with
  | some z=>some (.v (.one (.ptr s.next 0)),{ s with heap:=(s.next,⟨z,t,true⟩)::s.heap,next:=s.next+1 })
  | none=>none
 | .box t x=>match ev s gc x with
  | some v=>match v.cells with
   | some z=>some (.v (.one (.ptr s.next 0)),{ s with heap:=(s.next,⟨z,t,true⟩)::s.heap,next:=s.next+1 })
   | none=>none
  | none=>none
 | .buildSlice t len parts=>match P.underlying t with
  | some (.slice e)=>match df P e,qx P e with
   | some sz,some z=>match a5r (len*sz) 16777216,a1m z.length sz,a1m sz 0 with
    | true,true,false=>match nz s gc (λi=>some (i*sz,sz)) ((a2f (len*sz)).map λi=>z.getD (i % sz) (.val undef)) parts.toList with
     | some cs=>some (.v (.one (.sli s.next len len)),{ s with heap:=(s.next,⟨cs,e,true⟩)::s.heap,next:=s.next+1 })
     | none=>none
    | _,_,_=>none
   | _,_=>none
  | _=>none
 | _=>none
def Y5 (P:Program) (s:St) (gc:Option (Nat×Bool)):Op->Option St
 | .store t a x=>match ev s gc a,ev s gc x,df P t with
  | some (.one (.ptr b off)),some v,some sz=>match v.cells,look s.heap b with
   | some ys,some blk=>match blk.rw,a1m ys.length sz,a5r (off+ys.length) blk.cells.length,rY ys with
    | true,true,true,true=>some { s with heap:=upd s.heap b ⟨kA blk.cells off ys,blk.elem,true⟩ }
    | _,_,_,_=>none
   | _,_=>none
  | _,_,_=>none
 | _=>none
inductive Grd where
 | yes
 | no
 | ask (g:Nat) (pol:Bool) (c:Bool)
 | bad
def L7 (s:St) (ops:Array Oper):Option (Nat×Bool)->Grd
 | none=>.yes
 | some (j,pol)=>match ops[j]? with
  | none=>.bad
  | some o=>match o.dst with
   | none=>.bad
   | some g=>match look s.slots g with
    | some (.v (.one (.bool true)))=>match pol with
     | true=>.yes
     | false=>.no
    | some (.v (.one (.bool false)))=>match pol with
     | true=>.no
     | false=>.yes
    | some (.v (.one (.sb c)))=>.ask g pol c
    | some (.v (.one (.val (.tuple _))))=>.no
    | _=>.bad
def ii (c pol:Bool):List Prop->List Prop
 | []=>[]
 | p::l=>(c=pol->p)::ii c pol l
def ut (P:Program) (ops:Array Oper) (o:Oper) (s:St):Option (St×List Prop) :=
 match L7 s ops o.guard with
 | .yes=>match kC P s none o.op with
  | some (v,ob)=>match s.put o.dst v with
   | some s'=>some (s',ob)
   | none=>none
  | none=>match gW P s none o.op with
   | some (v,s1)=>match s1.put o.dst v with
    | some s'=>some (s',[])
    | none=>none
   | none=>match Y5 P s none o.op with
    | some s1=>match o.dst with
     | none=>some (s1,[])
     | some _=>none
    | none=>none
 | .no=>match s.put o.dst (.v (.one (.val undef))) with
  | some s'=>some (s',[])
  | none=>none
 | .ask g pol c=>match kC P s (some (g,pol)) o.op with
  | some (.v x,ob)=>match ({ s with gs:=M4 s.gs g }:St).put o.dst (.grd g pol c x) with
   | some s'=>some (s',ii c pol ob)
   | none=>none
  | _=>none
 | .bad=>none
def qz (P:Program) (c:Cfg):Option (Cfg×List Prop) :=
 match c.todo with
 | .code .skip::k | .code (.label _)::k | .inBlock _::k | .inScope _::k=>some (⟨k,c.st⟩,[])
 | .code (.seq a b)::k=>some (⟨.code a::.code b::k,c.st⟩,[])
 | .code (.block id body)::k=>some (⟨.code body::.inBlock id::k,c.st⟩,[])
 | .code (.scope body)::k=>some (⟨.code body::.inScope body::k,c.st⟩,[])
 | .code (.exit id)::k=>match exitTo id k with
  | some k'=>some (⟨k',c.st⟩,[])
  | none=>none
 | .code (.goto l)::k=>match gotoIn l k with
  | some k'=>some (⟨k',c.st⟩,[])
  | none=>none
 | .code (.cond x a b)::k=>match ev c.st none x with
  | some (.one (.bool true))=>some (⟨.code a::k,c.st⟩,[])
  | some (.one (.bool false))=>some (⟨.code b::k,c.st⟩,[])
  | _=>none
 | .code (.region _ ops false)::k=>some (⟨.inRegion ops (a2f ops.size)::k,c.st⟩,[])
 | .inRegion _ []::k=>some (⟨k,c.st⟩,[])
 | .inRegion ops (i::l)::k=>match ops[i]? with
  | some o=>match ut P ops o c.st with
   | some (s',ob)=>some (⟨.inRegion ops l::k,s'⟩,ob)
   | none=>none
  | none=>none
 | _=>none
def iX (P:Program):Nat->Cfg->Cfg×List Prop
 | 0,c=>(c,[])
 | n+1,c=>match qz P c with
  | none=>(c,[])
  | some (c',[])=>iX P n c'
  | some (c',ob)=>match iX P n c' with
   | (c'',ob')=>(c'',ob++ob')
def B9:List Prop->Prop
 | []=>True
 | [p]=>p
 | p::l=>p/\B9 l
end Go.SX
end
section
namespace Go.SX
open Go
structure Chg (S:Nat->Prop) (w w':World):Prop where
 os:w'.os=w.os
 tape:w'.tape=w.tape
 output:w'.output=w.output
 size:w.heap.size<=w'.heap.size
 block:∀ k,k<w.heap.size->¬ S k->w'.heap[k]?=w.heap[k]?
theorem Chg.refl (S:Nat->Prop) (w:World):Chg S w w:=⟨rfl,rfl,rfl,a0q _,λ_ _ _=>rfl⟩
theorem Chg.trans {S T:Nat->Prop} {a b c:World} (h:Chg S a b) (k:Chg T b c) (hT:∀ i,T i->a.heap.size<=i∨S i):Chg S a c :=
 ⟨k.os.trans h.os,k.tape.trans h.tape,k.output.trans h.output,a0n h.size k.size,λi hi hs =>
  (k.block i (a1b hi h.size) (λht=>(hT i ht).elim (λh1=>by omega) hs)).trans (h.block i hi hs)⟩
theorem Chg.mono {S T:Nat->Prop} {a b:World} (h:Chg S a b) (hT:∀ i,S i->T i):Chg T a b :=
 ⟨h.os,h.tape,h.output,h.size,λi hi hs=>h.block i hi (λq=>hs (hT i q))⟩
theorem Chg.alloc (S:Nat->Prop) (w:World) (o:Obj):Chg S w (w.alloc o) :=
 ⟨rfl,rfl,rfl,by simp,λk hk _=>Go.RowKit.Below.heap_alloc w o k hk⟩
structure WF where
 n:Nat
 nr:Nat
 rows:List (Nat×Row)
def St.W (s:St):WF:=⟨s.next,s.nr,s.rows⟩
structure WF.le (W W':WF):Prop where
 n:W.n<=W'.n
 nr:W.nr<=W'.nr
 rows:∀ r,r<W.nr->∀ R,look W'.rows r=some R->look W.rows r=some R
theorem WF.le.refl (W:WF):W.le W:=⟨a0q _,a0q _,λ_ _ _ h=>h⟩
def SV.wf (W:WF):SV->Prop
 | .ptr b _=>b<W.n
 | .fn _ cap=>∀ c∈cap,c<W.n
 | .sli b _ _=>b<W.n
 | .row r s n cap=>r<W.nr/\∀ R,look W.rows r=some R->R.s=s/\R.n=n/\R.cap=cap
 | .el r s size i _=>r<W.nr/\∀ R,look W.rows r=some R->R.s=s/\R.size=size/\i<R.n
 | _=>True
def CV.wf (W:WF):CV->Prop
 | .one x=>x.wf W
 | .agg xs=>∀ x∈xs,x.wf W
def RV.wf (W:WF):RV->Prop
 | .v x=>x.wf W
 | .tup xs=>∀ x∈xs,x.wf W
 | .grd _ pol c x=>c=pol->x.wf W
theorem SV.den_congr {W:WF} {ρ ρ':Nat->Nat} (h:∀ b,b<W.n->ρ' b=ρ b) (x:SV) (hx:x.wf W):x.den ρ'=x.den ρ:=by
 cases x with
 | ptr b off=>simp only [SV.den]; rw [h b hx]
 | fn f cap =>
  simp only [SV.den];congr 2;exact a2g λb hb=>by rw [h b (hx b hb)]
 | sli b m cap=>simp only [SV.den]; rw [h b hx]
 | _=>rfl
theorem x8 {W:WF} {ρ ρ':Nat->Nat} (h:∀ b,b<W.n->ρ' b=ρ b) (xs:List SV) (hx:∀ x∈xs,x.wf W):xs.map (SV.den ρ')=xs.map (SV.den ρ) :=
 a2g λx hm=>SV.den_congr h x (hx x hm)
theorem CV.den_congr {W:WF} {ρ ρ':Nat->Nat} (h:∀ b,b<W.n->ρ' b=ρ b) (x:CV) (hx:x.wf W):x.den ρ'=x.den ρ:=by
 cases x with
 | one x=>exact SV.den_congr h x hx
 | agg xs=>simp only [CV.den]; rw [x8 h xs hx]
theorem RV.den_congr {W:WF} {ρ ρ':Nat->Nat} (h:∀ b,b<W.n->ρ' b=ρ b) (x:RV) (hx:x.wf W):x.den ρ'=x.den ρ:=by
 cases x with
 | v x=>exact CV.den_congr h x hx
 | tup xs=>simp only [RV.den]; congr 2; exact a2g λx hm=>CV.den_congr h x (hx x hm)
 | grd g pol c x =>
  simp only [RV.den];split
  ·rename_i hc; exact CV.den_congr h x (hx hc)
  ·rfl
theorem SV.wf_mono {W W':WF} (h:W.le W') (x:SV) (hx:x.wf W):x.wf W':=by
 cases x with
 | ptr b off=>exact a1b hx h.n
 | fn f cap=>exact λc hc=>a1b (hx c hc) h.n
 | sli b _ _=>exact a1b hx h.n
 | row r s n cap=>exact ⟨a1b hx.1 h.nr,λR hR=>hx.2 R (h.rows r hx.1 R hR)⟩
 | el r s size i j=>exact ⟨a1b hx.1 h.nr,λR hR=>hx.2 R (h.rows r hx.1 R hR)⟩
 | _=>trivial
theorem CV.wf_mono {W W':WF} (h:W.le W') (x:CV) (hx:x.wf W):x.wf W':=by
 cases x with
 | one x=>exact SV.wf_mono h x hx
 | agg xs=>exact λy hy=>SV.wf_mono h y (hx y hy)
theorem RV.wf_mono {W W':WF} (h:W.le W') (x:RV) (hx:x.wf W):x.wf W':=by
 cases x with
 | v x=>exact CV.wf_mono h x hx
 | tup xs=>exact λy hy=>CV.wf_mono h y (hx y hy)
 | grd g pol c x=>exact λhc=>CV.wf_mono h x (hx hc)
def SV.den0 (x:SV):Value:=x.den (λ_=>0)
def SV.plain:SV->Prop
 | .int _ _ | .bool _ | .sb _ | .str _ | .val _=>True
 | _=>False
def Row.flat (R:Row):List Value:=(a2f R.n).flatMap λi=>(R.get i).map SV.den0
structure Row.ok (R:Row) (w:World):Prop where
 len:∀ i,i<R.n->(R.get i).length=R.size/\∀ x∈R.get i,x.plain
 addr:0<R.n->∃ b off,R.s=some ⟨b,off,none⟩/\∀ i j x,i<R.n->(R.get i)[j]?=some x->w.cell? ⟨b,off+(i*R.size+j),none⟩=some x.den0
 own:R.own=true->R.obj=none->w.ownsRow 0 R.elem R.size (.slice R.s R.n R.cap) R.n R.flat
 obj:∀ o,R.obj=some o->∃ g,R.s=some ⟨g,0,none⟩/\w.heap[g]?=some o
def Row.uses (R:Row) (k:Nat):Prop:=∃ a,R.s=some a/\a.block=k/\(R.own=true∨0<R.n∨R.obj.isSome=true)
theorem Row.ok.congr {R:Row} {w w':World} (h:R.ok w) (hb:∀ k,R.uses k->w'.heap[k]?=w.heap[k]?):R.ok w':=by
 refine ⟨h.len,λhn=>?_,λho J8=>?_,λo q8=>?_⟩
 ·obtain ⟨b,off,h1,h2⟩:=h.addr hn;refine ⟨b,off,h1,λi j x hi hx=>?_⟩;rw [World.cell?_of_block (w:=w) (hb b ⟨_,h1,rfl,.inr (.inl hn)⟩)];exact h2 i j x hi hx
 ·obtain ⟨h1,h2⟩:=h.own ho J8;refine ⟨h1,?_⟩;rcases h2 with h2 | ⟨g,cap,cur,hv,hg,hh,r⟩
  ·exact .inl h2
  ·refine .inr ⟨g,cap,cur,hv,hg,?_,r⟩;have hs:R.s=some ⟨g,0,none⟩:=by injection hv
   rw [hb g ⟨_,hs,rfl,.inl ho⟩];exact hh
 ·obtain ⟨g,h1,h2⟩:=h.obj o q8;exact ⟨g,h1,by rw [hb g ⟨_,h1,rfl,.inr (.inr (by rw [q8]; rfl))⟩]; exact h2⟩
theorem N7 {x:SV} (h:x.plain) (W:WF):x.wf W:=by
 cases x<;>first | trivial | exact h.elim
theorem J0 {x:SV} (h:x.plain) (ρ:Nat->Nat):x.den ρ=x.den0:=by
 cases x<;>first|rfl | exact h.elim
theorem d6 (a b:Nat):a1m a b=true↔a=b:=⟨Nat.eq_of_beq_eq_true,λh=>h▸a4h a⟩
theorem C5 {a b:Nat} (h:a1m a b=false):a≠b:=λe=>by rw [(d6 a b).2 e] at h; cases h
theorem s8 {α:Type} (l:List (Nat×α)) (i j:Nat) (v:α):look (upd l i v) j=if i=j then some v else look l j:=by
 induction l with
 | nil =>
  simp only [upd,look];by_cases h:i=j
  ·rw [(d6 i j).2 h,if_pos h]
  ·cases hb:a1m i j with
   | true=>exact absurd ((d6 i j).1 hb) h
   | false=>rw [if_neg h]
 | cons p l ih =>
  obtain ⟨k,u⟩:=p;simp only [upd];cases hk:a1m k i with
  | true =>
   have:=(d6 k i).1 hk;subst this;simp only [look];cases hj:a1m k j with
   | true=>rw [if_pos ((d6 k j).1 hj)]
   | false=>rw [if_neg (C5 hj)]
  | false =>
   simp only [look];cases hj:a1m k j with
   | true =>
    have e:=(d6 k j).1 hj;rw [if_neg (λh=>C5 hk (e.trans h.symm))]
   | false=>exact ih
structure Ctx where
 P:Program
 f:FuncId
 R:Ending->World->Prop
 S:Nat->Prop
 w0:World
 base:Nat->Nat
 round:Option Nat
structure Sat (C:Ctx) (ρ:Nat->Nat) (s:St) (a:Act) (w:World):Prop where
 n:a.tmps.size=s.n
 slots:∀ i v,look s.slots i=some v->a.tmps[i]?=some (v.den ρ)/\v.wf s.W
 grds:∀ i g pol c x,look s.slots i=some (.grd g pol c x)->p5 s.gs g=true/\look s.slots g=some (.v (.one (.sb c)))
 heap:∀ b blk,look s.heap b=some blk->b<s.next/\w.heap[ρ b]?=some (.cells (blk.cells.map (SV.den ρ)).toArray blk.elem (0,0)) /\
  (∀ x∈blk.cells,x.wf s.W)/\(blk.rw=true->C.w0.heap.size<=ρ b∨C.S (ρ b))
 inj:∀ b c,b<s.next->c<s.next->ρ b=ρ c->b=c
 lt:∀ b,b<s.next->ρ b<w.heap.size
 defers:a.defers=s.defs
 chg:Chg C.S C.w0 w
 rows:∀ r R,look s.rows r=some R->r<s.nr/\R.ok w/\∀ k,R.uses k->k<w.heap.size/\(∀ b,b<s.next->ρ b≠k)/\(R.own=true->C.w0.heap.size<=k∨C.S k)
 rowsD:∀ r r' R R',look s.rows r=some R->look s.rows r'=some R'->r≠r'->R.own=true->∀ k,R.uses k->¬ R'.uses k
 pers:∀ p∈s.pers,p.φ w/\(∀ w',(∀ k,p.D k->w'.heap[k]?=w.heap[k]?)->p.φ w') /\
  ∀ k,p.D k->k<w.heap.size/\(∀ b,b<s.next->ρ b≠k)/\∀ r R,look s.rows r=some R->R.own=true->¬ R.uses k
 fix:∀ b,b<s.fx->b<s.next/\ρ b=C.base b
structure kD (ρ:Nat->Nat) (s:St) (W:WF) (a:Act) (w:World):Prop where
 slots:∀ i v,look s.slots i=some v->a.tmps[i]?=some (v.den ρ)/\v.wf W
 grds:∀ i g pol c x,look s.slots i=some (.grd g pol c x)->p5 s.gs g=true/\look s.slots g=some (.v (.one (.sb c)))
 heap:∀ b blk,look s.heap b=some blk->w.heap[ρ b]?=some (.cells (blk.cells.map (SV.den ρ)).toArray blk.elem (0,0))/\(∀ x∈blk.cells,x.wf W)
 rows:∀ r R,look s.rows r=some R->R.ok w/\look W.rows r=some R
theorem Sat.toP {C:Ctx} {ρ:Nat->Nat} {s:St} {a:Act} {w:World} (h:Sat C ρ s a w):kD ρ s s.W a w :=
 ⟨h.slots,h.grds,λb blk hb=>⟨(h.heap b blk hb).2.1,(h.heap b blk hb).2.2.1⟩,λr R hR=>⟨(h.rows r R hR).2.1,hR⟩⟩
section put
variable {C:Ctx} {ρ:Nat->Nat} {s s':St} {a:Act} {w:World}
theorem w9:∀ (l:List Nat) (i:Nat),p5 l i=true↔i∈l
 | [],i=>by simp [p5]
 | k::l,i=>by
  simp only [p5];cases h:a1m k i with
  | true=>simp [(d6 k i).1 h]
  | false=>have:=C5 h; simp [w9 l i]; omega
theorem Sat.put {d:Option Nat} {v:RV} (h:Sat C ρ s a w) (hp:s.put d v=some s') (hw:v.wf s.W)
  (hg:∀ g pol c x,v=.grd g pol c x->p5 s.gs g=true/\look s.slots g=some (.v (.one (.sb c)))/\d≠some g):Sat C ρ s' (a.put d (v.den ρ)) w:=by
 cases d with
 | none =>
  simp only [St.put,a0l] at hp;subst hp;exact h
 | some d =>
  simp only [St.put] at hp;split at hp
  ·cases hp
  ·rename_i hd;split at hp
   ·cases hp
   ·rename_i mu;simp only [a0l] at hp;subst hp;have NQ:d<s.n:=by rw [Nat.blt_eq] at hd; exact hd
    refine { h with n:=?_,slots:=?_,grds:=?_ }
    ·simp [Act.put,h.n]
    ·intro i u hu;simp only [s8] at hu;simp only [Act.put];by_cases hi:d=i
     ·subst hi;rw [if_pos rfl] at hu;cases hu;exact ⟨by rw [Array.getElem?_setIfInBounds]; simp [h.n,NQ],hw⟩
     ·rw [if_neg hi] at hu;exact ⟨by rw [Array.getElem?_setIfInBounds,if_neg hi]; exact (h.slots i u hu).1,(h.slots i u hu).2⟩
    ·intro i g pol c x hu;simp only [s8] at hu ⊢;by_cases hi:d=i
     ·subst hi;rw [if_pos rfl] at hu;cases hu;obtain ⟨h1,h2,h3⟩:=hg g pol c x rfl;exact ⟨h1,by rw [if_neg (λe=>h3 (by rw [e]))]; exact h2⟩
     ·rw [if_neg hi] at hu;obtain ⟨h1,h2⟩:=h.grds i g pol c x hu;refine ⟨h1,?_⟩;rw [if_neg (λe=>?_)]
      ·exact h2
      ·rw [e,h1] at mu; cases mu
end put
end Go.SX
end
section
namespace Go.SX
open Go
theorem nA (ρ:Nat->Nat) (v:Value):(rX v).den ρ=v:=by
 cases v<;>simp [rX,SV.den]
theorem sg (n:WF) (v:Value):(rX v).wf n:=by
 cases v<;>simp [rX,SV.wf]
theorem qA (ρ:Nat->Nat) (v:Value):(iW v).den ρ=v:=by
 cases v with
 | agg cs =>
  simp only [iW,CV.den,a3q];have:(SV.den ρ ∘ rX)=id:=funext (nA ρ);rw [this]; simp
 | _=>simp [iW,CV.den,nA]
theorem Cs (n:WF) (v:Value):(iW v).wf n:=by
 cases v with
 | agg cs=>simp only [iW,CV.wf]; intro x hx; obtain ⟨u,_,rfl⟩:=a1d.1 hx; exact sg n u
 | _=>simp only [iW,CV.wf]; exact sg n _
section
variable {C:Ctx} {ρ:Nat->Nat} {s s':St} {a:Act} {w:World} {gc:Option (Nat×Bool)} {W:WF}
def E1 (s:St) (gc:Option (Nat×Bool)):Prop:=∀ g pol,gc=some (g,pol)->look s.slots g=some (.v (.one (.sb pol)))
theorem j9 (s:St):E1 s none:=λ_ _ h=>by cases h
theorem kD.tmp (h:kD ρ s W a w) {t:Nat} {v:RV} (hl:look s.slots t=some v):a.eval (.tmp t)=v.den ρ:=by
 have:=(h.slots t v hl).1;simp [Act.eval,Array.getD_eq_getD_getElem?,this]
theorem d7 (h:kD ρ s W a w) (hg:E1 s gc) {o:Operand} {x:CV} (he:ev s gc o=some x):a.eval o=x.den ρ/\x.wf W:=by
 cases o with
 | tmp t =>
  simp only [ev] at he;split at he
  ·rename_i y hl;cases he;exact ⟨h.tmp hl,(h.slots t _ hl).2⟩
  ·rename_i g pol c y hl;split at he
   ·rename_i g' pol';split at he
    ·rename_i hb;cases he;simp only [a0g,beq_iff_eq] at hb;have e1:=(d6 g g').1 hb.1;have e2:=hb.2;subst e1; subst e2;have h1:=hg g pol rfl;have h2:=(h.grds t g pol c x hl).2;rw [h1] at h2;injection h2 with h2; injection h2 with h2; injection h2 with h2; injection h2 with h2;subst h2;refine ⟨?_,(h.slots t _ hl).2 rfl⟩;rw [h.tmp hl];simp [RV.den]
    ·cases he
   ·cases he
  ·cases he
 | const v =>
  simp only [ev,a0l] at he;subst he;exact ⟨(qA ρ v).symm,Cs _ v⟩
 | global g =>
  simp only [ev,a0l] at he;subst he;exact ⟨rfl,trivial⟩
 | func f =>
  simp only [ev,a0l] at he;subst he;exact ⟨by simp [Act.eval,CV.den,SV.den],by simp [CV.wf,SV.wf]⟩
theorem eS {x:CV} {l:List SV} (h:x.cells=some l) (n:WF) (hx:x.wf n):(x.den ρ).cells=(l.map (SV.den ρ)).toArray/\∀ y∈l,y.wf n:=by
 cases x with
 | one y =>
  cases y with
  | val v =>
   cases v<;>simp [CV.cells,Value.oneCell'] at h<;>(subst h; simp [CV.den,SV.den,Value.cells,SV.wf])
  | el r q size i j =>
   simp only [CV.cells,a0l] at h;subst h;simp only [CV.wf] at hx;cases q<;>simp [CV.den,SV.den,Value.cells,hx,undef]
  | _ =>
   simp only [CV.cells,a0l] at h;subst h;simp only [CV.wf] at hx;simp [CV.den,SV.den,Value.cells,hx]
 | agg xs =>
  simp only [CV.cells,a0l] at h;subst h;exact ⟨by simp [CV.den,Value.cells],hx⟩
theorem kE {x:SV} (h:x.fit=true):(x.den ρ).oneCell'=true:=by
 cases x<;>first|rfl | exact h | skip;rename_i r q size i j;cases q
 ·simp [SV.fit] at h
 ·rfl
theorem iY:∀ {l:List SV},rY l=true->∀ v∈l.map (SV.den ρ),v.oneCell'=true
 | [],_,v,hv=>by simp at hv
 | x::l,h,v,hv=>by
  simp only [rY] at h;split at h
  ·rename_i hx;simp only [a3h,a0k] at hv;rcases hv with rfl | hv
   ·exact kE hx
   ·exact iY h v hv
  ·cases h
theorem y7 {P:Program} {t n:Nat} (h:df P t=some n):(sizeOf t).run P w=.ok n w:=by
 simp only [df,a1y] at h;obtain ⟨i,hi,rfl⟩:=h;simp [sizeOf,typeInfo,hi]
theorem i7 {P:Program} {t:Nat} {d:TypeDesc} (h:P.underlying t=some d):(underlying t).run P w=.ok d w:=by
 simp [underlying,h]
theorem dg {P:Program} {t:Nat} {b:Bool} (h:rZ P t=some b):(isAgg t).run P w=.ok b w:=by
 cases hu:P.underlying t with
 | none=>simp [rZ,hu] at h
 | some d =>
  simp only [rZ,hu] at h;simp only [isAgg,a1n,i7 hu,Result.andThen_ok];cases d<;>simp_all
theorem qB {xs l:List SV} {off n:Nat} (h:seg xs off n=some l):l=(xs.drop off).take n/\l.length=n:=by
 simp only [seg] at h;split at h
 ·rename_i hb;cases h;exact ⟨rfl,(d6 _ _).1 hb⟩
 ·cases h
theorem iZ {P:Program} {t:Nat} {xs:List SV} {off:Nat} {v:CV} (h:R9 P t xs off=some v) (n:WF) (hx:∀ x∈xs,x.wf n) :
  (part t (xs.map (SV.den ρ)).toArray off).run P w=.ok (v.den ρ) w/\v.wf n:=by
 simp only [R9] at h;split at h
 ·rename_i hb;split at h
  ·rename_i m hm;split at h
   ·rename_i l hl;cases h;obtain ⟨rfl,n8⟩:=qB hl;refine ⟨?_,λx qa=>hx x (List.mem_of_mem_drop (a5l qa))⟩;simp only [part,a1n,dg hb,Result.andThen_ok,if_true,y7 hm,a2i,CV.den];congr 2;apply a3u;simp [List.map_take,List.map_drop]
   ·cases h
  ·cases h
 ·rename_i hb;split at h
  ·rename_i x l hd;cases h;have km:xs[off]?=some x:=by
    have:=congrArg (λq=>q[0]?) hd;simpa using this
   refine ⟨?_,hx x (a0v km)⟩;simp [part,dg hb,km,CV.den]
  ·cases h
 ·cases h
theorem gX {P:Program} {t:Nat} {xs:List SV} {off g base:Nat} {v:CV} (h:R9 P t xs off=some v) (n:WF) (hx:∀ x∈xs,x.wf n)
  (W1:∀ (i:Nat) (x:SV),xs[i]?=some x->w.cell? ⟨g,base+i,none⟩=some (x.den ρ)) :
  (loadVar t ⟨g,base+off,none⟩).run P w=.ok (v.den ρ) w/\v.wf n:=by
 simp only [R9] at h;split at h
 ·rename_i hb;split at h
  ·rename_i m hm;split at h
   ·rename_i l hl;cases h;obtain ⟨rfl,n8⟩:=qB hl;refine ⟨?_,λx qa=>hx x (List.mem_of_mem_drop (a5l qa))⟩;have UV:=run_loadCells_list (P:=P) w ⟨g,base+off,none⟩ (((xs.drop off).take m).map (SV.den ρ)) (by
     intro j u hj;simp only [a2t,a1y] at hj;obtain ⟨y,hy,rfl⟩:=hj;have AA:xs[off+j]?=some y:=by
      rw [List.getElem?_take] at hy;split at hy
      ·simpa using hy
      ·cases hy
     have:=W1 _ _ AA;have e:(⟨g,base+off,none⟩:Addr).add j=⟨g,base+(off+j),none⟩:=by unfold Addr.add; split<;>simp_all; omega
     rw [e]; exact this)
    rw [a1k,n8] at UV;simp only [loadVar,a1n,dg hb,Result.andThen_ok,if_true,y7 hm,UV,a2i,CV.den]
   ·cases h
  ·cases h
 ·rename_i hb;split at h
  ·rename_i x l hd;cases h;have km:xs[off]?=some x:=by
    have:=congrArg (λq=>q[0]?) hd;simpa using this
   refine ⟨?_,hx x (a0v km)⟩;simp [loadVar,dg hb,CV.den,W1 _ _ km]
  ·cases h
 ·cases h
theorem U6 {P:Program} {t:Nat} {xs:List SV} {off g:Nat} {e:TypeId} {v:CV} (h:R9 P t xs off=some v) (n:WF) (hx:∀ x∈xs,x.wf n)
  (hg:w.heap[g]?=some (.cells (xs.map (SV.den ρ)).toArray e (0,0))) :
  (loadVar t ⟨g,off,none⟩).run P w=.ok (v.den ρ) w/\v.wf n:=by
 have:=gX (ρ:=ρ) (w:=w) (g:=g) (base:=0) h n hx (by
  intro i x hi;simp [World.cell?,hg,hi])
 simpa using this
theorem ij {k k':IntKind} (h:nu k k'=true):k=k':=by
 cases k<;>cases k'<;>simp [nu] at h<;>rfl
theorem ja {k:IntKind} {n:Int} (h:inK k n):k.wrap n=n:=by
 cases k<;>simp only [inK] at h<;>simp [IntKind.wrap,IntKind.bits,IntKind.signed]<;>omega
theorem sh (a b:List UInt8):((⟨a.toArray⟩:ByteArray).toList==(⟨b.toArray⟩:ByteArray).toList)=(a==b):=by
 rw [ByteArray.toList_eq,ByteArray.toList_eq]
end
end Go.SX
end
section
namespace Go.SX
open Go
section
variable {C:Ctx} {ρ:Nat->Nat} {s s':St} {a:Act} {w:World} {gc:Option (Nat×Bool)}
theorem nB {k:IntKind} {wr:Bool} {n:Int} {x:SV} {ob:List Prop}
  (h:ig wr k n=(x,ob)) (ho:∀ p∈ob,p):x.den ρ=.int k (k.wrap n)/\∀ m,x.wf m:=by
 cases wr
 ·simp only [ig,a1f] at h;obtain ⟨rfl,rfl⟩:=h;have:=ho (inK k n) (by simp);exact ⟨by rw [ja this]; rfl,λ_=>trivial⟩
 ·simp only [ig,a1f] at h;obtain ⟨rfl,rfl⟩:=h;exact ⟨rfl,λ_=>trivial⟩
theorem dh {P:Program} {wr:Bool} {op:BinOp} {k:IntKind} {x y:Int} {v:SV} {ob:List Prop} (t:TypeId) (yk:IntKind)
  (hk:op≠.shl->op≠.shr->yk=k)
  (h:aa wr op k x y=some (v,ob)) (ho:∀ p∈ob,p) :
  (binOp op t (.int k x) (.int yk y)).run P w=.ok (v.den ρ) w/\∀ m,v.wf m:=by
 have ar:∀ (n:Int),some (ig wr k n)=some (v,ob)->v.den ρ=.int k (k.wrap n)/\∀ m,v.wf m:=λn h=>nB (by simpa using h) ho;cases op
 case shl =>
  simp only [aa,a0l,a1f] at h;obtain ⟨rfl,rfl⟩:=h;have h0:=ho (0<=y) (by simp);have:¬ y<0:=by omega
  exact ⟨by simp [binOp,Op.shift,this,SV.den],λ_=>trivial⟩
 case shr =>
  simp only [aa,a0l,a1f] at h;obtain ⟨rfl,rfl⟩:=h;have h0:=ho (0<=y) (by simp);have:¬ y<0:=by omega
  exact ⟨by simp [binOp,Op.shift,this,SV.den],λ_=>trivial⟩
 all_goals
  have Cf:=hk (by intro e; cases e) (by intro e; cases e);subst Cf
 case quo =>
  cases wr
  ·simp only [aa,a0l,a1f] at h;obtain ⟨rfl,rfl⟩:=h;have h0:=ho (y≠0) (by simp);have h1:=ho (inK yk (x.tdiv y)) (by simp);exact ⟨by simp [binOp,Op.intDiv,h0,SV.den,ja h1],λ_=>trivial⟩
  ·simp only [aa,a0l,a1f] at h;obtain ⟨rfl,rfl⟩:=h;have h0:=ho (y≠0) (by simp);exact ⟨by simp [binOp,Op.intDiv,h0,SV.den],λ_=>trivial⟩
 case rem =>
  simp only [aa,a0l,a1f] at h;obtain ⟨rfl,rfl⟩:=h;have h0:=ho (y≠0) (by simp);exact ⟨by simp [binOp,Op.intDiv,h0,SV.den],λ_=>trivial⟩
 case add=>have:=ar (x+y) h; exact ⟨by rw [this.1]; simp [binOp,Op.intArith],this.2⟩
 case sub=>have:=ar (x - y) h; exact ⟨by rw [this.1]; simp [binOp,Op.intArith],this.2⟩
 case mul=>have:=ar (x*y) h; exact ⟨by rw [this.1]; simp [binOp,Op.intArith],this.2⟩
 all_goals
  simp only [aa,JI,JJ,cmp] at h;simp only [a0l,a1f] at h;obtain ⟨rfl,rfl⟩:=h;exact ⟨by simp [binOp,Op.intCmp,Op.intBits,SV.den],λ_=>trivial⟩
theorem si {P:Program} {op:BinOp} {x y:List UInt8} {v:SV} {ob:List Prop} (t:TypeId)
  (h:sc op x y=some (v,ob)) (ho:∀ p∈ob,p) :
  (binOp op t (.string ⟨x.toArray⟩) (.string ⟨y.toArray⟩)).run P w=.ok (v.den ρ) w/\∀ m,v.wf m:=by
 cases op<;>simp only [sc] at h<;>first | (cases h; done) | skip
 ·simp only [a0l,a1f] at h;obtain ⟨rfl,rfl⟩:=h;have h0:=ho ((x.length+y.length:Nat)<=9223372036854775807) (by simp);refine ⟨?_,λ_=>trivial⟩;have hm:IntKind.i64.max=9223372036854775807:=by decide
  have hs:¬ ((((⟨x.toArray⟩:ByteArray).size+(⟨y.toArray⟩:ByteArray).size:Nat):Int)>9223372036854775807):=by
   simp only [ByteArray.size,a6a]; omega
  simp only [binOp,Op.stringOp,hm,if_neg hs,a2i,SV.den];congr 2
  try (apply ByteArray.ext; simp)
 ·simp only [a0l,a1f] at h;obtain ⟨rfl,rfl⟩:=h;exact ⟨by simp only [binOp,Op.stringOp,sh,a2i,SV.den],λ_=>trivial⟩
 ·simp only [a0l,a1f] at h;obtain ⟨rfl,rfl⟩:=h;exact ⟨by simp only [binOp,Op.stringOp,sh,a2i,SV.den],λ_=>trivial⟩
theorem bH {x:SV} {b:Bool} (h:bOf x=some b):x.den ρ=.bool b:=by
 cases x<;>simp [bOf] at h<;>(subst h; rfl)
theorem uu {P:Program} {td:TypeDesc} {x y:SV} {r:Bool} (d:Nat) (t:TypeId) (ht:P.underlying t=some td) (h:ur td x y=some r) :
  (Op.equalIn (d+1) t (x.den ρ) (y.den ρ)).run P w=.ok r w:=by
 unfold ur at h;split at h
 ·split at h
  ·rename_i hk;cases h;have:=ij hk;subst this;exact run_equalIn_int w d t _ _ _ _ ht
  ·cases h
 ·split at h
  ·rename_i ha hb;cases h;rw [bH ha,bH hb];exact run_equalIn_bool' w d t _ _ ht
  ·cases h
 ·cases h;simp only [SV.den];rw [run_equalIn_string w d t _ _ ht,sh]
 ·cases h
theorem uv {P:Program} {td:TypeDesc} {x y:SV} {r:Bool} {t:TypeId} (ht:P.underlying t=some td) (h:ur td x y=some r):(isAgg t).run P w=.ok false w:=by
 simp only [isAgg,a1n,i7 ht,Result.andThen_ok];cases td<;>simp [ur] at h<;>rfl
theorem kF {P:Program} {xs ys:List SV} (d:Nat):∀ (fs:List Field) {r:Bool},eqF P xs ys fs=some r ->
  (Op.eqFields (d+1) (xs.map (SV.den ρ)).toArray (ys.map (SV.den ρ)).toArray fs).run P w=.ok r w
 | [],r,h=>by
  simp only [eqF,a0l] at h;subst h;simp [Op.eqFields]
 | f::fs,r,h=>by
  simp only [eqF] at h;split at h
  ·rename_i hn;have dc:f.name = "_":=by simpa using hn
   simp only [Op.eqFields,dc,ne_eq,not_true_eq_false,if_false];exact kF d fs h
  ·rename_i hn;have dc:f.name ≠ "_":=by simpa using hn
   split at h
   ·cases h
   ·rename_i td Wd;split at h
    ·rename_i x xl y yl hx hy;split at h
     ·cases h
     ·rename_i q hq;have Wt:xs[f.offset]?=some x:=by have:=congrArg (λq=>q[0]?) hx; simpa using this
      have Ww:ys[f.offset]?=some y:=by have:=congrArg (λq=>q[0]?) hy; simpa using this
      have hp:=uv (w:=w) Wd hq;have p1:(part f.type (xs.map (SV.den ρ)).toArray f.offset).run P w=.ok (x.den ρ) w:=by simp [part,hp,Wt]
      have p2:(part f.type (ys.map (SV.den ρ)).toArray f.offset).run P w=.ok (y.den ρ) w:=by simp [part,hp,Ww]
      have p3:=uu (ρ:=ρ) (w:=w) d f.type Wd hq;simp only [Op.eqFields,ne_eq,dc,not_false_eq_true,if_true,a1n,p1,p2,p3,Result.andThen_ok];split at h
      ·cases h;cases r<;>simp [Op.eqFields]
      ·rename_i E0;split at h
       ·rename_i q2 GU;cases h;have ih:=kF d fs GU;cases q
        ·simp
        ·simp [ih]
       ·cases h
    ·cases h
theorem lR {P:Program} {t:TypeId} {xs ys:List SV} {r:Bool} (h:qv P t xs ys=some r) :
  (Op.equalIn 10000 t (.agg (xs.map (SV.den ρ)).toArray) (.agg (ys.map (SV.den ρ)).toArray)).run P w=.ok r w/\P.eqGuardType P.depth t=false:=by
 simp only [qv] at h;split at h
 ·rename_i fs hu;split at h
  ·rename_i h1 h2;refine ⟨?_,h2⟩;have NE:P.fieldsOf t=fs:=by simp [Program.fieldsOf,hu]
   rw [run_equalIn_struct w 9999 t _ _ (by rw [NE]; exact hu) h1,NE];exact kF 9998 fs.toList h
  ·cases h
 ·cases h
theorem J3 {P:Program} (op:BinOp) (t:TypeId) (ox oy:Operand) (x y:Value) (h1:∀ cs,x≠.agg cs) (h2:x≠.nilIface):(eqGuard op t ox oy x y).run P w=.ok () w:=by
 unfold eqGuard;cases op<;>cases x<;>simp_all
theorem wR {P:Program} {wr:Bool} {op:BinOp} {t:TypeId} {x y v:CV} {ob:List Prop} (ox oy:Operand)
  (h:KS P wr op t x y=some (v,ob)) (ho:∀ p∈ob,p) :
  (do eqGuard op t ox oy (x.den ρ) (y.den ρ); binOp op t (x.den ρ) (y.den ρ):Sem Value).run P w=.ok (v.den ρ) w/\∀ m,v.wf m:=by
 unfold KS at h;split at h
 ·rename_i k x k' y;have hg:=J3 (P:=P) (w:=w) op t ox oy (.int k x) (.int k' y) (by simp) (by simp);simp only [CV.den,SV.den,a1n,hg,Result.andThen_ok];split at h
  ·cases hb:aa wr .shl k x y with
   | none=>rw [hb] at h; simp at h
   | some q =>
    obtain ⟨q,o⟩:=q;rw [hb] at h; simp at h; obtain ⟨rfl,rfl⟩:=h;exact dh t k' (by simp) hb ho
  ·cases hb:aa wr .shr k x y with
   | none=>rw [hb] at h; simp at h
   | some q =>
    obtain ⟨q,o⟩:=q;rw [hb] at h; simp at h; obtain ⟨rfl,rfl⟩:=h;exact dh t k' (by simp) hb ho
  ·split at h
   ·rename_i hk;have:=ij hk;subst this;cases hb:aa wr op k x y with
    | none=>rw [hb] at h; simp at h
    | some q =>
     obtain ⟨q,o⟩:=q;rw [hb] at h; simp at h; obtain ⟨rfl,rfl⟩:=h;exact dh t k (λ_ _=>rfl) hb ho
   ·cases h
 ·rename_i x y;have hg:=J3 (P:=P) (w:=w) op t ox oy (.string ⟨x.toArray⟩) (.string ⟨y.toArray⟩) (by simp) (by simp);simp only [CV.den,SV.den,a1n,hg,Result.andThen_ok];cases hb:sc op x y with
  | none=>rw [hb] at h; simp at h
  | some q =>
   obtain ⟨q,o⟩:=q;rw [hb] at h; simp at h; obtain ⟨rfl,rfl⟩:=h;exact si t hb ho
 ·rename_i x y;split at h
  ·rename_i b hu hy;have hg:=J3 (P:=P) (w:=w) op t ox oy (.bool x) (y.den ρ) (by simp) (by simp);split at h<;>cases h<;>simp only [CV.den,a1n]<;>rw [show SV.den ρ (.bool x)=Value.bool x from rfl,hg,bH hy] <;>
    exact ⟨by simp [binOp,Op.equal,Op.maxDepth,run_equalIn_bool' w 9999 t _ _ hu,SV.den],λ_=>trivial⟩
  ·cases h
 ·rename_i x y;split at h
  ·rename_i b hu hy;have hg:=J3 (P:=P) (w:=w) op t ox oy (.bool x) (y.den ρ) (by simp) (by simp);split at h<;>cases h<;>simp only [CV.den,a1n]<;>rw [show SV.den ρ (.sb x)=Value.bool x from rfl,hg,bH hy] <;>
    exact ⟨by simp [binOp,Op.equal,Op.maxDepth,run_equalIn_bool' w 9999 t _ _ hu,SV.den],λ_=>trivial⟩
  ·cases h
 ·rename_i xs ys;split at h
  ·cases hb:qv P t xs ys with
   | none=>rw [hb] at h; simp at h
   | some q =>
    rw [hb] at h; simp at h; obtain ⟨rfl,rfl⟩:=h;obtain ⟨e1,e2⟩:=lR (ρ:=ρ) (w:=w) hb;have hg:=run_eqGuard_agg (P:=P) w .eql t ox oy (xs.map (SV.den ρ)).toArray (ys.map (SV.den ρ)).toArray e2;simp only [CV.den,a1n,hg,Result.andThen_ok,run_eql_struct,e1];exact ⟨rfl,λ_=>trivial⟩
  ·cases hb:qv P t xs ys with
   | none=>rw [hb] at h; simp at h
   | some q =>
    rw [hb] at h; simp at h; obtain ⟨rfl,rfl⟩:=h;obtain ⟨e1,e2⟩:=lR (ρ:=ρ) (w:=w) hb;have hg:=run_eqGuard_agg (P:=P) w .neq t ox oy (xs.map (SV.den ρ)).toArray (ys.map (SV.den ρ)).toArray e2;simp only [CV.den,a1n,hg,Result.andThen_ok,run_neq_struct,e1];exact ⟨rfl,λ_=>trivial⟩
  ·cases h
 ·cases h
end
end Go.SX
end
section
namespace Go.SX
open Go
section
variable {C:Ctx} {ρ:Nat->Nat} {s s':St} {a:Act} {w:World} {gc:Option (Nat×Bool)} {W:WF}
theorem AB {P:Program} {wr:Bool} {op:UnOp} {x v:CV} {ob:List Prop} (h:unS wr op x=some (v,ob)) (ho:∀ p∈ob,p) :
  (Op.unary op (x.den ρ)).run P w=.ok (v.den ρ) w/\∀ m,v.wf m:=by
 unfold unS at h;split at h
 ·cases h; exact ⟨rfl,λ_=>trivial⟩
 ·cases h; exact ⟨rfl,λ_=>trivial⟩
 ·rename_i k n;cases hq:ig wr k (0 - n) with
  | mk y o =>
   rw [hq] at h;cases h;have:=nB (ρ:=ρ) hq ho;exact ⟨by simp only [CV.den,this.1]; rfl,this.2⟩
 ·cases h
theorem uw {P:Program} {src dst:TypeId} {x v:CV} (h:Cr P src dst x=some v) :
  (convert src dst (x.den ρ)).run P w=.ok (v.den ρ) w/\∀ m,v.wf m:=by
 unfold Cr at h;split at h
 ·rename_i d1 k k' n h1 h2;cases h;refine ⟨?_,λ_=>trivial⟩;simp only [convert,a1n,i7 h1,i7 h2,Result.andThen_ok,CV.den,SV.den];cases d1<;>rfl
 ·rename_i d1 l h1 h2;cases h;refine ⟨?_,λ_=>trivial⟩;simp only [convert,a1n,i7 h1,i7 h2,Result.andThen_ok,CV.den,SV.den];cases d1<;>rfl
 ·cases h
theorem nC (h:kD ρ s W a w) (hg:E1 s gc):∀ {os:List Operand} {bs:List Nat},caps s gc os=some bs ->
  os.map a.eval=bs.map (λb=>Value.pointer (some ⟨ρ b,0,none⟩))/\∀ b∈bs,b<W.n
 | [],bs,hc=>by
  simp only [caps,a0l] at hc;subst hc;simp
 | o::os,bs,hc=>by
  simp only [caps] at hc;split at hc
  ·rename_i b uo;split at hc
   ·rename_i bs' JE;cases hc;obtain ⟨e1,e2⟩:=d7 h hg uo;obtain ⟨i1,i2⟩:=nC h hg JE;refine ⟨by simp only [a3h,i1,e1]; rfl,?_⟩;intro c hc;rcases a0k.1 hc with rfl | hc
    ·exact e2
    ·exact i2 c hc
   ·cases hc
  ·cases hc
theorem AC {xs ys:List Value} {off:Nat} (h:off+ys.length<=xs.length) :
  (ys.toArray.zipIdx.foldl (λcs (c,j)=>cs.setIfInBounds (off+j) c) xs.toArray)=(xs.take off++ys++xs.drop (off+ys.length)).toArray:=by
 have key:∀ (zs:List Value) (k:Nat) (cur:List Value),off+k+zs.length<=cur.length ->
   ((zs.zipIdx k).foldl (λ(cs:Array Value) (p:Value×Nat)=>cs.setIfInBounds (off+p.2) p.1) cur.toArray)=(cur.take (off+k)++zs++cur.drop (off+k+zs.length)).toArray:=by
  intro zs
  induction zs with
  | nil=>intro k cur hk; simp
  | cons z zs ih =>
   intro k cur hk;simp only [List.zipIdx_cons,List.foldl_cons,List.setIfInBounds_toArray];have hl:off+k<cur.length:=by simp at hk; omega
   rw [ih (k+1) (cur.set (off+k) z) (by simp at hk ⊢; omega)];congr 1;have e1:(cur.set (off+k) z).take (off+(k+1))=cur.take (off+k)++[z]:=by
    rw [show off+(k+1)=off+k+1 by omega,List.take_succ_eq_append_getElem (by simpa using hl),List.take_set,List.set_eq_of_length_le (by simp; omega)];simp
   have e2:(cur.set (off+k) z).drop (off+(k+1)+zs.length)=cur.drop (off+k+(z::zs).length):=by
    rw [List.drop_set_of_lt (by omega)];congr 1;simp; omega
   rw [e1,e2];simp
 have:=key ys 0 xs (by omega);simp only [Nat.add_zero] at this;rw [<- this,<- Array.foldl_toList];simp
theorem nD (xs:List SV) (off:Nat) (ys:List SV):(kA xs off ys).map (SV.den ρ)=(xs.map (SV.den ρ)).take off++ys.map (SV.den ρ)++(xs.map (SV.den ρ)).drop (off+(ys.map (SV.den ρ)).length):=by
 simp [kA,List.map_take,List.map_drop]
theorem qC {xs ys:List SV} {off:Nat} {n:WF} (hx:∀ x∈xs,x.wf n) (hy:∀ x∈ys,x.wf n):∀ x∈kA xs off ys,x.wf n:=by
 intro x h;simp only [kA,a1g,List.mem_append] at h;rcases h with h | h | h
 ·exact hx x (a5l h)
 ·exact hy x h
 ·exact hx x (List.mem_of_mem_drop h)
theorem bI (h:kD ρ s W a w) (hg:E1 s gc) {pl place:Nat->Option (Nat×Nat)} (hp:∀ (i:Nat) (q:Nat×Nat),pl i=some q->place i=some q) :
  ∀ {parts:List (Nat×Operand)} {xs cs:List SV},(∀ x∈xs,x.wf W)->nz s gc pl xs parts=some cs ->
   Instr.fill place (xs.map (SV.den ρ)).toArray (parts.map λp=>(p.1,a.eval p.2))=some (cs.map (SV.den ρ)).toArray/\∀ x∈cs,x.wf W
 | [],xs,cs,hx,hf=>by
  simp only [nz,a0l] at hf;subst hf;exact ⟨rfl,hx⟩
 | (i,o)::parts,xs,cs,hx,hf=>by
  simp only [nz] at hf;split at hf
  ·rename_i off sz v M3 hv;split at hf
   ·cases hf
   ·rename_i ys qr;split at hf
    ·rename_i Q5 eO;have hl:=(d6 _ _).1 Q5;have B0:off+ys.length<=xs.length:=a0w eO;obtain ⟨e1,e2⟩:=d7 h hg hv;obtain ⟨c1,c2⟩:=eS (ρ:=ρ) qr W e2;have ih:=bI h hg hp (qC hx c2) hf;refine ⟨?_,ih.2⟩;rw [<- ih.1];simp only [a3h,Instr.fill,hp i _ M3,e1,c1,a6a,a1k,hl,ne_eq,not_true_eq_false,decide_false,Bool.false_or,gt_iff_lt,decide_eq_true_eq];rw [if_neg (by simp; omega)];congr 1;have F9:=AC (xs:=xs.map (SV.den ρ)) (ys:=ys.map (SV.den ρ)) (off:=off) (by simpa using B0);rw [F9,nD]
    ·cases hf
  ·cases hf
theorem bJ {P:Program} {t:TypeId} {z:List SV} (h:qx P t=some z) :
  ∃ v,(zeroValue t).run P w=.ok v w/\v.cells=(z.map (SV.den ρ)).toArray/\∀ n:WF,∀ x∈z,x.wf n:=by
 unfold qx at h;split at h
 ·rename_i i hi;split at h
  ·rename_i z' hz;cases h;refine ⟨z',by simp [zeroValue,typeInfo,hi,hz],?_,?_⟩
   ·rw [a3q];have:(SV.den ρ ∘ rX)=id:=funext (nA ρ);rw [this]; simp
   ·intro n x hx;obtain ⟨u,_,rfl⟩:=a1d.1 hx;exact sg n u
  ·cases h
 ·cases h
theorem bZ {P:Program} {t f off sz:Nat} {ft:TypeId} (h:mF P t f=some (off,ft,sz)) :
  ∃ fs fd,P.underlying t=some (.struct fs)/\fs[f]?=some fd/\fd.offset=off/\fd.type=ft/\df P fd.type=some sz:=by
 unfold mF at h;split at h
 ·rename_i fs hu;split at h
  ·rename_i fd Np;split at h
   ·rename_i sz' C8;cases h;exact ⟨fs,fd,hu,Np,rfl,rfl,C8⟩
   ·cases h
  ·cases h
 ·cases h
end
end Go.SX
end
section
namespace Go.SX
open Go
section
variable {C:Ctx} {ρ:Nat->Nat} {s s':St} {a:Act} {w:World} {gc:Option (Nat×Bool)} {W:WF}
theorem nE {P:Program}:∀ (l:List Field),yM P l=true ->
  (l.mapM (m:=Sem) λf=>do pure (f.offset,<- sizeOf f.type)).run P w=.ok (l.map λf=>(f.offset,(df P f.type).getD 0)) w
 | [],_=>by simp
 | f::l,h=>by
  simp only [yM] at h;split at h
  ·rename_i sz C8;have ih:=nE l h;simp only [List.mapM_cons,a1n,y7 C8,Result.andThen_ok,a2i,ih,a3h,C8,a1e]
  ·cases h
theorem S2 (a:Act) (v:Value):a.eval (.const v)=v:=rfl
theorem x9 {x:Sem Value} {v:Value} {P:Program} (h:x.run P w=.ok v w) :
  (do pure (.value (<- x)):Sem Next).run P w=.ok (.value v) w:=by
 simp [h]
theorem y4 (b off n:Nat):(⟨b,off,none⟩:Addr).add n=⟨b,off+n,none⟩:=by
 unfold Addr.add; split<;>simp_all
theorem qg {P:Program} (h:kD ρ s W a w) (hg:E1 s gc) (o:Oper) {v:RV} {ob:List Prop} (f7:sd P s gc o.op=some (v,ob)) (q8:∀ p∈ob,p) :
  (execOp a.eval o).run P w=.ok (.value (v.den ρ)) w/\v.wf W/\∀ g pol c x,v≠.grd g pol c x:=by
 obtain ⟨dst,op,type,pos,after,guard⟩:=o;simp only at f7;unfold sd at f7;split at f7
 -- move
 ·rename_i x;split at f7
  ·rename_i t;split at f7
   ·rename_i xs hl;cases f7;have:=h.tmp hl;exact ⟨by simp [execOp,this],(h.slots t _ hl).2,by simp⟩
   ·split at f7
    ·rename_i y hy;cases f7;obtain ⟨e1,e2⟩:=d7 h hg hy;exact ⟨by simp [execOp,e1,RV.den],e2,by simp⟩
    ·cases f7
  ·split at f7
   ·rename_i y hy;cases f7;obtain ⟨e1,e2⟩:=d7 h hg hy;exact ⟨by simp [execOp,e1,RV.den],e2,by simp⟩
   ·cases f7
 -- assign
 ·rename_i x;split at f7
  ·rename_i t;split at f7
   ·rename_i xs hl;cases f7;have:=h.tmp hl;exact ⟨by simp [execOp,this],(h.slots t _ hl).2,by simp⟩
   ·split at f7
    ·rename_i y hy;cases f7;obtain ⟨e1,e2⟩:=d7 h hg hy;exact ⟨by simp [execOp,e1,RV.den],e2,by simp⟩
    ·cases f7
  ·split at f7
   ·rename_i y hy;cases f7;obtain ⟨e1,e2⟩:=d7 h hg hy;exact ⟨by simp [execOp,e1,RV.den],e2,by simp⟩
   ·cases f7
 -- extract
 ·rename_i t i;split at f7
  ·rename_i xs hl;split at f7
   ·rename_i x hx;cases f7;have e:=h.tmp hl;refine ⟨?_,(h.slots t _ hl).2 x (a0v hx),by simp⟩;refine x9 ?_;rw [e];simp [RV.den,Instr.extract,hx]
   ·cases f7
  ·cases f7
 -- pick
 ·rename_i c x y;split at f7
  ·rename_i hc;obtain ⟨ec,_⟩:=d7 h hg hc;split at f7
   ·rename_i z hz;cases f7;obtain ⟨e1,e2⟩:=d7 h hg hz;exact ⟨by simp [execOp,ec,CV.den,SV.den,asBool,e1,RV.den],e2,by simp⟩
   ·cases f7
  ·rename_i hc;obtain ⟨ec,_⟩:=d7 h hg hc;split at f7
   ·rename_i z hz;cases f7;obtain ⟨e1,e2⟩:=d7 h hg hz;exact ⟨by simp [execOp,ec,CV.den,SV.den,asBool,e1,RV.den],e2,by simp⟩
   ·cases f7
  ·rename_i r hc;obtain ⟨ec,_⟩:=d7 h hg hc;split at f7
   ·rename_i g;split at f7
    ·rename_i u;split at f7
     ·rename_i g' c' x' hl;split at f7
      ·rename_i q hb hq;cases f7;have UP:=(d6 g g').1 hb;subst UP;have wL:=(h.grds u g true c' _ hl).2;have UQ:c'=r:=by
        have h1:=h.tmp wL;rw [ec] at h1;simpa [CV.den,SV.den,RV.den] using h1.symm
       subst UQ;have e1:=h.tmp hl;refine ⟨?_,trivial,by simp⟩;have hd:CV.den ρ (.one x')=.bool q:=bH hq;simp only [RV.den,hd] at e1;simp only [execOp,ec,e1,RV.den];cases c'<;>simp [S2,CV.den,SV.den,asBool]
      ·cases f7
     ·cases f7
    ·rename_i u;split at f7
     ·rename_i g' c' x' hl;split at f7
      ·rename_i q hb hq;cases f7;have UP:=(d6 g g').1 hb;subst UP;have wL:=(h.grds u g false c' _ hl).2;have UQ:c'=r:=by
        have h1:=h.tmp wL;rw [ec] at h1;simpa [CV.den,SV.den,RV.den] using h1.symm
       subst UQ;have e1:=h.tmp hl;refine ⟨?_,trivial,by simp⟩;have hd:CV.den ρ (.one x')=.bool q:=bH hq;simp only [RV.den,hd] at e1;simp only [execOp,ec,e1,RV.den];cases c'<;>simp [S2,CV.den,SV.den,asBool]
      ·cases f7
     ·cases f7
    ·cases f7
   ·cases f7
  ·cases f7
 -- load
 ·rename_i t x;split at f7
  ·rename_i b off hx;obtain ⟨e1,e2⟩:=d7 h hg hx;split at f7
   ·rename_i blk hb;split at f7
    ·rename_i y hy;cases f7;obtain ⟨h2,h3⟩:=h.heap b blk hb;obtain ⟨l1,l2⟩:=U6 (ρ:=ρ) (w:=w) hy W h3 h2;refine ⟨?_,l2,by simp⟩;refine x9 ?_;rw [e1];simp only [CV.den,SV.den,Instr.loadAt,Instr.sureAddr,a1n,a2i,Result.andThen_ok,l1];rfl
    ·cases f7
   ·cases f7
  ·rename_i r q size i j hx;obtain ⟨e1,e2⟩:=d7 h hg hx;split at f7
   ·rename_i R hR;split at f7
    ·rename_i y hy;cases f7;obtain ⟨x7,KO⟩:=h.rows r R hR;obtain ⟨hr,hw⟩:=e2;obtain ⟨rfl,rfl,hi⟩:=hw R KO;obtain ⟨b,off,hs,W1⟩:=x7.addr (by omega);obtain ⟨_,M3⟩:=x7.len i hi;obtain ⟨l1,l2⟩:=gX (ρ:=ρ) (w:=w) (g:=b) (base:=off+i*R.size) hy W (λx hx=>N7 (M3 x hx) _) (by
      intro j x hj;rw [J0 (M3 x (a0v hj)),Nat.add_assoc];exact W1 i j x hi hj)
     refine ⟨?_,l2,by simp⟩;refine x9 ?_;rw [e1];simp only [CV.den,SV.den,hs,Instr.loadAt,Instr.sureAddr,a1n,a2i,Result.andThen_ok];rw [<- Nat.add_assoc,l1];rfl
    ·cases f7
   ·cases f7
  ·cases f7
 -- nilCheck
 ·rename_i x;split at f7
  ·rename_i b off hx;obtain ⟨e1,e2⟩:=d7 h hg hx;cases f7;exact ⟨by simp [execOp,e1,CV.den,SV.den,RV.den],e2,by simp⟩
  ·rename_i p hx;obtain ⟨e1,e2⟩:=d7 h hg hx;cases f7;exact ⟨by simp [execOp,e1,CV.den,SV.den,RV.den],trivial,by simp⟩
  ·rename_i f cap hx;obtain ⟨e1,e2⟩:=d7 h hg hx;cases f7;exact ⟨by simp [execOp,e1,CV.den,SV.den,RV.den],e2,by simp⟩
  ·cases f7
 -- binOp
 ·rename_i op t x y yt;split at f7
  ·rename_i x' y' hx hy;obtain ⟨e1,_⟩:=d7 h hg hx;obtain ⟨e2,_⟩:=d7 h hg hy;split at f7
   ·rename_i z o hz;cases f7;obtain ⟨b1,b2⟩:=wR (ρ:=ρ) (w:=w) x y hz q8;refine ⟨?_,b2 _,by simp⟩;refine x9 ?_;rw [e1,e2];exact b1
   ·cases f7
  ·cases f7
 -- unOp
 ·rename_i op t x;split at f7
  ·rename_i x' hx;obtain ⟨e1,_⟩:=d7 h hg hx;split at f7
   ·rename_i z o hz;cases f7;obtain ⟨b1,b2⟩:=AB (ρ:=ρ) (w:=w) (P:=P) hz q8;refine ⟨?_,b2 _,by simp⟩;refine x9 ?_;rw [e1];exact b1
   ·cases f7
  ·cases f7
 -- convert
 ·rename_i src dst' x;split at f7
  ·rename_i x' hx;obtain ⟨e1,_⟩:=d7 h hg hx;split at f7
   ·rename_i z hz;cases f7;obtain ⟨b1,b2⟩:=uw (ρ:=ρ) (w:=w) hz;refine ⟨?_,b2 _,by simp⟩;refine x9 ?_;rw [e1];exact b1
   ·cases f7
  ·cases f7
 -- makeFunc
 ·rename_i f first captured;split at f7
  ·rename_i hf;split at f7
   ·rename_i bs JE;cases f7;obtain ⟨c1,c2⟩:=nC h hg JE;refine ⟨?_,c2,by simp⟩;refine x9 ?_;have mC:first=#[]:=by
     apply a3u; simpa using hf
    subst mC;simp only [Instr.makeFunc,a2i,RV.den,CV.den,SV.den];congr 2
    ·simp
    ·apply a3u; simpa using c1
   ·cases f7
  ·cases f7
 -- fieldAddr
 ·rename_i t x f;split at f7
  ·rename_i off ft sz NE;split at f7
   ·cases f7
   ·rename_i hz;split at f7
    ·rename_i b o hx;obtain ⟨e1,e2⟩:=d7 h hg hx;cases f7;obtain ⟨fs,fd,hu,Np,rfl,rfl,C8⟩:=bZ NE;refine ⟨?_,e2,by simp⟩;refine x9 ?_;rw [e1];have GH:sz≠0:=C5 hz;simp only [Instr.fieldAt,a1n,i7 hu,Result.andThen_ok,Np,CV.den,SV.den,Instr.sureAddr,a2i,fieldPlace,y7 C8,if_neg GH,y4,RV.den]
    ·rename_i r q size i j hx;obtain ⟨e1,e2⟩:=d7 h hg hx;split at f7
     ·rename_i R hR;cases f7;obtain ⟨fs,fd,hu,Np,rfl,rfl,C8⟩:=bZ NE;have GH:sz≠0:=C5 hz;obtain ⟨x7,KO⟩:=h.rows r R hR;obtain ⟨hr,hw⟩:=e2;obtain ⟨rfl,rfl,hi⟩:=hw R KO;obtain ⟨b,off,hs,W1⟩:=x7.addr (by omega);refine ⟨?_,⟨hr,hw⟩,by simp⟩;refine x9 ?_;rw [e1];simp only [Instr.fieldAt,a1n,i7 hu,Result.andThen_ok,Np,CV.den,SV.den,hs,Instr.sureAddr,a2i,fieldPlace,y7 C8,if_neg GH,y4,RV.den];congr 4;omega
     ·cases f7
    ·cases f7
  ·cases f7
 -- field
 ·rename_i t x f;split at f7
  ·rename_i off ft sz NE;split at f7
   ·rename_i xs hx;obtain ⟨e1,e2⟩:=d7 h hg hx;split at f7
    ·rename_i y hy;cases f7;obtain ⟨fs,fd,hu,Np,rfl,rfl,C8⟩:=bZ NE;obtain ⟨l1,l2⟩:=iZ (ρ:=ρ) (w:=w) hy W e2;refine ⟨?_,l2,by simp⟩;refine x9 ?_;rw [e1];simp only [Instr.field,a1n,i7 hu,Result.andThen_ok,Np,CV.den,asAgg,a2i,l1,RV.den]
    ·cases f7
   ·cases f7
  ·cases f7
 -- indexAddr
 ·rename_i t x i;split at f7
  ·rename_i e r q n cap k kn hu hx hi;obtain ⟨e1,e2⟩:=d7 h hg hx;obtain ⟨e3,e4⟩:=d7 h hg hi;split at f7
   ·rename_i sz R C8 hR;split at f7
    ·rename_i hb;cases f7;have iV:=(d6 _ _).1 hb;have hk:=q8 (0<=kn/\kn<(n:Int)) (by simp);obtain ⟨hr,hw⟩:=e2;obtain ⟨x7,KO⟩:=h.rows r R hR;obtain ⟨rfl,rfl,rfl⟩:=hw R KO;obtain ⟨b,off,hs,_⟩:=x7.addr (by omega);refine ⟨?_,⟨hr,λR' G8=>?_⟩,by simp⟩
     ·refine x9 ?_;rw [e1,e3];simp only [Instr.indexAt,CV.den,SV.den,asIntOf,a1n,a2i,Result.andThen_ok,i7 hu,hs,hk,and_self,if_true,y7 C8,y4,RV.den];rfl
     ·rw [KO] at G8;cases G8;exact ⟨rfl,iV,by omega⟩
    ·cases f7
   ·cases f7
  ·cases f7
 -- index
 ·rename_i t x i;split at f7
  ·rename_i l k n hu hx hi;obtain ⟨e1,e2⟩:=d7 h hg hx;obtain ⟨e3,e4⟩:=d7 h hg hi;cases f7;have hb:=q8 (0<=n/\n<(l.length:Int)) (by simp);refine ⟨?_,trivial,by simp⟩;refine x9 ?_;rw [e1,e3];have e9:n.toNat<l.length:=by omega
   simp only [Instr.index,CV.den,SV.den,asIntOf,a1n,a2i,Result.andThen_ok,i7 hu,hb.1,if_true,RV.den];have:(⟨l.toArray⟩:ByteArray)[n.toNat]?=some l[n.toNat]:=by
    rw [getElem?_pos (⟨l.toArray⟩:ByteArray) n.toNat (by simpa [ByteArray.size] using e9)];rfl
   rw [this];simp [a0r,a0b e9]
  ·cases f7
 -- build
 ·rename_i t parts;split at f7
  ·rename_i fs z hu hz;split at f7
   ·rename_i cs q7 hf;cases f7;obtain ⟨v0,z1,z2,z3⟩:=bJ (ρ:=ρ) (w:=w) hz
    let places:Array (Nat×Nat):=(fs.toList.map λf=>(f.offset,(df P f.type).getD 0)).toArray
    have M3:∀ (i:Nat) (q:Nat×Nat),nw P fs i=some q->(places[·]?) i=some q:=by
     intro i q hi;unfold nw at hi;split at hi
     ·rename_i f hf;split at hi
      ·rename_i sz hs;cases hi;have:fs.toList[i]?=some f:=by simpa using hf
       simp [places,this,hs]
      ·cases hi
     ·cases hi
    obtain ⟨f1,f2⟩:=bI h hg M3 (z3 _) hf;refine ⟨?_,f2,by simp⟩;refine x9 ?_;have hm:(fs.mapM (m:=Sem) λf=>do pure (f.offset,<- sizeOf f.type)).run P w=.ok places w:=by
     rw [Array.mapM_eq_mapM_toList];have:=nE (P:=P) (w:=w) fs.toList q7;simp only [Sem.run_map,this,Result.andThen_ok,places]
    have lO:(parts.map λ(x:Nat×Operand)=>(x.1,a.eval x.2)).toList=parts.toList.map λp=>(p.1,a.eval p.2):=by simp
    simp only [Instr.build,a1n,z1,Result.andThen_ok,i7 hu,hm,z2];rw [show (Array.map (λx=>match x with | (i,x)=>(i,a.eval x)) parts).toList=parts.toList.map λp=>(p.1,a.eval p.2) from lO,f1];rfl
   ·cases f7
  ·cases f7
 -- len
 ·rename_i c;obtain ⟨callee,args,argTypes⟩:=c;unfold NZ at f7;simp only at f7;split at f7
  ·split at f7
   ·rename_i x t Z9 yB;have ha:args=#[x]:=by apply a3u; simpa using Z9
    have ht:argTypes=#[t]:=by apply a3u; simpa using yB
    subst ha; subst ht;split at f7
    ·rename_i l hu hx;obtain ⟨e1,e2⟩:=d7 h hg hx;cases f7;refine ⟨?_,trivial,by simp⟩;simp [execOp,resolve,invoke,builtin,Builtin.len_,i7 hu,e1,CV.den,SV.den,RV.den,goInt]
     try rfl
    ·rename_i e ad n cap hu hx;obtain ⟨e1,e2⟩:=d7 h hg hx;cases f7;refine ⟨?_,trivial,by simp⟩;simp [execOp,resolve,invoke,builtin,Builtin.len_,i7 hu,e1,CV.den,SV.den,RV.den,goInt]
    ·rename_i e ad n cap hu hx;obtain ⟨e1,e2⟩:=d7 h hg hx;cases f7;refine ⟨?_,trivial,by simp⟩;simp [execOp,resolve,invoke,builtin,Builtin.len_,i7 hu,e1,CV.den,SV.den,RV.den,goInt]
    ·rename_i e r q n cap hu hx;obtain ⟨e1,e2⟩:=d7 h hg hx;cases f7;refine ⟨?_,trivial,by simp⟩;simp [execOp,resolve,invoke,builtin,Builtin.len_,i7 hu,e1,CV.den,SV.den,RV.den,goInt]
    ·cases f7
   ·cases f7
  ·split at f7
   ·rename_i x y Z9;have ha:args=#[x,y]:=by apply a3u; simpa using Z9
    subst ha;split at f7
    ·rename_i k a' k2 b' hx hy;obtain ⟨e1,e2⟩:=d7 h hg hx;obtain ⟨e3,e4⟩:=d7 h hg hy;cases f7;refine ⟨?_,trivial,by simp⟩;simp [execOp,resolve,invoke,builtin,Builtin.max_,Builtin.max2,e1,e3,CV.den,SV.den,RV.den]
    ·cases f7
   ·cases f7
  ·split at f7
   ·rename_i x t Z9 yB;have ha:args=#[x]:=by apply a3u; simpa using Z9
    have ht:argTypes=#[t]:=by apply a3u; simpa using yB
    subst ha; subst ht;split at f7
    ·rename_i e ad n cap hu hx;obtain ⟨e1,e2⟩:=d7 h hg hx;cases f7;refine ⟨?_,trivial,by simp⟩;simp [execOp,resolve,invoke,builtin,Builtin.cap_,i7 hu,e1,CV.den,SV.den,RV.den,goInt]
    ·rename_i e ad n cap hu hx;obtain ⟨e1,e2⟩:=d7 h hg hx;cases f7;refine ⟨?_,trivial,by simp⟩;simp [execOp,resolve,invoke,builtin,Builtin.cap_,i7 hu,e1,CV.den,SV.den,RV.den,goInt]
    ·rename_i e r q n cap hu hx;obtain ⟨e1,e2⟩:=d7 h hg hx;cases f7;refine ⟨?_,trivial,by simp⟩;simp [execOp,resolve,invoke,builtin,Builtin.cap_,i7 hu,e1,CV.den,SV.den,RV.den,goInt]
    ·cases f7
   ·cases f7
  ·cases f7
 -- slice of a string
 ·rename_i t x lo hi;split at f7
  ·rename_i l lo' ao hu hx un QY;obtain ⟨e1,e2⟩:=d7 h hg hx;cases f7;have hb:=q8 _ (a0d.2 rfl);obtain ⟨h0,h1,h2⟩:=hb;have bs:∀ {o:Option Operand} {n:Option Int},kB s gc o=some n->(o=none/\n=none)∨∃ k m,n=some m/\o.map a.eval=some (.int k m):=by
    intro o n hn;cases o with
    | none=>simp only [kB,a0l] at hn; exact .inl ⟨rfl,hn.symm⟩
    | some o =>
     simp only [kB] at hn;split at hn
     ·rename_i k m ho;cases hn;obtain ⟨f1,_⟩:=d7 h hg ho;exact .inr ⟨k,m,rfl,by simp only [a2u,f1]; rfl⟩
     ·cases hn
   refine ⟨?_,trivial,by simp⟩;refine x9 ?_;rw [e1];have hd:CV.den ρ (.one (.str l))=.string ⟨l.toArray⟩:=rfl;have C8:(⟨l.toArray⟩:ByteArray).size=l.length:=by simp [ByteArray.size]
   have Ax:∀ L H:Nat,(⟨l.toArray⟩:ByteArray).extract L H=⟨((l.take H).drop L).toArray⟩:=by
    intro L H;apply ByteArray.ext;simp [ByteArray.data_extract,List.drop_take]
   have sb:∀ (k:IntKind) (n:Int) (y:Nat) (code:BoundsCode),0<=n->n<=(y:Int)->(Instr.sliceBound (.int k n) y code).run P w=.ok n.toNat w:=by
    intro k n y code q1 q2;simp [Instr.sliceBound,asIntOf,q1,q2]
   rw [hd];rcases bs un with ⟨rfl,rfl⟩ | ⟨k1,m1,rfl,b1⟩<;>rcases bs QY with ⟨rfl,rfl⟩ | ⟨k2,m2,rfl,b2⟩
   ·simp [Instr.sliceAt,Instr.slice,i7 hu,Instr.sliceBounds,RV.den,CV.den,SV.den]
   ·simp only [a4s,a1e] at h0 h1 h2;simp [Instr.sliceAt,Instr.slice,i7 hu,b2,Instr.sliceBounds,C8,Ax,RV.den,CV.den,SV.den,sb,h1,h2]
   ·simp only [a4s,a1e] at h0 h1 h2;simp [Instr.sliceAt,Instr.slice,i7 hu,b1,Instr.sliceBounds,C8,Ax,RV.den,CV.den,SV.den,sb,h0,h1]
   ·simp only [a1e] at h0 h1 h2;have:0<=m2:=Int.le_trans h0 h1;have s3:=sb k1 m1 m2.toNat .sliceB h0 (by omega);simp [Instr.sliceAt,Instr.slice,i7 hu,b1,b2,Instr.sliceBounds,C8,Ax,RV.den,CV.den,SV.den,sb,h2,this,s3]
  ·cases f7
 ·cases f7
theorem wS {o:Operand} (h:se o=true):∃ n c,o=.const (.slice none n c):=by
 unfold se at h;split at h
 ·exact ⟨_,_,rfl⟩
 ·cases h
theorem GZ (ρ:Nat->Nat) {v:SV} {q:Option Addr} (h:KT v=some q):∃ n c,v.den ρ=.slice q n c:=by
 unfold KT at h;split at h
 ·cases h; exact ⟨_,_,rfl⟩
 ·cases h; exact ⟨_,_,rfl⟩
 ·cases h
theorem ik {P:Program} (w:World) (d:Nat) (t e:TypeId) (a:Option Addr) (n c n' c':Nat) (h:P.underlying t=some (.slice e)) :
  (Op.equalIn (d+1) t (.slice a n c) (.slice none n' c')).run P w=.ok a.isNone w:=by
 cases a<;>simp [Op.equalIn,i7 h]
theorem nF {P:Program} (w:World) (t e:TypeId) (a:Option Addr) (n c n' c':Nat) (h:P.underlying t=some (.slice e)) :
  (binOp .eql t (.slice a n c) (.slice none n' c')).run P w=.ok (.bool a.isNone) w:=by
 simp only [binOp];simp [Op.equal,Op.maxDepth,ik w 9999 t e a n c n' c' h]
theorem AD {o:Operand} (h:wP o=true):o=.const .nilIface:=by
 unfold wP at h;split at h
 ·rfl
 ·cases h
theorem sj {P:Program} (h:kD ρ s W a w) (hg:E1 s gc) (o:Oper) {v:RV} {ob:List Prop} (f7:wQ P s gc o.op=some (v,ob)) (q8:∀ p∈ob,p) :
  (execOp a.eval o).run P w=.ok (.value (v.den ρ)) w/\v.wf W/\∀ g pol c x,v≠.grd g pol c x:=by
 obtain ⟨dst,op,type,pos,after,guard⟩:=o;simp only at f7;unfold wQ at f7;split at f7
 -- indexAddr
 ·rename_i t x i;split at f7
  ·rename_i e b n cap k kn hu hx hi;obtain ⟨e1,e2⟩:=d7 h hg hx;obtain ⟨e3,e4⟩:=d7 h hg hi;split at f7
   ·rename_i sz C8;cases f7;have hk:=q8 (0<=kn/\kn<(n:Int)) (by simp);refine ⟨?_,e2,by simp⟩;refine x9 ?_;rw [e1,e3];simp only [Instr.indexAt,CV.den,SV.den,asIntOf,a1n,a2i,Result.andThen_ok,i7 hu,hk,and_self,if_true,y7 C8,y4,RV.den,Nat.zero_add]
   ·cases f7
  ·rename_i n e b off k kn hu hx hi;obtain ⟨e1,e2⟩:=d7 h hg hx;obtain ⟨e3,e4⟩:=d7 h hg hi;split at f7
   ·rename_i sz C8;cases f7;have hk:=q8 (0<=kn/\kn<(n:Int)) (by simp);refine ⟨?_,e2,by simp⟩;refine x9 ?_;rw [e1,e3];simp only [Instr.indexAt,CV.den,SV.den,asIntOf,Instr.sureAddr,a1n,a2i,Result.andThen_ok,i7 hu,hk,and_self,if_true,y7 C8,y4,RV.den]
   ·cases f7
  ·rename_i n e r q size i' j k kn hu hx hi;obtain ⟨e1,e2⟩:=d7 h hg hx;obtain ⟨e3,e4⟩:=d7 h hg hi;split at f7
   ·rename_i sz R C8 hR;cases f7;have hk:=q8 (0<=kn/\kn<(n:Int)) (by simp);obtain ⟨hr,hw⟩:=e2;obtain ⟨x7,KO⟩:=h.rows r R hR;obtain ⟨rfl,rfl,e9⟩:=hw R KO;obtain ⟨b,off,hs,_⟩:=x7.addr (by omega);refine ⟨?_,⟨hr,hw⟩,by simp⟩;refine x9 ?_;rw [e1,e3];simp only [Instr.indexAt,CV.den,SV.den,hs,asIntOf,Instr.sureAddr,a1n,a2i,Result.andThen_ok,i7 hu,hk,and_self,if_true,y7 C8,y4,RV.den,Nat.add_assoc]
   ·cases f7
  ·cases f7
 -- index
 ·rename_i t x i;split at f7
  ·rename_i n e xs k kn hu hx hi;obtain ⟨e1,e2⟩:=d7 h hg hx;obtain ⟨e3,e4⟩:=d7 h hg hi;split at f7
   ·rename_i sz C8;split at f7
    ·rename_i y hy;cases f7;have hk:=q8 (0<=kn/\kn<(n:Int)) (by simp);obtain ⟨l1,l2⟩:=iZ (ρ:=ρ) (w:=w) hy W e2;refine ⟨?_,l2,by simp⟩;refine x9 ?_;rw [e1,e3];simp only [Instr.index,CV.den,SV.den,asIntOf,a1n,a2i,Result.andThen_ok,i7 hu,hk,and_self,if_true,y7 C8,RV.den];exact l1
    ·cases f7
   ·cases f7
  ·cases f7
 -- build
 ·rename_i t parts;split at f7
  ·rename_i n e z hu hz;split at f7
   ·rename_i sz C8;split at f7
    ·rename_i cs hf;cases f7;obtain ⟨v0,z1,z2,z3⟩:=bJ (ρ:=ρ) (w:=w) hz;obtain ⟨f1,f2⟩:=bI h hg (place:=λi=>some (i*sz,sz)) (λi q hi=>hi) (z3 _) hf;refine ⟨?_,f2,by simp⟩;refine x9 ?_;have lO:(parts.map λ(x:Nat×Operand)=>(x.1,a.eval x.2)).toList=parts.toList.map λp=>(p.1,a.eval p.2):=by simp
     simp only [Instr.build,a1n,z1,Result.andThen_ok,i7 hu,y7 C8,z2];rw [show (Array.map (λx=>match x with | (i,x)=>(i,a.eval x)) parts).toList=parts.toList.map λp=>(p.1,a.eval p.2) from lO,f1];rfl
    ·cases f7
   ·cases f7
  ·cases f7
 -- slice
 ·rename_i t x lo hi;split at f7
  ·rename_i e q n cap lo' ao hu hx un QY;obtain ⟨e1,_⟩:=d7 h hg hx;split at f7
   ·rename_i sz C8;cases f7;obtain ⟨h0,h1,h2⟩:=q8 _ (a0d.2 rfl);have bs:∀ {o:Option Operand} {n:Option Int},kB s gc o=some n->(o=none/\n=none)∨∃ k m,n=some m/\o.map a.eval=some (.int k m):=by
     intro o n hn;cases o with
     | none=>simp only [kB,a0l] at hn; exact .inl ⟨rfl,hn.symm⟩
     | some o =>
      simp only [kB] at hn;split at hn
      ·rename_i k m ho;cases hn;obtain ⟨f1,_⟩:=d7 h hg ho;exact .inr ⟨k,m,rfl,by simp only [a2u,f1]; rfl⟩
      ·cases hn
    refine ⟨?_,trivial,by simp⟩;refine x9 ?_;rw [e1];have hd:CV.den ρ (.one (.val (.slice q n cap)))=.slice q n cap:=rfl;have sb:∀ (k:IntKind) (n:Int) (y:Nat) (code:BoundsCode),0<=n->n<=(y:Int)->(Instr.sliceBound (.int k n) y code).run P w=.ok n.toNat w:=by
     intro k n y code q1 q2;simp [Instr.sliceBound,asIntOf,q1,q2]
    rw [hd];rcases bs un with ⟨rfl,rfl⟩ | ⟨k1,m1,rfl,b1⟩<;>rcases bs QY with ⟨rfl,rfl⟩ | ⟨k2,m2,rfl,b2⟩
    ·simp only [a4s] at h0 h1 h2;simp [Instr.sliceAt,Instr.slice,i7 hu,Instr.sliceBounds,y7 C8,RV.den,CV.den,SV.den,U5]
    ·simp only [a4s,a1e] at h0 h1 h2;simp [Instr.sliceAt,Instr.slice,i7 hu,b2,Instr.sliceBounds,y7 C8,RV.den,CV.den,SV.den,U5,sb,h1,h2]
    ·simp only [a4s,a1e] at h0 h1 h2;simp [Instr.sliceAt,Instr.slice,i7 hu,b1,Instr.sliceBounds,y7 C8,RV.den,CV.den,SV.den,U5,sb,h0,h1]
    ·simp only [a1e] at h0 h1 h2;have:0<=m2:=Int.le_trans h0 h1;have s3:=sb k1 m1 m2.toNat .sliceB h0 (by omega);simp [Instr.sliceAt,Instr.slice,i7 hu,b1,b2,Instr.sliceBounds,y7 C8,RV.den,CV.den,SV.den,U5,sb,h2,this,s3]
   ·cases f7
  ·rename_i n e ad lo' ao hu hx un QY;obtain ⟨e1,_⟩:=d7 h hg hx;split at f7
   ·rename_i sz C8;cases f7;obtain ⟨h0,h1,h2⟩:=q8 _ (a0d.2 rfl);have bs:∀ {o:Option Operand} {n:Option Int},kB s gc o=some n->(o=none/\n=none)∨∃ k m,n=some m/\o.map a.eval=some (.int k m):=by
     intro o n hn;cases o with
     | none=>simp only [kB,a0l] at hn; exact .inl ⟨rfl,hn.symm⟩
     | some o =>
      simp only [kB] at hn;split at hn
      ·rename_i k m ho;cases hn;obtain ⟨f1,_⟩:=d7 h hg ho;exact .inr ⟨k,m,rfl,by simp only [a2u,f1]; rfl⟩
      ·cases hn
    refine ⟨?_,trivial,by simp⟩;refine x9 ?_;rw [e1];have hd:CV.den ρ (.one (.val (.pointer (some ad))))=.pointer (some ad):=rfl;have sb:∀ (k:IntKind) (n:Int) (y:Nat) (code:BoundsCode),0<=n->n<=(y:Int)->(Instr.sliceBound (.int k n) y code).run P w=.ok n.toNat w:=by
     intro k n y code q1 q2;simp [Instr.sliceBound,asIntOf,q1,q2]
    rw [hd];rcases bs un with ⟨rfl,rfl⟩ | ⟨k1,m1,rfl,b1⟩<;>rcases bs QY with ⟨rfl,rfl⟩ | ⟨k2,m2,rfl,b2⟩
    ·simp only [a4s] at h0 h1 h2;simp [Instr.sliceAt,Instr.sureAddr,i7 hu,Instr.sliceBounds,y7 C8,RV.den,CV.den,SV.den,U5];split<;>rfl
    ·simp only [a4s,a1e] at h0 h1 h2;simp [Instr.sliceAt,Instr.sureAddr,i7 hu,b2,Instr.sliceBounds,y7 C8,RV.den,CV.den,SV.den,U5,sb,h1,h2];split<;>rfl
    ·simp only [a4s,a1e] at h0 h1 h2;simp [Instr.sliceAt,Instr.sureAddr,i7 hu,b1,Instr.sliceBounds,y7 C8,RV.den,CV.den,SV.den,U5,sb,h0,h1];split<;>rfl
    ·simp only [a1e] at h0 h1 h2;have:0<=m2:=Int.le_trans h0 h1;have s3:=sb k1 m1 m2.toNat .sliceB h0 (by omega);simp [Instr.sliceAt,Instr.sureAddr,i7 hu,b1,b2,Instr.sliceBounds,y7 C8,RV.den,CV.den,SV.den,U5,sb,h2,this,s3];split<;>rfl
   ·cases f7
  ·cases f7
 -- nil or not
 ·rename_i op t x y ty;split at f7
  ·rename_i ms v' hy hu hx;have hy:=AD hy;subst hy;obtain ⟨e1,_⟩:=d7 h hg hx;have hd:CV.den ρ (.one (.val v'))=v':=rfl;rw [hd] at e1;have hm:P.underlying t=some (.interface (P.methodsAt t)):=by simp [Program.methodsAt,hu]
   split at f7
   ·cases f7;refine ⟨x9 ?_,trivial,by simp⟩;rw [e1,S2,eqGuard_nil_constR];simp only [a1n,a2i,Result.andThen_ok,run_eql_nil_nil w t hm]; rfl
   ·cases f7;refine ⟨x9 ?_,trivial,by simp⟩;rw [e1,S2,eqGuard_nil_constR];simp only [a1n,a2i,Result.andThen_ok,run_neq_nil_nil w t hm]; rfl
   ·cases f7;refine ⟨x9 ?_,trivial,by simp⟩;rw [e1,S2];simp only [a1n,J3 (P:=P) (w:=w) .eql t x (.const .nilIface) (.iface _ _) .nilIface (by simp) (by simp),Result.andThen_ok,run_eql_held_nil w t _ _ hm]; rfl
   ·cases f7;refine ⟨x9 ?_,trivial,by simp⟩;rw [e1,S2];simp only [a1n,J3 (P:=P) (w:=w) .neq t x (.const .nilIface) (.iface _ _) .nilIface (by simp) (by simp),Result.andThen_ok,run_neq_held_nil w t _ _ hm]; rfl
   ·cases f7
  ·rename_i e' v' hu hx;split at f7
   ·rename_i q hy hq;cases f7;obtain ⟨e1,_⟩:=d7 h hg hx;obtain ⟨n',c',rfl⟩:=wS hy;obtain ⟨n,c,hd⟩:=GZ ρ hq;refine ⟨x9 ?_,trivial,by simp⟩;rw [e1,S2];have NQ:CV.den ρ (.one v')=.slice q n c:=hd;rw [NQ];simp only [a1n,J3 (P:=P) (w:=w) .eql t x (.const (.slice none n' c')) (.slice q n c) (.slice none n' c') (by simp) (by simp),Result.andThen_ok,nF w t e' q n c n' c' hu]; rfl
   ·cases f7
  ·cases f7
 -- makeInterface
 ·rename_i t x;split at f7
  ·rename_i k n hc hx;cases f7;obtain ⟨e1,_⟩:=d7 h hg hx;refine ⟨x9 ?_,trivial,by simp⟩;rw [e1];exact run_makeInterface w t _ hc
  ·cases f7
 ·cases f7
theorem ap {P:Program} (h:kD ρ s W a w) (hg:E1 s gc) (o:Oper) {v:RV} {ob:List Prop} (f7:kC P s gc o.op=some (v,ob)) (q8:∀ p∈ob,p) :
  (execOp a.eval o).run P w=.ok (.value (v.den ρ)) w/\v.wf W/\∀ g pol c x,v≠.grd g pol c x:=by
 unfold kC at f7;split at f7
 ·rename_i r hr; cases f7; exact qg h hg o hr q8
 ·exact sj h hg o f7 q8
end
end Go.SX
end
section
namespace Go.SX
open Go
section
variable {C:Ctx} {ρ:Nat->Nat} {s s':St} {a:Act} {w:World} {gc:Option (Nat×Bool)}
theorem H1 {x:Sem Value} {v:Value} {P:Program} {w w':World} (h:x.run P w=.ok v w') :
  (do pure (.value (<- x)):Sem Next).run P w=.ok (.value v) w':=by
 simp [h]
theorem Sat.alloc (h:Sat C ρ s a w) {z:List SV} (hz:∀ x∈z,x.wf s.W) (t:TypeId) :
  Sat C (λi=>if i=s.next then w.heap.size else ρ i) { s with heap:=(s.next,⟨z,t,true⟩)::s.heap,next:=s.next+1 } a (w.alloc (.cells (z.map (SV.den ρ)).toArray t)):=by
 have hρ:∀ b,b<s.next->(λi=>if i=s.next then w.heap.size else ρ i) b=ρ b:=λb hb=>if_neg (by omega);have B0:s.W.le ⟨s.next+1,s.nr,s.rows⟩:=⟨a4l _,a0q _,λ_ _ _ h=>h⟩;have U0:∀ k,k<w.heap.size->(w.alloc (.cells (z.map (SV.den ρ)).toArray t)).heap[k]?=w.heap[k]?:=λk hk=>Go.RowKit.Below.heap_alloc w _ k hk;refine ⟨h.n,?_,h.grds,?_,?_,?_,h.defers,?_,?_,h.rowsD,?_,λb hb=>⟨Nat.lt_succ_of_lt (h.fix b hb).1,(hρ b (h.fix b hb).1).trans (h.fix b hb).2⟩⟩
 ·intro i v hv;obtain ⟨h1,h2⟩:=h.slots i v hv;exact ⟨by rw [h1,RV.den_congr hρ v h2],RV.wf_mono B0 v h2⟩
 ·intro b blk hb;simp only [look] at hb;cases hk:a1m s.next b with
  | true =>
   rw [hk] at hb;cases hb;have:=(d6 _ _).1 hk;subst this;refine ⟨by show s.next<s.next+1; omega,?_,λx hx=>SV.wf_mono B0 x (hz x hx),λ_=>.inl ?_⟩
   ·simp only [if_true];rw [x8 hρ z hz];exact heap_alloc_new w _
   ·simp only [if_true]; exact h.chg.size
  | false =>
   rw [hk] at hb;obtain ⟨h1,h2,h3,h4⟩:=h.heap b blk hb;refine ⟨by show b<s.next+1; omega,?_,λx hx=>SV.wf_mono B0 x (h3 x hx),?_⟩
   ·rw [x8 hρ _ h3];simp only [if_neg (show ¬ b=s.next by omega)];exact (U0 _ (h.lt b h1)).trans h2
   ·simp only [if_neg (show ¬ b=s.next by omega)]; exact h4
 ·intro b c hb hc he;have B8:b<s.next+1:=hb;have mD:c<s.next+1:=hc;change (if b=s.next then w.heap.size else ρ b)=(if c=s.next then w.heap.size else ρ c) at he;by_cases e1:b=s.next<;>by_cases e2:c=s.next
  ·omega
  ·rw [if_pos e1,if_neg e2] at he; have:=h.lt c (by omega); omega
  ·rw [if_neg e1,if_pos e2] at he; have:=h.lt b (by omega); omega
  ·rw [if_neg e1,if_neg e2] at he; exact h.inj b c (by omega) (by omega) he
 ·intro b hb;have B8:b<s.next+1:=hb;simp only [World.size_alloc];by_cases e1:b=s.next
  ·rw [if_pos e1]; omega
  ·rw [if_neg e1]; have:=h.lt b (by omega); omega
 ·exact h.chg.trans (Chg.alloc (λ_=>False) w _) (λi hi=>hi.elim)
 ·intro r R hR;obtain ⟨h0,h1,h2⟩:=h.rows r R hR;refine ⟨h0,h1.congr (λk hk=>U0 k (h2 k hk).1),λk hk=>?_⟩;obtain ⟨k1,k2,k3⟩:=h2 k hk;refine ⟨by simp only [World.size_alloc]; omega,λb hb=>?_,k3⟩;have B8:b<s.next+1:=hb;by_cases e1:b=s.next
  ·simp only [if_pos e1]; omega
  ·simp only [if_neg e1]; exact k2 b (by omega)
 ·intro p hp;obtain ⟨h1,h2,h3⟩:=h.pers p hp;have hk:∀ k,p.D k->(w.alloc (.cells (z.map (SV.den ρ)).toArray t)).heap[k]?=w.heap[k]?:=λk hk=>U0 k (h3 k hk).1;refine ⟨h2 _ hk,λw' pU=>h2 w' (λk hD=>(pU k hD).trans (hk k hD)),λk hD=>?_⟩;obtain ⟨k1,k2,k3⟩:=h3 k hD;refine ⟨by simp only [World.size_alloc]; omega,λb hb=>?_,k3⟩;have B8:b<s.next+1:=hb;by_cases e1:b=s.next
  ·simp only [if_pos e1]; omega
  ·simp only [if_neg e1]; exact k2 b (by omega)
theorem S8 (w:World) (g:Nat) (cs:Array Value):(w.setRow g cs).heap.size=w.heap.size:=by simp [World.setRow]
theorem Sat.setBlk (h:Sat C ρ s a w) {b:Nat} {blk:Blk} (hb:look s.heap b=some blk) (A9:blk.rw=true) {zs:List SV} (hz:∀ x∈zs,x.wf s.W) :
  Sat C ρ { s with heap:=upd s.heap b ⟨zs,blk.elem,true⟩ } a (w.setRow (ρ b) (zs.map (SV.den ρ)).toArray):=by
 obtain ⟨Q5,eO,GW,Jy⟩:=h.heap b blk hb;refine ⟨h.n,h.slots,h.grds,?_,h.inj,?_,h.defers,?_,?_,h.rowsD,?_,h.fix⟩
 ·intro c blk' hc;rw [s8] at hc;by_cases e:b=c
  ·subst e;rw [if_pos rfl] at hc;cases hc;exact ⟨Q5,setRow_heap w (ρ b) _ _ _ _ eO,hz,λ_=>Jy A9⟩
  ·rw [if_neg e] at hc;obtain ⟨h1,h2,h3,h4⟩:=h.heap c blk' hc;refine ⟨h1,?_,h3,h4⟩;rw [setRow_other w (ρ b) (ρ c) _ (λq=>e (h.inj b c Q5 h1 q.symm))];exact h2
 ·intro c hc; rw [S8]; exact h.lt c hc
 ·refine ⟨h.chg.os,h.chg.tape,h.chg.output,by rw [S8]; exact h.chg.size,λk hk hS=>?_⟩;rw [setRow_other w (ρ b) k _ (λe=>?_)]
  ·exact h.chg.block k hk hS
  ·rcases Jy A9 with q | q
   ·omega
   ·exact hS (e▸q)
 ·intro r R hR;obtain ⟨h0,h1,h2⟩:=h.rows r R hR;refine ⟨h0,h1.congr (λk hk=>setRow_other w (ρ b) k _ (λe=>(h2 k hk).2.1 b Q5 e.symm)),λk hk=>?_⟩;obtain ⟨k1,k2,k3⟩:=h2 k hk;exact ⟨by rw [S8]; exact k1,k2,k3⟩
 ·intro p hp;obtain ⟨h1,h2,h3⟩:=h.pers p hp;have hk:∀ k,p.D k->(w.setRow (ρ b) (zs.map (SV.den ρ)).toArray).heap[k]?=w.heap[k]?:=λk hD=>setRow_other w (ρ b) k _ (λe=>(h3 k hD).2.1 b Q5 e.symm);refine ⟨h2 _ hk,λw' pU=>h2 w' (λk hD=>(pU k hD).trans (hk k hD)),λk hD=>?_⟩;obtain ⟨k1,k2,k3⟩:=h3 k hD;exact ⟨by rw [S8]; exact k1,k2,k3⟩
theorem bK (h:Sat C ρ s a w) (hg:E1 s gc) (o:Oper) {v:RV} {s1:St} (f7:gW C.P s gc o.op=some (v,s1)) :
  ∃ ρ' w',(execOp a.eval o).run C.P w=.ok (.value (v.den ρ')) w'/\Sat C ρ' s1 a w'/\v.wf s1.W/\(∀ g pol c x,v≠.grd g pol c x) /\
   (∀ b,b<s.next->ρ' b=ρ b)/\s.next<=s1.next/\Chg (λ_=>False) w w':=by
 obtain ⟨dst,op,type,pos,after,guard⟩:=o;simp only at f7;unfold gW at f7;split at f7
 ·rename_i t;split at f7
  ·rename_i z hz;cases f7;obtain ⟨v0,z1,z2,z3⟩:=bJ (ρ:=ρ) (w:=w) hz;refine ⟨_,_,?_,h.alloc (z3 _) t,by show s.next<s.next+1; omega,by simp,λb hb=>if_neg (by omega),a4l _,Chg.alloc _ _ _⟩;refine H1 ?_;simp only [Instr.alloc,a1n,z1,Result.andThen_ok];simp [newVar,newRow,z2,RV.den,CV.den,SV.den]
  ·cases f7
 ·rename_i t x;split at f7
  ·rename_i y hy;obtain ⟨e1,e2⟩:=d7 h.toP hg hy;split at f7
   ·rename_i z hz;cases f7;obtain ⟨c1,c2⟩:=eS (ρ:=ρ) hz s.W e2;refine ⟨_,_,?_,h.alloc c2 t,by show s.next<s.next+1; omega,by simp,λb hb=>if_neg (by omega),a4l _,Chg.alloc _ _ _⟩;refine H1 ?_;rw [e1];generalize CV.den ρ y=u at c1;simp [Instr.box,newVar,newRow,c1,RV.den,CV.den,SV.den]
   ·cases f7
  ·cases f7
 ·rename_i t len parts;split at f7
  ·rename_i e hu;split at f7
   ·rename_i sz z C8 hz;split at f7
    ·rename_i B0 Ws Wm;split at f7
     ·rename_i cs hf;cases f7;obtain ⟨v0,z1,z2,z3⟩:=bJ (ρ:=ρ) (w:=w) hz;have Vn:sz≠0:=C5 Wm;have Nm:z.length=sz:=(d6 _ _).1 Ws;have e9:len*sz<=16777216:=a0w B0;have Cq:∀ x∈(a2f (len*sz)).map λi=>z.getD (i % sz) (.val undef),x.wf s.W:=by
       intro x hx;obtain ⟨i,_,rfl⟩:=a1d.1 hx;have:i % sz<z.length:=by rw [Nm]; exact Nat.mod_lt _ (by omega)
       simp only [a0r,a0b this,a1e];exact z3 _ _ (List.getElem_mem this)
      obtain ⟨f1,f2⟩:=bI h.toP hg (λ_ _ h=>h) Cq hf;refine ⟨_,_,?_,h.alloc f2 e,by show s.next<s.next+1; omega,by simp,λb hb=>if_neg (by omega),a4l _,Chg.alloc _ _ _⟩;refine H1 ?_;have Vr:(Array.range (len*sz)).map (λi=>v0.cells[i % v0.cells.size]!)=(((a2f (len*sz)).map λi=>z.getD (i % sz) (.val undef)).map (SV.den ρ)).toArray:=by
       apply a3u;simp only [Array.toList_map,Array.toList_range,a3q];refine a2g λi hi=>?_;have:i % sz<z.length:=by rw [Nm]; exact Nat.mod_lt _ (by omega)
       simp only [z2,a6a,a1k,Nm,Function.comp,a0r,a0b this,a1e];rw [getElem!_pos _ _ (by simpa using this)];simp
      have Wn:¬ (len*sz>2 ^ 24):=by omega
      have lO:(parts.map λ(x:Nat×Operand)=>(x.1,a.eval x.2)).toList=parts.toList.map λp=>(p.1,a.eval p.2):=by simp
      by_cases h0:len*sz=0
      ·have NO:len=0:=by
        rcases Nat.mul_eq_zero.1 h0 with h | h
        ·exact h
        ·exact absurd h Vn
       subst NO;simp only [Nat.zero_mul,List.range_zero,List.map_nil] at f1;simp only [Instr.buildSlice,a1n,i7 hu,Result.andThen_ok,y7 C8,Nat.zero_mul,if_true];simp only [a0x,gt_iff_lt,if_false];rw [show (Array.map (λx=>match x with | (i,x)=>(i,a.eval x)) parts).toList=parts.toList.map λp=>(p.1,a.eval p.2) from lO];simp [Array.range,f1,newRow,RV.den,CV.den,SV.den]
      ·simp only [Instr.buildSlice,a1n,i7 hu,Result.andThen_ok,y7 C8,if_neg Wn,if_neg h0,z1,a2i];rw [show (Array.map (λx=>match x with | (i,x)=>(i,a.eval x)) parts).toList=parts.toList.map λp=>(p.1,a.eval p.2) from lO,Vr,f1];simp [newRow,RV.den,CV.den,SV.den]
     ·cases f7
    ·cases f7
   ·cases f7
  ·cases f7
 ·cases f7
def nG (s:St) (gc:Option (Nat×Bool)):Op->Option Nat
 | .store _ a _=>match ev s gc a with
  | some (.one (.ptr b _))=>some b
  | _=>none
 | _=>none
theorem Chg.setRow (w:World) (g:Nat) (cs:Array Value):Chg (λk=>k=g) w (w.setRow g cs) :=
 ⟨rfl,rfl,rfl,by rw [S8]; exact a0q _,λk _ hk=>setRow_other w g k cs hk⟩
theorem ca (h:Sat C ρ s a w) (hg:E1 s gc) (o:Oper) {s1:St} (f7:Y5 C.P s gc o.op=some s1) :
  ∃ b w',nG s gc o.op=some b/\b<s.next/\(execOp a.eval o).run C.P w=.ok .skip w'/\Sat C ρ s1 a w'/\Chg (λk=>k=ρ b) w w'/\s1.next=s.next:=by
 obtain ⟨dst,op,type,pos,after,guard⟩:=o;simp only at f7;unfold Y5 at f7;split at f7
 ·rename_i t ad x;split at f7
  ·rename_i b off v sz uo hx C8;obtain ⟨e1,_⟩:=d7 h.toP hg uo;obtain ⟨e2,e3⟩:=d7 h.toP hg hx;split at f7
   ·rename_i ys blk qr hb;obtain ⟨c1,c2⟩:=eS (ρ:=ρ) qr s.W e3;split at f7
    ·rename_i A9 hl B0 pX;cases f7;obtain ⟨Q5,eO,GW,Jy⟩:=h.heap b blk hb;have NF:=(d6 _ _).1 hl;have QV:off+ys.length<=blk.cells.length:=a0w B0;refine ⟨b,_,by simp [nG,uo],Q5,?_,h.setBlk hb A9 (qC GW c2),Chg.setRow _ _ _,rfl⟩;have F9:=run_storeCells_at C.P (ρ b) off blk.elem (ys.map (SV.den ρ)) 0 (blk.cells.map (SV.den ρ)).toArray w eO (by simpa using QV) (iY pX);rw [nD];simp only [Nat.add_zero] at F9;have ha:CV.den ρ (.one (.ptr b off))=.pointer (some ⟨ρ b,off,none⟩):=rfl;simp only [execOp,e1,e2,ha];generalize CV.den ρ v=u at c1;simp [Instr.storeAt,Instr.sureAddr,storeVar,y7 C8,c1,NF,F9]
    ·cases f7
   ·cases f7
  ·cases f7
 ·cases f7
end
end Go.SX
end
section
namespace Go.SX
open Go
def Fin (C:Ctx) (m:Machine) (cs:List Frame) (e:Ending) (w':World):Prop :=
 match C.round with
 | none=>∃ fr,Comes C.P m (lone fr cs w') e/\fr.fn=C.f/\fr.leaving C.P w' e
 | some _=>∃ c cs' v,cs=c::cs'/\e=.returned v/\Steps C.P m (lone (c.finish v) cs' w')
theorem Fin.of_steps {C:Ctx} {m m1:Machine} {cs:List Frame} {e:Ending} {w':World} (hs:Steps C.P m m1) (h:Fin C m1 cs e w'):Fin C m cs e w':=by
 unfold Fin at h ⊢;split at h
 ·obtain ⟨fr,h1,h2,h3⟩:=h;exact ⟨fr,Comes.of_steps hs h1,h2,h3⟩
 ·obtain ⟨c,cs',v,h1,h2,h3⟩:=h;exact ⟨c,cs',v,h1,h2,hs.trans h3⟩
def Ok (C:Ctx) (todo:List Item) (a:Act) (w:World):Prop :=
 ∀ (b:Frame),b.fn=C.f->b.kind=.normal->b.roundOf=C.round->∀ cs,(C.round.isSome=true->cs≠[])->∃ e w',C.R e w'/\Fin C (lone (b.atR a todo) cs w) cs e w'
def V (C:Ctx) (c:Cfg):Prop:=∀ ρ a w,Sat C ρ c.st a w->Ok C c.todo a w
theorem Ok.of_step {C:Ctx} {todo todo':List Item} {a a':Act} {w w':World}
  (hs:∀ (b:Frame) cs,b.roundOf=C.round->b.fn=C.f->Go.step C.P (lone (b.atR a todo) cs w)=.next (lone (b.atR a' todo') cs w')) (h:Ok C todo' a' w'):Ok C todo a w:=by
 intro b hb hk hr cs gN;obtain ⟨e,w2,h1,h2⟩:=h b hb hk hr cs gN;exact ⟨e,w2,h1,h2.of_steps (.one (hs b cs hr hb))⟩
theorem jb {o:Oper} {ρ:Operand->Value} {P:Program} {w w':World} {n:Next} (hr:(execOp ρ o).run P w=.ok n w') (hn:∀ d,n≠.defer d):∀ c,o.op≠.defer c:=by
 intro c hc;unfold execOp at hr;rw [hc] at hr;simp only [a1n] at hr;cases h:(resolve ρ c o.type).run P w with
 | ok d w1=>rw [h] at hr; simp only [Result.andThen_ok,a2i,Result.ok.injEq] at hr; exact hn d hr.1.symm
 | halt x w1=>rw [h] at hr; cases hr
section
variable {C:Ctx} {ρ:Nat->Nat} {s s':St} {a:Act} {w w':World} {ops:Array Oper} {i:Nat} {l:List Nat} {k:List Item} {o:Oper}
theorem Ok.op_value (ho:ops[i]?=some o) (hw:Region.wanted o (yielded ops a.tmps)=true) {v:Value} (hr:(execOp a.eval o).run C.P w=.ok (.value v) w')
  (h:Ok C (.inRegion ops l::k) (a.put o.dst v) w'):Ok C (.inRegion ops (i::l)::k) a w:=by
 refine Ok.of_step (λb cs _ _=>?_) h;have hg:=stepGR_op (P:=C.P) (b:=b) (k:=k) (cs:=cs) (w:=w) (rest:=l) ho hw;rw [Oper.semAt_eq _ _ _ (jb hr (by simp))] at hg;have M7:(b.atR a (.inRegion ops (i::l)::k)).finish v=b.atR (a.put o.dst v) (.inRegion ops l::k):=by rw [Frame.finish_atR,ho]; rfl
 exact step_lone_go (by rw [hg,<- M7]; simp [stepG.apply,hr])
theorem Ok.op_skip (ho:ops[i]?=some o) (hw:Region.wanted o (yielded ops a.tmps)=true) (hr:(execOp a.eval o).run C.P w=.ok .skip w')
  (h:Ok C (.inRegion ops l::k) (a.put o.dst undef) w'):Ok C (.inRegion ops (i::l)::k) a w:=by
 refine Ok.of_step (λb cs _ _=>?_) h;have hg:=stepGR_op (P:=C.P) (b:=b) (k:=k) (cs:=cs) (w:=w) (rest:=l) ho hw;rw [Oper.semAt_eq _ _ _ (jb hr (by simp))] at hg;have M7:(b.atR a (.inRegion ops (i::l)::k)).finish undef=b.atR (a.put o.dst undef) (.inRegion ops l::k):=by rw [Frame.finish_atR,ho]; rfl
 exact step_lone_go (by rw [hg,<- M7]; simp [stepG.apply,hr])
theorem Ok.op_pass (ho:ops[i]?=some o) (hw:Region.wanted o (yielded ops a.tmps)=false)
  (h:Ok C (.inRegion ops l::k) (a.put o.dst undef) w):Ok C (.inRegion ops (i::l)::k) a w:=by
 refine Ok.of_step (λb cs _ _=>?_) h;have hs:=stepR_op_skip (P:=C.P) (b:=b) (a:=a) (k:=k) (cs:=cs) (w:=w) (ops:=ops) (i:=i) (rest:=l) (by simp [ho,hw]);simp only [ho,Option.bind_some] at hs;exact hs
theorem Ok.op_call (ho:ops[i]?=some o) (hw:Region.wanted o (yielded ops a.tmps)=true) {f:FuncId} {args:Array Value} (hr:(execOp a.eval o).run C.P w=.ok (.enter f args) w')
  {R:Ending->World->Prop} (hc:Calls C.P f args w' R)
  (h:∀ e w2,R e w2->∃ v,e=.returned v/\Ok C (.inRegion ops l::k) (a.put o.dst v) w2):Ok C (.inRegion ops (i::l)::k) a w:=by
 intro b hb hk qu cs gN;have hg:=stepGR_op (P:=C.P) (b:=b) (k:=k) (cs:=cs) (w:=w) (rest:=l) ho hw;rw [Oper.semAt_eq _ _ _ (jb hr (by simp))] at hg;obtain ⟨e,w2,fr,hR,iR,_,yH⟩:=hc (b.atR a (.inRegion ops (i::l)::k)::cs);obtain ⟨v,rfl,Nn⟩:=h e w2 hR;have cr:Go.step C.P (lone (b.atR a (.inRegion ops (i::l)::k)) cs w)=.next (lone (Frame.enter C.P f args .normal) (b.atR a (.inRegion ops (i::l)::k)::cs) w') :=
  step_lone_go (by rw [hg]; simp [stepG.apply,hr,Frame.atR])
 obtain ⟨e,w3,h1,h2⟩:=Nn b hb hk qu cs gN;have M7:(b.atR a (.inRegion ops (i::l)::k)).finish v=b.atR (a.put o.dst v) (.inRegion ops l::k):=by rw [Frame.finish_atR,ho]; rfl
 refine ⟨e,w3,h1,h2.of_steps (.head cr (iR.trans (.one ?_)))⟩;rw [<- M7]; exact step_leave_returned yH
theorem D5 (h:Sat C ρ s a w) (hg:L7 s ops o.guard=.yes):Region.wanted o (yielded ops a.tmps)=true:=by
 unfold L7 at hg;unfold Region.wanted;split at hg
 ·rename_i e; rw [e]
 ·rename_i j pol e;rw [e];split at hg
  ·cases hg
  ·rename_i oj hj;split at hg
   ·cases hg
   ·rename_i g hd;split at hg
    ·rename_i hl;split at hg
     ·have:=(h.slots g _ hl).1;simp [yielded,hj,hd,this,RV.den,CV.den,SV.den]
     ·cases hg
    ·rename_i hl;split at hg
     ·cases hg
     ·have:=(h.slots g _ hl).1;simp [yielded,hj,hd,this,RV.den,CV.den,SV.den]
    ·cases hg
    ·cases hg
    ·cases hg
theorem Ct (h:Sat C ρ s a w) (hg:L7 s ops o.guard=.no):Region.wanted o (yielded ops a.tmps)=false:=by
 unfold L7 at hg;unfold Region.wanted;split at hg
 ·cases hg
 ·rename_i j pol e;rw [e];split at hg
  ·cases hg
  ·rename_i oj hj;split at hg
   ·cases hg
   ·rename_i g hd;split at hg
    ·rename_i hl;split at hg
     ·cases hg
     ·have:=(h.slots g _ hl).1;simp [yielded,hj,hd,this,RV.den,CV.den,SV.den]
    ·rename_i hl;split at hg
     ·have:=(h.slots g _ hl).1;simp [yielded,hj,hd,this,RV.den,CV.den,SV.den]
     ·cases hg
    ·cases hg
    ·rename_i hl;have:=(h.slots g _ hl).1;simp [yielded,hj,hd,this,RV.den,CV.den,SV.den]
    ·cases hg
theorem mG {g:Nat} {pol c:Bool} (h:Sat C ρ s a w) (hg:L7 s ops o.guard=.ask g pol c) :
  look s.slots g=some (.v (.one (.sb c)))/\Region.wanted o (yielded ops a.tmps)=(c==pol):=by
 unfold L7 at hg;unfold Region.wanted;split at hg
 ·cases hg
 ·rename_i j pol' e;rw [e];split at hg
  ·cases hg
  ·rename_i oj hj;split at hg
   ·cases hg
   ·rename_i g' hd;split at hg
    ·rename_i hl;split at hg<;>cases hg
    ·rename_i hl;split at hg<;>cases hg
    ·rename_i c' hl;cases hg;have:=(h.slots g _ hl).1;refine ⟨hl,?_⟩;simp [yielded,hj,hd,this,RV.den,CV.den,SV.den]
    ·cases hg
    ·cases hg
theorem aW {c pol:Bool}:∀ {ob:List Prop},(∀ p∈ii c pol ob,p)->c=pol->∀ p∈ob,p
 | [],_,_,p,hp=>by simp at hp
 | q::ob,h,hc,p,hp=>by
  simp only [ii] at h;rcases a0k.1 hp with rfl | hp
  ·exact h _ (a0f ..) hc
  ·exact aW (λr hr=>h r (a0e _ hr)) hc p hp
theorem aX (l:List Nat) (g i:Nat):p5 (M4 l g) i=true↔(i=g∨p5 l i=true):=by
 unfold M4;cases h:p5 l g with
 | true =>
  simp only;constructor
  ·exact .inr
  ·rintro (rfl | h2)
   ·exact h
   ·exact h2
 | false=>simp only [w9,a0k]
theorem Sat.addG (h:Sat C ρ s a w) (g:Nat):Sat C ρ { s with gs:=M4 s.gs g } a w :=
 ⟨h.n,h.slots,λi g' pol c x hl=>⟨(aX _ _ _).2 (.inr (h.grds i g' pol c x hl).1),(h.grds i g' pol c x hl).2⟩,h.heap,h.inj,h.lt,h.defers,h.chg,h.rows,h.rowsD,h.pers,h.fix⟩
theorem N8 {s s':St} {d:Option Nat} {v:RV} (h:s.put d v=some s'):s'.W=s.W:=by
 unfold St.put at h;split at h
 ·cases h; rfl
 ·split at h
  ·cases h
  ·split at h
   ·cases h
   ·cases h; rfl
theorem J9 {s s':St} {d:Option Nat} {v:RV} (h:s.put d v=some s'):s'.next=s.next:=by
 unfold St.put at h;split at h
 ·cases h; rfl
 ·split at h
  ·cases h
  ·split at h
   ·cases h
   ·cases h; rfl
theorem eT {s s':St} {d:Option Nat} {v:RV} {g:Nat} (h:s.put d v=some s') (hg:p5 s.gs g=true):d≠some g:=by
 rintro rfl;simp only [St.put] at h;split at h
 ·cases h
 ·rw [hg] at h; cases h
theorem ux {ob:List Prop} (h:Sat C ρ s a w) (ho:ops[i]?=some o) (F9:ut C.P ops o s=some (s',ob)) (q8:∀ p∈ob,p)
  (hk:∀ ρ' a' w',Sat C ρ' s' a' w'->Ok C (.inRegion ops l::k) a' w'):Ok C (.inRegion ops (i::l)::k) a w:=by
 unfold ut at F9;split at F9
 ·rename_i hg;have hw:=D5 h hg;split at F9
  ·rename_i v ob' f7;split at F9
   ·rename_i s1 o9;cases F9;obtain ⟨e1,e2,e3⟩:=ap h.toP (j9 s) o f7 q8;exact Ok.op_value ho hw e1 (hk ρ _ _ (h.put o9 e2 (λg pol c x e=>absurd e (e3 g pol c x))))
   ·cases F9
  ·split at F9
   ·rename_i v s1 f7;split at F9
    ·rename_i s2 o9;cases F9;obtain ⟨ρ',w2,e1,e2,e3,e4,_⟩:=bK h (j9 s) o f7;exact Ok.op_value ho hw e1 (hk ρ' _ _ (e2.put o9 e3 (λg pol c x e=>absurd e (e4 g pol c x))))
    ·cases F9
   ·split at F9
    ·rename_i s1 f7;split at F9
     ·rename_i hd;cases F9;obtain ⟨_,w2,_,_,e1,e2,_⟩:=ca h (j9 s) o f7;refine Ok.op_skip ho hw e1 ?_;rw [hd];exact hk ρ _ _ e2
     ·cases F9
    ·cases F9
 ·rename_i hg;split at F9
  ·rename_i s1 o9;cases F9;exact Ok.op_pass ho (Ct h hg) (hk ρ _ _ (h.put (v:=.v (.one (.val undef))) o9 trivial (λg pol c x e=>by cases e)))
  ·cases F9
 ·rename_i g pol c hg;obtain ⟨hl,Gz⟩:=mG h hg;split at F9
  ·rename_i x ob' f7;split at F9
   ·rename_i s1 o9;cases F9;have h2:=h.addG g;have mu:p5 (M4 s.gs g) g=true:=(aX _ _ _).2 (.inl rfl);by_cases hc:c=pol
    ·subst hc;have Nw:E1 s (some (g,c)):=λg' pol' e=>by cases e; exact hl
     obtain ⟨e1,e2,e3⟩:=ap h.toP Nw o f7 (aW q8 rfl);refine Ok.op_value ho (by rw [Gz]; simp) e1 ?_;have hd:(RV.v x).den ρ=(RV.grd g c c x).den ρ:=by simp [RV.den]
     rw [hd];exact hk ρ _ _ (h2.put o9 (λ_=>e2) (λg' pol' c' x' e=>by cases e; exact ⟨mu,hl,eT o9 mu⟩))
    ·refine Ok.op_pass ho (by rw [Gz]; simp [hc]) ?_;have hd:undef=(RV.grd g pol c x).den ρ:=by simp [RV.den,hc]
     rw [hd];exact hk ρ _ _ (h2.put o9 (λe=>absurd e hc) (λg' pol' c' x' e=>by cases e; exact ⟨mu,hl,eT o9 mu⟩))
   ·cases F9
  ·cases F9
 ·cases F9
end
end Go.SX
end
section
namespace Go.SX
open Go
theorem U7:∀ {ob:List Prop},B9 ob->∀ p∈ob,p
 | [],_,p,hp=>by simp at hp
 | [q],h,p,hp=>by rw [a0d.1 hp]; exact h
 | q::r::l,h,p,hp=>by
  rcases a0k.1 hp with rfl | hp
  ·exact h.1
  ·exact U7 h.2 p hp
section
variable {C:Ctx}
theorem V.of_step {c c':Cfg} (h:V C c') (hs:∀ (b:Frame) cs a w,Go.step C.P (lone (b.atR a c.todo) cs w)=.next (lone (b.atR a c'.todo) cs w)) (he:c'.st=c.st):V C c :=
 fun ρ a w hS=>Ok.of_step (λb cs _ _=>hs b cs a w) (h ρ a w (he▸hS))
theorem eU {c c':Cfg} {ob:List Prop} (hs:qz C.P c=some (c',ob)) (q8:∀ p∈ob,p) (h:V C c'):V C c:=by
 obtain ⟨todo,st⟩:=c;unfold qz at hs;simp only at hs;split at hs
 ·cases hs; exact V.of_step h (λb cs a w=>stepR_skip) rfl
 ·cases hs; exact V.of_step h (λb cs a w=>stepR_label) rfl
 ·cases hs; exact V.of_step h (λb cs a w=>stepR_inBlock) rfl
 ·cases hs; exact V.of_step h (λb cs a w=>step_lone_go (by simp [stepG,stepG.exec,Frame.atR])) rfl
 ·cases hs; exact V.of_step h (λb cs a w=>stepR_seq) rfl
 ·cases hs; exact V.of_step h (λb cs a w=>stepR_block) rfl
 ·cases hs; exact V.of_step h (λb cs a w=>step_lone_go (by simp [stepG,stepG.exec,Frame.atR])) rfl
 ·split at hs
  ·rename_i k' he;cases hs; exact V.of_step h (λb cs a w=>stepR_exit he) rfl
  ·cases hs
 ·split at hs
  ·rename_i k' he;cases hs; exact V.of_step h (λb cs a w=>stepR_goto he) rfl
  ·cases hs
 ·split at hs
  ·rename_i uo;cases hs;intro ρ a w hS;obtain ⟨e1,_⟩:=d7 hS.toP (j9 _) uo;exact Ok.of_step (λb cs _ _=>stepR_cond (t:=true) e1) (h ρ a w hS)
  ·rename_i uo;cases hs;intro ρ a w hS;obtain ⟨e1,_⟩:=d7 hS.toP (j9 _) uo;exact Ok.of_step (λb cs _ _=>stepR_cond (t:=false) e1) (h ρ a w hS)
  ·cases hs
 ·cases hs; exact V.of_step h (λb cs a w=>stepR_region) rfl
 ·cases hs; exact V.of_step h (λb cs a w=>stepR_region_end) rfl
 ·split at hs
  ·rename_i o ho;split at hs
   ·rename_i s' ob' F9;cases hs;intro ρ a w hS;exact ux hS ho F9 q8 (fun ρ' a' w' uh=>h ρ' a' w' uh)
   ·cases hs
  ·cases hs
 ·cases hs
theorem il:∀ (n:Nat) (c:Cfg),(∀ p∈(iX C.P n c).2,p)->V C (iX C.P n c).1->V C c
 | 0,_,_,h=>h
 | n+1,c,q8,h=>by
  unfold iX at q8 h;split at q8
  ·rename_i hs; rw [hs] at h; exact h
  ·rename_i c' hs;rw [hs] at h;exact eU hs (by simp) (il n c' q8 h)
  ·rename_i c' ob E0 hs;rw [hs] at h;have h':V C (iX C.P n c').1:=by
    cases ob with
    | nil=>exact h
    | cons=>exact h
   exact eU hs (λp hp=>q8 p (List.mem_append_left _ hp)) (il n c' (λp hp=>q8 p (List.mem_append_right _ hp)) h')
theorem V.run (n:Nat) (ob:List Prop) {c:Cfg} (hr:(iX C.P n c).2=ob) (ho:B9 ob) (h:V C (iX C.P n c).1):V C c :=
 il n c (hr▸U7 ho) h
def Ha (g:Nat) (b:Bool):List (Nat×RV)->List (Nat×RV)
 | []=>[]
 | (k,v)::l=>(k,match v with
  | .grd g' pol c x=>match a1m g g' with
   | true=>match pol==b with
    | true=>.v x
    | false=>.v (.one (.val undef))
   | false=>.grd g' pol c x
  | v=>match a1m k g with
   | true=>.v (.one (.bool b))
   | false=>v)::Ha g b l
def St.know (s:St) (g:Nat) (b:Bool):St:={ s with slots:=Ha g b s.slots }
theorem kG (g:Nat) (b:Bool):∀ (l:List (Nat×RV)) (i:Nat),look (Ha g b l) i=(look l i).map λv=>match v with
  | .grd g' pol c x=>match a1m g g' with
   | true=>match pol==b with
    | true=>.v x
    | false=>.v (.one (.val undef))
   | false=>.grd g' pol c x
  | v=>match a1m i g with
   | true=>.v (.one (.bool b))
   | false=>v
 | [],i=>rfl
 | (k,v)::l,i=>by
  simp only [Ha,look];cases hk:a1m k i with
  | true=>have:=(d6 k i).1 hk; subst this; rfl
  | false=>exact kG g b l i
theorem Sat.know {ρ:Nat->Nat} {s:St} {a:Act} {w:World} {g:Nat} {b:Bool} (h:Sat C ρ s a w) (hl:look s.slots g=some (.v (.one (.sb b)))):Sat C ρ (s.know g b) a w:=by
 refine ⟨h.n,?_,?_,h.heap,h.inj,h.lt,h.defers,h.chg,h.rows,h.rowsD,h.pers,h.fix⟩
 ·intro i v hv;simp only [St.know,kG,a1y] at hv;obtain ⟨u,hu,rfl⟩:=hv;obtain ⟨h1,h2⟩:=h.slots i u hu;cases u with
  | grd g' pol c x =>
   simp only;cases hg:a1m g g' with
   | true =>
    have:=(d6 g g').1 hg;subst this;have h3:=(h.grds i g pol c x hu).2;rw [hl] at h3;injection h3 with h3; injection h3 with h3; injection h3 with h3; injection h3 with h3;subst h3;cases hp:pol==b with
    | true =>
     have:pol=b:=by simpa using hp
     subst this;exact ⟨by rw [h1]; simp [RV.den],h2 rfl⟩
    | false =>
     have:b≠pol:=λe=>by subst e; simp at hp
     exact ⟨by rw [h1]; simp [RV.den,this,CV.den,SV.den],trivial⟩
   | false=>exact ⟨h1,h2⟩
  | v x =>
   simp only;cases hk:a1m i g with
   | true =>
    have:=(d6 i g).1 hk;subst this;rw [hl] at hu;cases hu;exact ⟨h1,trivial⟩
   | false=>exact ⟨h1,h2⟩
  | tup xs =>
   simp only;cases hk:a1m i g with
   | true =>
    have:=(d6 i g).1 hk;subst this;rw [hl] at hu;cases hu
   | false=>exact ⟨h1,h2⟩
 ·intro i g' pol c x hv;simp only [St.know,kG,a1y] at hv ⊢;obtain ⟨u,hu,hv⟩:=hv;cases u with
  | grd g2 pol2 c2 x2 =>
   simp only at hv;cases hg:a1m g g2 with
   | true =>
    rw [hg] at hv;cases hp:pol2==b<;>rw [hp] at hv<;>cases hv
   | false =>
    rw [hg] at hv;cases hv;obtain ⟨h1,h2⟩:=h.grds i g' pol c x hu;refine ⟨h1,_,h2,?_⟩;have:a1m g' g=false:=by
     cases hb:a1m g' g with
     | true=>exact absurd ((d6 _ _).1 hb).symm (C5 hg)
     | false=>rfl
    simp only [this]
  | v x2 =>
   simp only at hv;cases hk:a1m i g<;>rw [hk] at hv<;>cases hv
  | tup x2 =>
   simp only at hv;cases hk:a1m i g<;>rw [hk] at hv<;>cases hv
def kH (c:Cfg):Option (Nat×Bool) :=
 match c.todo with
 | .code (.cond (.tmp t) _ _)::_=>match look c.st.slots t with
  | some (.v (.one (.sb b)))=>some (t,b)
  | _=>none
 | .inRegion ops (i::_)::_=>match ops[i]? with
  | some o=>match L7 c.st ops o.guard with
   | .ask g _ b=>some (g,b)
   | _=>none
  | none=>none
 | _=>none
def Cfg.know (c:Cfg) (g:Nat) (b:Bool):Cfg:=⟨c.todo,c.st.know g b⟩
theorem lT {c:Cfg} {g:Nat} {b:Bool} (h:kH c=some (g,b)):look c.st.slots g=some (.v (.one (.sb b))):=by
 unfold kH at h;split at h
 ·split at h
  ·rename_i hl; cases h; exact hl
  ·cases h
 ·split at h
  ·rename_i o ho;split at h
   ·rename_i hg;cases h;unfold L7 at hg;split at hg
    ·cases hg
    ·split at hg
     ·cases hg
     ·split at hg
      ·cases hg
      ·split at hg
       ·split at hg<;>cases hg
       ·split at hg<;>cases hg
       ·rename_i hl; cases hg; exact hl
       ·cases hg
       ·cases hg
   ·cases h
  ·cases h
 ·cases h
theorem aY (g:Nat) (b:Bool) {c:Cfg} (hc:kH c=some (g,b)) (h1:b=true->V C (c.know g true)) (h2:b=false->V C (c.know g false)):V C c:=by
 intro ρ a w hS;have hl:=lT hc;cases b with
 | true=>exact h1 rfl ρ a w (hS.know hl)
 | false=>exact h2 rfl ρ a w (hS.know hl)
theorem jc (g:Nat) (b:Bool) (b':Bool) {c:Cfg} (hc:look c.st.slots g=some (.v (.one (.sb b)))) (hb:b=b') (h:V C (c.know g b')):V C c:=by
 subst hb;exact fun ρ a w hS=>h ρ a w (hS.know hc)
end
theorem V.u {C:Ctx} {c:Cfg} (h:V C (iX C.P 100 c).1) (hr:(iX C.P 100 c).2=[]:=by kernel_rfl):V C c:=V.run 100 [] hr trivial h
theorem f9 {C:Ctx} (g:Nat) (b:Bool) {c:Cfg} (h1:b=true->V C (c.know g true)) (h2:b=false->V C (c.know g false)) (hc:kH c=some (g,b):=by kernel_rfl):V C c:=aY g b hc h1 h2
theorem m0 {C:Ctx} (g:Nat) (b b':Bool) {c:Cfg} (hb:b=b') (h:V C (c.know g b')) (hc:look c.st.slots g=some (.v (.one (.sb b))):=by kernel_rfl):V C c:=jc g b b' hc hb h
end Go.SX
end
section
namespace Go.SX
open Go
def evs (s:St) (gc:Option (Nat×Bool)):List Operand->Option (List CV)
 | []=>some []
 | o::l=>match ev s gc o with
  | some x=>match evs s gc l with
   | some xs=>some (x::xs)
   | none=>none
  | none=>none
def fU (s:St) (gc:Option (Nat×Bool)):Callee->Option (FuncId×List CV)
 | .value o=>match ev s gc o with
  | some (.one (.fn f cap))=>some (f,cap.map λb=>.one (.ptr b 0))
  | some (.one (.val (.func (.func f) first cap)))=>match first.toList with
   | []=>some (f,cap.toList.map iW)
   | _=>none
  | _=>none
 | _=>none
def I4 (c:Cfg):Option (Option (Nat×Bool×Bool)×FuncId×List CV) :=
 match c.todo with
 | .inRegion ops (i::_)::_=>match ops[i]? with
  | some o=>match o.op with
   | .call cl=>match L7 c.st ops o.guard with
    | .yes=>match fU c.st none cl.callee,evs c.st none cl.args.toList with
     | some (f,caps),some xs=>some (none,f,xs++caps)
     | _,_=>none
    | .ask g pol b=>match fU c.st (some (g,pol)) cl.callee,evs c.st (some (g,pol)) cl.args.toList with
     | some (f,caps),some xs=>some (some (g,pol,b),f,xs++caps)
     | _,_=>none
    | _=>none
   | _=>none
  | none=>none
 | _=>none
def j5 (c:Cfg) (s:St) (v:RV):Option Cfg :=
 match c.todo with
 | .inRegion ops (i::l)::k=>match ops[i]? with
  | some o=>match s.put o.dst v with
   | some s'=>some ⟨.inRegion ops l::k,s'⟩
   | none=>none
  | none=>none
 | _=>none
section
variable {C:Ctx} {ρ:Nat->Nat} {s:St} {a:Act} {w:World} {gc:Option (Nat×Bool)}
theorem kI {W:WF} (h:kD ρ s W a w) (hg:E1 s gc):∀ {os:List Operand} {xs:List CV},evs s gc os=some xs ->
  os.map a.eval=xs.map (CV.den ρ)/\∀ x∈xs,x.wf W
 | [],xs,hc=>by
  simp only [evs,a0l] at hc;subst hc;simp
 | o::os,xs,hc=>by
  simp only [evs] at hc;split at hc
  ·rename_i x uo;split at hc
   ·rename_i xs' JE;cases hc;obtain ⟨e1,e2⟩:=d7 h hg uo;obtain ⟨i1,i2⟩:=kI h hg JE;refine ⟨by simp only [a3h,i1,e1],?_⟩;intro c hc;rcases a0k.1 hc with rfl | hc
    ·exact e2
    ·exact i2 c hc
   ·cases hc
  ·cases hc
theorem G5 {cl:Call} {t:TypeId} {f:FuncId} {caps xs:List CV} {P:Program} {W:WF} (h:kD ρ s W a w) (hg:E1 s gc) (h1:fU s gc cl.callee=some (f,caps)) (h2:evs s gc cl.args.toList=some xs)
  (bG:∀ args w,(callFunc f args).run P w=.ok (.enter f args) w) :
  (do let d <- resolve a.eval cl t; invoke d.target d.args:Sem Next).run P w=.ok (.enter f ((xs++caps).map (CV.den ρ)).toArray) w:=by
 obtain ⟨callee,args,argTypes⟩:=cl;have ha:args.map a.eval=(xs.map (CV.den ρ)).toArray:=by
  have:=(kI h hg h2).1;apply a3u;simpa using this
 unfold fU at h1;split at h1
 ·rename_i o Av;simp only at Av;subst Av;split at h1
  ·rename_i f' cap uo;cases h1;obtain ⟨e1,_⟩:=d7 h hg uo;simp only [resolve,e1,CV.den,SV.den,Deferred.ofValue,a1n,a2i,Result.andThen_ok,invoke,ha,bG];congr 3;simp [a3q,Function.comp_def,CV.den,SV.den]
  ·rename_i f' first cap uo;split at h1
   ·rename_i hf;cases h1;have mC:first=#[]:=by apply a3u; simpa using hf
    subst mC;obtain ⟨e1,_⟩:=d7 h hg uo;simp only [resolve,e1,CV.den,SV.den,Deferred.ofValue,a1n,a2i,Result.andThen_ok,invoke,ha,bG];congr 3;have:(CV.den ρ ∘ iW)=id:=funext (qA ρ);simp [a3q,this]
   ·cases h1
  ·cases h1
 ·cases h1
theorem sk {c:Cfg} {f:FuncId} {xs:List CV} (hc:I4 c=some (none,f,xs)) (bG:∀ args w,(callFunc f args).run C.P w=.ok (.enter f args) w)
  (h:∀ ρ a w,Sat C ρ c.st a w->∃ R',Calls C.P f (xs.map (CV.den ρ)).toArray w R' /\
   ∀ e w',R' e w'->∃ ρ' v s1 c',e=.returned (v.den ρ')/\Sat C ρ' s1 a w'/\v.wf s1.W/\(∀ g pol b x,v≠.grd g pol b x)/\j5 c s1 v=some c'/\V C c'):V C c:=by
 intro ρ a w hS;obtain ⟨todo,st⟩:=c;unfold I4 at hc;simp only at hc h hS ⊢;split at hc
 ·rename_i ops i l k;split at hc
  ·rename_i o ho;split at hc
   ·rename_i cl f7;split at hc
    ·rename_i hg;split at hc
     ·rename_i f' caps ys h1 h2;simp only [a0l,a1f,true_and] at hc;obtain ⟨rfl,rfl⟩:=hc;obtain ⟨R',yG,hR⟩:=h ρ a w hS;have hr:=G5 (t:=o.type) hS.toP (j9 st) h1 h2 bG;refine Ok.op_call ho (D5 hS hg) (by unfold execOp; rw [f7]; exact hr) yG (λe w2 hq=>?_);obtain ⟨ρ',v,s1,c',rfl,mB,hv,Cb,I9,hV⟩:=hR e w2 hq;refine ⟨_,rfl,?_⟩;simp only [j5,ho] at I9;split at I9
      ·rename_i s' o9;cases I9;exact hV ρ' _ _ (mB.put o9 hv (λg pol b x e=>absurd e (Cb g pol b x)))
      ·cases I9
     ·cases hc
    ·split at hc<;>cases hc
    ·cases hc
   ·cases hc
  ·cases hc
 ·cases hc
theorem Sat.below (h:Sat C ρ s a w) {w':World} (hc:Chg (λ_=>False) w w'):Sat C ρ s a w':=by
 have hb:∀ k,k<w.heap.size->w'.heap[k]?=w.heap[k]?:=λk hk=>hc.block k hk id;refine ⟨h.n,h.slots,h.grds,?_,h.inj,λb B8=>a1b (h.lt b B8) hc.size,h.defers,h.chg.trans hc (λi hi=>hi.elim),?_,h.rowsD,?_,h.fix⟩
 ·intro b blk hl;obtain ⟨h1,h2,h3,h4⟩:=h.heap b blk hl;exact ⟨h1,(hb _ (h.lt b h1)).trans h2,h3,h4⟩
 ·intro r R hR;obtain ⟨h0,h1,h2⟩:=h.rows r R hR;refine ⟨h0,h1.congr (λk hk=>hb k (h2 k hk).1),λk hk=>?_⟩;obtain ⟨k1,k2,k3⟩:=h2 k hk;exact ⟨a1b k1 hc.size,k2,k3⟩
 ·intro p hp;obtain ⟨h1,h2,h3⟩:=h.pers p hp;have hk:∀ k,p.D k->w'.heap[k]?=w.heap[k]?:=λk hD=>hb k (h3 k hD).1;refine ⟨h2 _ hk,λw2 bY=>h2 w2 (λk hD=>(bY k hD).trans (hk k hD)),λk hD=>?_⟩;obtain ⟨k1,k2,k3⟩:=h3 k hD;exact ⟨a1b k1 hc.size,k2,k3⟩
def u6 (v:Value) (w:World) (e:Ending) (w':World):Prop:=e=.returned v/\Chg (λ_=>False) w w'
theorem V.call (f:FuncId) (xs:List CV) (v:RV) {c c':Cfg} (hc:I4 c=some (none,f,xs)) (bG:∀ args w,(callFunc f args).run C.P w=.ok (.enter f args) w)
  (I9:j5 c c.st v=some c') (hv:v.wf c.st.W) (Cb:∀ g pol b x,v≠.grd g pol b x)
  (h:∀ ρ a w,Sat C ρ c.st a w->Calls C.P f (xs.map (CV.den ρ)).toArray w (u6 (v.den ρ) w)) (k:V C c'):V C c:=by
 refine sk hc bG (fun ρ a w hS=>⟨_,h ρ a w hS,?_⟩);rintro e w' ⟨rfl,N5⟩;exact ⟨ρ,v,c.st,c',rfl,hS.below N5,hv,Cb,I9,k⟩
theorem Hb (g:Nat) (pol b:Bool) (f:FuncId) (xs:List CV) (x:CV) {c c':Cfg} (hc:I4 c=some (some (g,pol,b),f,xs)) (bG:∀ args w,(callFunc f args).run C.P w=.ok (.enter f args) w)
  (I9:j5 c { c.st with gs:=M4 c.st.gs g } (.grd g pol b x)=some c') (hv:x.wf c.st.W)
  (h:b=pol->∀ ρ a w,Sat C ρ c.st a w->Calls C.P f (xs.map (CV.den ρ)).toArray w (u6 (x.den ρ) w)) (k:V C c'):V C c:=by
 intro ρ a w hS;obtain ⟨todo,st⟩:=c;unfold I4 at hc;simp only at hc h hS I9 hv ⊢;split at hc
 ·rename_i ops i l k';split at hc
  ·rename_i o ho;split at hc
   ·rename_i cl f7;split at hc
    ·split at hc<;>cases hc
    ·rename_i g' pol' b' hg;split at hc
     ·rename_i f' caps ys h1 h2;simp only [a0l,a1f] at hc;obtain ⟨⟨rfl,rfl,rfl⟩,rfl,rfl⟩:=hc;obtain ⟨hl,Gz⟩:=mG hS hg;have mu:p5 (M4 st.gs g') g'=true:=(aX _ _ _).2 (.inl rfl);simp only [j5,ho] at I9;split at I9
      ·rename_i s' o9;cases I9;by_cases hbp:b'=pol'
       ·subst hbp;have Nw:E1 st (some (g',b')):=λg2 pol2 e=>by cases e; exact hl
        have hr:=G5 (t:=o.type) hS.toP Nw h1 h2 bG;refine Ok.op_call ho (by rw [Gz]; simp) (by unfold execOp; rw [f7]; exact hr) (h rfl ρ a w hS) (λe w2 hq=>?_);obtain ⟨rfl,N5⟩:=hq;refine ⟨_,rfl,?_⟩;have hd:x.den ρ=(RV.grd g' b' b' x).den ρ:=by simp [RV.den]
        rw [hd];exact k ρ _ _ (((hS.below N5).addG g').put o9 (λ_=>hv) (λg2 pol2 c2 x2 e=>by cases e; exact ⟨mu,hl,eT o9 mu⟩))
       ·refine Ok.op_pass ho (by rw [Gz]; simp [hbp]) ?_;have hd:undef=(RV.grd g' pol' b' x).den ρ:=by simp [RV.den,hbp]
        rw [hd];exact k ρ _ _ ((hS.addG g').put o9 (λe=>absurd e hbp) (λg2 pol2 c2 x2 e=>by cases e; exact ⟨mu,hl,eT o9 mu⟩))
      ·cases I9
     ·cases hc
    ·cases hc
   ·cases hc
  ·cases hc
 ·cases hc
end
end Go.SX
end
section
namespace Go.SX
open Go
def eV (P:Program) (s:St):ResultVar->Option CV
 | .tmp t=>match look s.slots t with
  | some (.v x)=>some x
  | _=>none
 | .cell ad t=>match look s.slots ad with
  | some (.v (.one (.ptr b off)))=>match look s.heap b with
   | some blk=>R9 P t blk.cells off
   | none=>none
  | _=>none
def U8 (P:Program) (s:St):List ResultVar->Option (List CV)
 | []=>some []
 | r::l=>match eV P s r with
  | some x=>match U8 P s l with
   | some xs=>some (x::xs)
   | none=>none
  | none=>none
def kJ (P:Program) (f:FuncId) (s:St):Option RV :=
 match P.funcs[f]? with
 | some fn=>match U8 P s fn.results.toList with
  | some [x]=>some (.v x)
  | some xs=>some (.tup xs)
  | none=>none
 | none=>none
def jd (P:Program) (f:FuncId) (s:St):Option RV :=
 match s.defs with
 | _::_=>none
 | []=>kJ P f s
theorem sm {P:Program} {f:FuncId} {s:St} {v:RV} (h:jd P f s=some v):kJ P f s=some v/\s.defs=[]:=by
 unfold jd at h;split at h
 ·cases h
 ·rename_i e; exact ⟨h,e⟩
def Hc (C:Ctx) (s:St):Option RV :=
 match C.round with
 | none=>jd C.P C.f s
 | some _=>none
theorem Hd {C:Ctx} {s:St} {v:RV} (h:Hc C s=some v):C.round=none/\jd C.P C.f s=some v:=by
 unfold Hc at h;split at h
 ·rename_i e; exact ⟨e,h⟩
 ·cases h
def ew (todo:List Item):Bool :=
 match todo with
 | []=>true
 | .code .ret::_=>true
 | _=>false
section
variable {C:Ctx} {ρ:Nat->Nat} {s:St} {a:Act} {w:World}
def je (tmps:Array Value):ResultVar->Sem Value
 | .tmp t=>pure (tmps.getD t undef)
 | .cell ad t=>do loadVar t (<- asAddr (tmps.getD ad undef))
theorem wT (fn:Func) (tmps:Array Value):results fn tmps=(do
  let vs <- fn.results.mapM (je tmps)
  pure (if h:vs.size=1 then vs[0] else .tuple vs)):=by
 unfold results;congr
theorem sn (h:Sat C ρ s a w) {r:ResultVar} {x:CV} (hr:eV C.P s r=some x):(je a.tmps r).run C.P w=.ok (x.den ρ) w:=by
 cases r with
 | tmp t =>
  simp only [eV] at hr;split at hr
  ·rename_i y hl;cases hr;have:=(h.slots t _ hl).1;simp only [je,a2i,Array.getD_eq_getD_getElem?,this];rfl
  ·cases hr
 | cell ad t =>
  simp only [eV] at hr;split at hr
  ·rename_i b off hl;split at hr
   ·rename_i blk hb;obtain ⟨h1,h2,h3,h4⟩:=h.heap b blk hb;obtain ⟨l1,l2⟩:=U6 (ρ:=ρ) (w:=w) hr s.W h3 h2;have:=(h.slots ad _ hl).1;simp only [je,a1n,Array.getD_eq_getD_getElem?,this,a1e];simp only [RV.den,CV.den,SV.den,asAddr,a2i,Result.andThen_ok];exact l1
   ·cases hr
  ·cases hr
theorem cc (h:Sat C ρ s a w):∀ {l:List ResultVar} {xs:List CV},U8 C.P s l=some xs ->
  (l.mapM (je a.tmps)).run C.P w=.ok (xs.map (CV.den ρ)) w
 | [],xs,hr=>by
  simp only [U8,a0l] at hr;subst hr;simp
 | r::l,xs,hr=>by
  simp only [U8] at hr;split at hr
  ·rename_i x hx;split at hr
   ·rename_i ys qr;cases hr;have h1:=sn h hx;have h2:=cc h qr;simp only [List.mapM_cons,a1n,h1,Result.andThen_ok,h2,a2i,a3h]
   ·cases hr
  ·cases hr
theorem uy (h:Sat C ρ s a w) {v:RV} (hr:kJ C.P C.f s=some v) :
  ∃ fn,C.P.funcs[C.f]?=some fn/\(results fn a.tmps).run C.P w=.ok (v.den ρ) w:=by
 unfold kJ at hr;split at hr
 ·rename_i fn qe;refine ⟨fn,qe,?_⟩;rw [wT,Array.mapM_eq_mapM_toList];split at hr
  ·rename_i x hx;cases hr;have h1:=cc h hx;simp only [a1n,Sem.run_map,h1,Result.andThen_ok];rfl
  ·rename_i xs E0 hx;cases hr;have h1:=cc h hx;simp only [a1n,Sem.run_map,h1,Result.andThen_ok,a2i];have:¬ (xs.map (CV.den ρ)).toArray.size=1:=by
    intro e;simp only [a6a,a1k] at e
    match xs,e with
    | [y],_=>exact E0 y rfl
   rw [dif_neg this];rfl
  ·cases hr
 ·cases hr
theorem V.ret (v:RV) {c:Cfg} (hr:Hc C c.st=some v) (he:ew c.todo=true)
  (h:∀ ρ a w,Sat C ρ c.st a w->C.R (.returned (v.den ρ)) w):V C c:=by
 intro ρ a w hS b hb hk qu cs _;obtain ⟨GB,hr⟩:=Hd hr;obtain ⟨Ch,hd⟩:=sm hr;obtain ⟨fn,qe,iT⟩:=uy hS Ch;have GC:b.roundOf=none:=qu.trans GB;have Qp:a.defers=[]:=hS.defers.trans hd;obtain ⟨todo,st⟩:=c;simp only at he;unfold ew at he;split at he
 ·exact ⟨_,w,h ρ a w hS,by unfold Fin; rw [GB]; exact ⟨_,.one (stepR_end GC),hb,rfl,Qp,hk,fn,by show C.P.funcs[b.fn]?=some fn; rw [hb]; exact qe,iT⟩⟩
 ·exact ⟨_,w,h ρ a w hS,by unfold Fin; rw [GB]; exact ⟨_,.one (stepR_ret GC),hb,rfl,Qp,hk,fn,by show C.P.funcs[b.fn]?=some fn; rw [hb]; exact qe,iT⟩⟩
 ·cases he
def iter (c:Cfg):Cfg :=
 match c.todo with
 | .inLoop b::k=>⟨.code b::.inLoop b::k,c.st⟩
 | .code (.loop b)::k=>⟨.code b::.inLoop b::k,c.st⟩
 | _=>c
theorem V.iter {c:Cfg} (h:V C (iter c)):V C c:=by
 obtain ⟨todo,st⟩:=c;unfold SX.iter at h;split at h
 ·rename_i e; simp only at e; subst e; exact V.of_step h (λ_ _ _ _=>stepR_inLoop) rfl
 ·rename_i e; simp only at e; subst e; exact V.of_step h (λ_ _ _ _=>stepR_loop) rfl
 ·exact h
theorem mH (c:Cfg):(iter c).st=c.st:=by
 unfold iter; split<;>rfl
def idx:List Nat->Nat->Nat->Option Nat
 | [],_,_=>none
 | h::l,b,i=>match a1m h b with
  | true=>some i
  | false=>idx l b (i+1)
def Cu (hs:List Nat):List Nat->Option (List Nat)
 | []=>some []
 | b::l=>match idx hs b 0 with
  | some i=>match Cu hs l with
   | some is=>some (i::is)
   | none=>none
  | none=>none
def SV.ren (hs rs:List Nat):SV->Option SV
 | .ptr b off=>match idx hs b 0 with
  | some i=>some (.ptr i off)
  | none=>none
 | .fn f cap=>match Cu hs cap with
  | some is=>some (.fn f is)
  | none=>none
 | .sli b n cap=>match idx hs b 0 with
  | some i=>some (.sli i n cap)
  | none=>none
 | .row r q n cap=>match idx rs r 0 with
  | some i=>some (.row i q n cap)
  | none=>none
 | .el r q size i j=>match idx rs r 0 with
  | some r'=>some (.el r' q size i j)
  | none=>none
 | x=>some x
def wU (hs rs:List Nat):List SV->Option (List SV)
 | []=>some []
 | x::l=>match x.ren hs rs with
  | some y=>match wU hs rs l with
   | some ys=>some (y::ys)
   | none=>none
  | none=>none
def CV.ren (hs rs:List Nat):CV->Option CV
 | .one x=>match x.ren hs rs with
  | some y=>some (.one y)
  | none=>none
 | .agg xs=>match wU hs rs xs with
  | some ys=>some (.agg ys)
  | none=>none
def wV (hs rs:List Nat):List CV->Option (List CV)
 | []=>some []
 | x::l=>match x.ren hs rs with
  | some y=>match wV hs rs l with
   | some ys=>some (y::ys)
   | none=>none
  | none=>none
def RV.ren (hs rs:List Nat):RV->Option RV
 | .v x=>match x.ren hs rs with
  | some y=>some (.v y)
  | none=>none
 | .tup xs=>match wV hs rs xs with
  | some ys=>some (.tup ys)
  | none=>none
 | .grd _ _ _ _=>none
def W8 (hs rs:List Nat) (sl:List (Nat×RV)):List Nat->Option (List (Nat×RV))
 | []=>some []
 | k::l=>match look sl k with
  | some v=>match v.ren hs rs with
   | some u=>match W8 hs rs sl l with
    | some r=>some ((k,u)::r)
    | none=>none
   | none=>none
  | none=>none
def H2 (hs rs:List Nat) (hp:List (Nat×Blk)):List Nat->Nat->Option (List (Nat×Blk))
 | [],_=>some []
 | b::l,i=>match look hp b with
  | some blk=>match wU hs rs blk.cells with
   | some cs=>match H2 hs rs hp l (i+1) with
    | some r=>some ((i,⟨cs,blk.elem,blk.rw⟩)::r)
    | none=>none
   | none=>none
  | none=>none
def cv (rows:List (Nat×Row)):List Nat->Nat->Option (List (Nat×Row))
 | [],_=>some []
 | r::l,i=>match look rows r with
  | some R=>match cv rows l (i+1) with
   | some q=>some ((i,R)::q)
   | none=>none
  | none=>none
def lU:List Bool->List m6->List m6
 | true::m,x::l=>x::lU m l
 | false::m,_::l=>lU m l
 | [],_=>[]
 | _::_,[]=>[]
def uz:List Nat->Bool
 | []=>true
 | b::l=>match p5 l b with
  | true=>false
  | false=>uz l
def uA:Nat->List Nat->Nat->Bool
 | 0,_,_=>true
 | n+1,b::l,i=>match a1m b i with
  | true=>uA n l (i+1)
  | false=>false
 | _+1,[],_=>false
def KU (n:Nat) (hs:List Nat):Nat :=
 match uA n hs 0 with
 | true=>n
 | false=>0
theorem kK:∀ {n:Nat} {l:List Nat} {i b:Nat},uA n l i=true->b<n->l[b]?=some (i+b)
 | n+1,c::l,i,b,h,hb=>by
  simp only [uA] at h;split at h
  ·rename_i e;have:=(d6 _ _).1 e;subst this;cases b with
   | zero=>simp
   | succ b =>
    have:=kK h (show b<n by omega);simp only [List.getElem?_cons_succ,this];congr 1;omega
  ·cases h
 | _+1,[],_,_,h,_=>by cases h
 | 0,_,_,b,_,hb=>absurd hb (a0x b)
theorem AE {n:Nat} {hs:List Nat} {b:Nat} (hb:b<KU n hs):b<n/\hs[b]?=some b:=by
 unfold KU at hb;split at hb
 ·rename_i e;exact ⟨hb,by simpa using kK e hb⟩
 ·exact absurd hb (a0x b)
def o8 (ks hs rs:List Nat) (pm:List Bool) (s:St):Option St :=
 match uz hs,uz rs,W8 hs rs s.slots ks,H2 hs rs s.heap hs 0,cv s.rows rs 0 with
 | true,true,some sl,some hp,some rows=>some { n:=s.n,slots:=sl,gs:=[],heap:=hp,next:=hs.length,rows:=rows,nr:=rs.length,pers:=lU pm s.pers,wr:=s.wr,fx:=KU s.fx hs,defs:=s.defs }
 | _,_,_,_,_=>none
theorem uB:∀ {hs:List Nat} {b i j:Nat},idx hs b i=some j->∃ n,j=i+n/\hs[n]?=some b
 | [],b,i,j,h=>by simp [idx] at h
 | h0::l,b,i,j,h=>by
  simp only [idx] at h;split at h
  ·rename_i e;cases h;exact ⟨0,rfl,by simp [(d6 _ _).1 e]⟩
  ·obtain ⟨n,h1,h2⟩:=uB h;exact ⟨n+1,by omega,by simpa using h2⟩
theorem nH {hs:List Nat} {b j:Nat} (h:idx hs b 0=some j):hs[j]?=some b/\j<hs.length:=by
 obtain ⟨n,h1,h2⟩:=uB h;have:j=n:=by omega
 subst this;exact ⟨h2,(a2l.1 h2).1⟩
theorem yN {hs:List Nat}:∀ {l is:List Nat},Cu hs l=some is->is.map (λi=>hs.getD i 0)=l/\∀ i∈is,i<hs.length
 | [],is,h=>by simp only [Cu,a0l] at h; subst h; simp
 | b::l,is,h=>by
  simp only [Cu] at h;split at h
  ·rename_i i hi;split at h
   ·rename_i js Vi;cases h;obtain ⟨h1,h2⟩:=nH hi;obtain ⟨h3,h4⟩:=yN Vi;refine ⟨by simp only [a3h,h3]; simp [a0r,h1],?_⟩;intro j hj;rcases a0k.1 hj with rfl | hj
    ·exact h2
    ·exact h4 j hj
   ·cases h
  ·cases h
def bL (rs:List Nat) (W W':WF):Prop:=∀ (r' r:Nat) (R:Row),rs[r']?=some r->look W'.rows r'=some R->look W.rows r=some R
section ren
variable {hs rs:List Nat} {W W':WF} (hn:W'.n=hs.length) (hnr:W'.nr=rs.length) (hR:bL rs W W')
include hn hnr hR
theorem SV.ren_ok {x y:SV} (h:x.ren hs rs=some y):y.den (λi=>ρ (hs.getD i 0))=x.den ρ/\(x.wf W->y.wf W'):=by
 cases x with
 | ptr b off =>
  simp only [SV.ren] at h;split at h
  ·rename_i i hi;cases h;obtain ⟨h1,h2⟩:=nH hi;exact ⟨by simp [SV.den,a0r,h1],λ_=>by show i<W'.n; omega⟩
  ·cases h
 | fn f cap =>
  simp only [SV.ren] at h;split at h
  ·rename_i is hi;cases h;obtain ⟨h1,h2⟩:=yN hi;refine ⟨?_,λ_ c hc=>by have:=h2 c hc; omega⟩;simp only [SV.den];congr 2;rw [<- h1,a3q];rfl
  ·cases h
 | sli b n cap =>
  simp only [SV.ren] at h;split at h
  ·rename_i i hi;cases h;obtain ⟨h1,h2⟩:=nH hi;exact ⟨by simp [SV.den,a0r,h1],λ_=>by show i<W'.n; omega⟩
  ·cases h
 | row r q n cap =>
  simp only [SV.ren] at h;split at h
  ·rename_i i hi;cases h;obtain ⟨h1,h2⟩:=nH hi;exact ⟨rfl,λhw=>⟨by omega,λR G8=>hw.2 R (hR i r R h1 G8)⟩⟩
  ·cases h
 | el r q size i j =>
  simp only [SV.ren] at h;split at h
  ·rename_i i hi;cases h;obtain ⟨h1,h2⟩:=nH hi;exact ⟨rfl,λhw=>⟨by omega,λR G8=>hw.2 R (hR i r R h1 G8)⟩⟩
  ·cases h
 | _ =>
  simp only [SV.ren,a0l] at h;subst h;exact ⟨rfl,λ_=>trivial⟩
theorem sq:∀ {l m:List SV},wU hs rs l=some m->m.map (SV.den (λi=>ρ (hs.getD i 0)))=l.map (SV.den ρ)/\((∀ x∈l,x.wf W)->∀ x∈m,x.wf W')
 | [],m,h=>by simp only [wU,a0l] at h; subst h; simp
 | x::l,m,h=>by
  simp only [wU] at h;split at h
  ·rename_i y hy;split at h
   ·rename_i ys qr;cases h;obtain ⟨h1,h2⟩:=SV.ren_ok (ρ:=ρ) hn hnr hR hy;obtain ⟨h3,h4⟩:=sq qr;refine ⟨by simp only [a3h,h1,h3],?_⟩;intro hw j hj;rcases a0k.1 hj with rfl | hj
    ·exact h2 (hw x (a0f ..))
    ·exact h4 (λz hz=>hw z (a0e _ hz)) j hj
   ·cases h
  ·cases h
theorem CV.ren_ok {x y:CV} (h:x.ren hs rs=some y):y.den (λi=>ρ (hs.getD i 0))=x.den ρ/\(x.wf W->y.wf W'):=by
 cases x with
 | one x =>
  simp only [CV.ren] at h;split at h
  ·rename_i z hz; cases h; exact SV.ren_ok hn hnr hR hz
  ·cases h
 | agg xs =>
  simp only [CV.ren] at h;split at h
  ·rename_i z hz;cases h;obtain ⟨h1,h2⟩:=sq (ρ:=ρ) hn hnr hR hz;exact ⟨by simp only [CV.den,h1],h2⟩
  ·cases h
theorem fV:∀ {l m:List CV},wV hs rs l=some m->m.map (CV.den (λi=>ρ (hs.getD i 0)))=l.map (CV.den ρ)/\((∀ x∈l,x.wf W)->∀ x∈m,x.wf W')
 | [],m,h=>by simp only [wV,a0l] at h; subst h; simp
 | x::l,m,h=>by
  simp only [wV] at h;split at h
  ·rename_i y hy;split at h
   ·rename_i ys qr;cases h;obtain ⟨h1,h2⟩:=CV.ren_ok (ρ:=ρ) hn hnr hR hy;obtain ⟨h3,h4⟩:=fV qr;refine ⟨by simp only [a3h,h1,h3],?_⟩;intro hw j hj;rcases a0k.1 hj with rfl | hj
    ·exact h2 (hw x (a0f ..))
    ·exact h4 (λz hz=>hw z (a0e _ hz)) j hj
   ·cases h
  ·cases h
theorem RV.ren_ok {x y:RV} (h:x.ren hs rs=some y):y.den (λi=>ρ (hs.getD i 0))=x.den ρ/\(x.wf W->y.wf W')/\∀ g pol c z,y≠.grd g pol c z:=by
 cases x with
 | v x =>
  simp only [RV.ren] at h;split at h
  ·rename_i z hz;cases h;obtain ⟨h1,h2⟩:=CV.ren_ok (ρ:=ρ) hn hnr hR hz;exact ⟨h1,h2,by simp⟩
  ·cases h
 | tup xs =>
  simp only [RV.ren] at h;split at h
  ·rename_i z hz;cases h;obtain ⟨h1,h2⟩:=fV (ρ:=ρ) hn hnr hR hz;exact ⟨by simp only [RV.den,h1],h2,by simp⟩
  ·cases h
 | grd=>simp [RV.ren] at h
end ren
theorem di {hs rs:List Nat} {sl:List (Nat×RV)}:∀ {ks:List Nat} {r:List (Nat×RV)},W8 hs rs sl ks=some r->∀ i u,look r i=some u->∃ v,look sl i=some v/\v.ren hs rs=some u
 | [],r,h,i,u,hl=>by simp only [W8,a0l] at h; subst h; simp [look] at hl
 | k::ks,r,h,i,u,hl=>by
  simp only [W8] at h;split at h
  ·rename_i v hv;split at h
   ·rename_i x hx;split at h
    ·rename_i r' eQ;cases h;simp only [look] at hl;split at hl
     ·rename_i e;cases hl;have:=(d6 _ _).1 e;subst this;exact ⟨v,hv,hx⟩
     ·exact di eQ i u hl
    ·cases h
   ·cases h
  ·cases h
theorem K9 {hs rs:List Nat} {hp:List (Nat×Blk)}:∀ {l:List Nat} {i0:Nat} {r:List (Nat×Blk)},H2 hs rs hp l i0=some r ->
  ∀ i blk,look r i=some blk->∃ b blk0,i0<=i/\l[i - i0]?=some b/\look hp b=some blk0/\wU hs rs blk0.cells=some blk.cells/\blk.elem=blk0.elem/\blk.rw=blk0.rw
 | [],i0,r,h,i,blk,hl=>by simp only [H2,a0l] at h; subst h; simp [look] at hl
 | b::l,i0,r,h,i,blk,hl=>by
  simp only [H2] at h;split at h
  ·rename_i blk0 hb;split at h
   ·rename_i cs gN;split at h
    ·rename_i r' eQ;cases h;simp only [look] at hl;split at hl
     ·rename_i e;cases hl;have:=(d6 _ _).1 e;subst this;exact ⟨b,blk0,a0q _,by simp,hb,gN,rfl,rfl⟩
     ·obtain ⟨b',blk',h1,h2,h3⟩:=K9 eQ i blk hl;refine ⟨b',blk',by omega,?_,h3⟩;rw [show i - i0=(i - (i0+1))+1 by omega];simpa using h2
    ·cases h
   ·cases h
  ·cases h
theorem p7 {rows:List (Nat×Row)}:∀ {l:List Nat} {i0:Nat} {q:List (Nat×Row)},cv rows l i0=some q ->
  ∀ i R,look q i=some R->∃ r,i0<=i/\l[i - i0]?=some r/\look rows r=some R
 | [],i0,q,h,i,R,hl=>by simp only [cv,a0l] at h; subst h; simp [look] at hl
 | b::l,i0,q,h,i,R,hl=>by
  simp only [cv] at h;split at h
  ·rename_i R0 hb;split at h
   ·rename_i q' lM;cases h;simp only [look] at hl;split at hl
    ·rename_i e;cases hl;have:=(d6 _ _).1 e;subst this;exact ⟨b,a0q _,by simp,hb⟩
    ·obtain ⟨r,h1,h2,h3⟩:=p7 lM i R hl;refine ⟨r,by omega,?_,h3⟩;rw [show i - i0=(i - (i0+1))+1 by omega];simpa using h2
   ·cases h
  ·cases h
theorem nI:∀ {l:List Nat},uz l=true->l.Nodup
 | [],_=>List.nodup_nil
 | b::l,h=>by
  simp only [uz] at h;split at h
  ·cases h
  ·rename_i hn;refine List.nodup_cons.2 ⟨λhm=>?_,nI h⟩;rw [(w9 l b).2 hm] at hn;cases hn
theorem AF {l:List Nat} (h:l.Nodup) {i j x:Nat} (hi:l[i]?=some x) (hj:l[j]?=some x):i=j:=by
 obtain ⟨h1,h2⟩:=a2l.1 hi;obtain ⟨h3,h4⟩:=a2l.1 hj;exact (List.getElem_inj h).1 (h2.trans h4.symm)
theorem aE:∀ (m:List Bool) (l:List m6),∀ p∈lU m l,p∈l
 | true::m,x::l,p,hp=>by
  simp only [lU] at hp;rcases a0k.1 hp with rfl | hp
  ·exact a0f ..
  ·exact a0e _ (aE m l p hp)
 | false::m,x::l,p,hp=>a0e _ (aE m l p hp)
 | [],l,p,hp=>by simp [lU] at hp
 | _::_,[],p,hp=>by simp [lU] at hp
theorem Sat.pick (h:Sat C ρ s a w) {ks hs rs:List Nat} {pm:List Bool} {s':St} (hp:o8 ks hs rs pm s=some s') :
  Sat C (λi=>ρ (hs.getD i 0)) s' a w:=by
 unfold o8 at hp;split at hp
 ·rename_i sl eR rows lQ Nk rT rW r7;cases hp;have QA:∀ b,b∈hs->∃ blk,look s.heap b=some blk:=by
   intro b hb;have:∀ (l:List Nat) (i0:Nat) (r:List (Nat×Blk)),H2 hs rs s.heap l i0=some r->∀ b∈l,∃ blk,look s.heap b=some blk:=by
    intro l
    induction l with
    | nil=>intro i0 r _ b hb; simp at hb
    | cons c l ih =>
     intro i0 r hr b hb;simp only [H2] at hr;split at hr
     ·rename_i blk hc;split at hr
      ·split at hr
       ·rename_i r' eQ;rcases a0k.1 hb with rfl | hb
        ·exact ⟨blk,hc⟩
        ·exact ih _ _ eQ b hb
       ·cases hr
      ·cases hr
     ·cases hr
   exact this hs 0 eR rW b hb
  have kr:∀ i,i<hs.length->hs.getD i 0<s.next:=by
   intro i hi;have hm:hs.getD i 0∈hs:=by simp [a0r,a0b hi]
   obtain ⟨blk,hb⟩:=QA _ hm;exact (h.heap _ blk hb).1
  have yL:bL rs s.W ⟨hs.length,rs.length,rows⟩:=by
   intro r' r R hr hl;obtain ⟨r2,_,h2,h3⟩:=p7 r7 r' R hl;simp only [a3e] at h2;rw [hr] at h2;cases h2;exact h3
  refine ⟨h.n,?_,?_,?_,?_,?_,h.defers,h.chg,?_,?_,?_,λb hb=>?_⟩
  ·intro i u hu;obtain ⟨v,hv,hr⟩:=di rT i u hu;obtain ⟨r1,r2,r3⟩:=RV.ren_ok (ρ:=ρ) (W:=s.W) (W':=⟨hs.length,rs.length,rows⟩) rfl rfl yL hr;exact ⟨by rw [r1]; exact (h.slots i v hv).1,r2 (h.slots i v hv).2⟩
  ·intro i g pol c x hu;obtain ⟨v,hv,hr⟩:=di rT i _ hu;exact absurd rfl ((RV.ren_ok (ρ:=ρ) (W:=s.W) (W':=⟨hs.length,rs.length,rows⟩) rfl rfl yL hr).2.2 g pol c x)
  ·intro i blk hl;obtain ⟨b,blk0,h1,h2,h3,h4,h5,h6⟩:=K9 rW i blk hl;simp only [a3e] at h2;obtain ⟨k1,k2,k3,k4⟩:=h.heap b blk0 h3;obtain ⟨r1,r2⟩:=sq (ρ:=ρ) (W:=s.W) (W':=⟨hs.length,rs.length,rows⟩) rfl rfl yL h4;have hg:hs.getD i 0=b:=by simp [a0r,h2]
   refine ⟨(a2l.1 h2).1,?_,r2 k3,?_⟩
   ·simp only [hg,r1,h5]; exact k2
   ·simp only [hg,h6]; exact k4
  ·intro i j hi hj he;have e:=h.inj _ _ (kr i hi) (kr j hj) he;have ao:i<hs.length:=hi;have JB:j<hs.length:=hj;simp only [a0r,a0b ao,a0b JB,a1e] at e;exact (List.getElem_inj (nI lQ)).1 e
  ·intro i hi; exact h.lt _ (kr i hi)
  ·intro r R hR;obtain ⟨r2,_,h2,h3⟩:=p7 r7 r R hR;simp only [a3e] at h2;obtain ⟨_,h1,h4⟩:=h.rows r2 R h3;exact ⟨(a2l.1 h2).1,h1,λk hk=>⟨(h4 k hk).1,λi hi=>(h4 k hk).2.1 _ (kr i hi),(h4 k hk).2.2⟩⟩
  ·intro r r' R R' hR G8 E0;obtain ⟨r2,_,h2,h3⟩:=p7 r7 r R hR;obtain ⟨r2',_,pS,Va⟩:=p7 r7 r' R' G8;simp only [a3e] at h2 pS;exact h.rowsD r2 r2' R R' h3 Va (λe=>E0 (by subst e; exact AF (nI Nk) h2 pS))
  ·intro p hp;obtain ⟨h1,h2,h3⟩:=h.pers p (aE _ _ p hp);refine ⟨h1,h2,λk hD=>⟨(h3 k hD).1,λi hi=>(h3 k hD).2.1 _ (kr i hi),λr R hR=>?_⟩⟩;obtain ⟨r2,_,_,Va⟩:=p7 r7 r R hR;exact (h3 k hD).2.2 r2 R Va
  ·obtain ⟨f1,f2⟩:=AE hb;refine ⟨(a2l.1 f2).1,?_⟩;have:hs.getD b 0=b:=by simp [a0r,f2]
   rw [this];exact (h.fix b f1).2
 ·cases hp
theorem V.pick (ks hs rs:List Nat) (pm:List Bool) (s':St) {c:Cfg} (hp:o8 ks hs rs pm c.st=some s') (h:V C ⟨c.todo,s'⟩):V C c :=
 λ_ a w hS=>h _ a w (hS.pick hp)
theorem V.loop {ι:Type} {T:List Item} (μ : ι->Nat) (st:ι->St) (pre:ι->Prop)
  (kj:∀ i,pre i->(∀ j,pre j -> μ j < μ i->V C ⟨T,st j⟩)->V C ⟨T,st i⟩) (i:ι) (hi:pre i):V C ⟨T,st i⟩:=by
 have key:∀ n i,μ i=n->pre i->V C ⟨T,st i⟩:=by
  intro n
  induction n using Nat.strongRecOn with
  | _ n ih =>
   intro i hn hp;exact kj i hp (λj hj e9=>ih (μ j) (hn▸e9) j rfl hj)
 exact key _ i rfl hi
theorem uC (ks hs rs:List Nat) (pm:List Bool) {ι:Type} (μ : ι->Nat) (st:ι->St) (pre:ι->Prop) (i:ι) {c:Cfg}
  (hp:o8 ks hs rs pm c.st=some (st i)) (hi:pre i)
  (kj:∀ i,pre i->(∀ j,pre j -> μ j < μ i->V C ⟨(SX.iter c).todo,st j⟩)->V C ⟨(SX.iter c).todo,st i⟩):V C c:=by
 exact V.iter<|V.pick ks hs rs pm (st i) (by rw [mH]; exact hp)<|V.loop μ st pre kj i hi
theorem dj (ks hs rs:List Nat) (pm:List Bool) {T:List Item} {s':St} {c:Cfg} (h:V C ⟨T,s'⟩) (hT:(SX.iter c).todo=T)
  (hp:o8 ks hs rs pm c.st=some s'):V C c:=by
 refine V.iter<|V.pick ks hs rs pm s' (by rw [mH]; exact hp) ?_;rw [hT]; exact h
def wW:List CV->Nat->List (Nat×RV)
 | [],_=>[]
 | x::l,i=>(i,.v x)::wW l (i+1)
theorem K0:∀ (l:List CV) (i j:Nat) (v:RV),look (wW l i) j=some v->∃ x,v=.v x/\i<=j/\l[j - i]?=some x
 | [],i,j,v,h=>by simp [wW,look] at h
 | x::l,i,j,v,h=>by
  simp only [wW,look] at h;split at h
  ·rename_i e;cases h;have:=(d6 _ _).1 e;subst this;exact ⟨x,rfl,a0q _,by simp⟩
  ·obtain ⟨y,h1,h2,h3⟩:=K0 l (i+1) j v h;refine ⟨y,h1,by omega,?_⟩;rw [show j - i=(j - (i+1))+1 by omega];simpa using h3
def st0 (n:Nat) (xs:List CV) (hp:List (Nat×Blk)) (next:Nat) (rows:List (Nat×Row)) (nr:Nat) (pers:List m6) (wr:Bool):St :=
 { n:=n,slots:=wW xs 0,gs:=[],heap:=hp,next:=next,rows:=rows,nr:=nr,pers:=pers,wr:=wr }
def I5 (fn:Func):Code:=fn.body.getD .skip
theorem aZ {P:Program} {f:FuncId} {fn:Func} {R:Ending->World->Prop} {w:World} (S:Nat->Prop) (ρ base:Nat->Nat) (xs:List CV) (s0:St)
  (hf:P.funcs[f]?=some fn) (hb:fn.body.isSome=true) (B0:a5r xs.length fn.ntmps=true)
  (hS:∀ a:Act,a.tmps.size=fn.ntmps->a.defers=[]->(∀ (i:Nat) (x:CV),xs[i]?=some x->a.tmps[i]?=some (x.den ρ))->Sat ⟨P,f,R,S,w,base,none⟩ ρ s0 a w)
  (h:V ⟨P,f,R,S,w,base,none⟩ ⟨[.code (I5 fn)],s0⟩):Calls P f (xs.map (CV.den ρ)).toArray w R:=by
 intro cs;obtain ⟨body,B8⟩:=a2o.1 hb;have Wp:I5 fn=body:=by simp [I5,B8]
 have QV:xs.length<=fn.ntmps:=a0w B0
 let a:Act:={ tmps:=(xs.map (CV.den ρ)).toArray++a4a (fn.ntmps - xs.length) undef,defers:=[] }
 have C8:a.tmps.size=fn.ntmps:=by simp [a]; omega
 have km:∀ (i:Nat) (x:CV),xs[i]?=some x->a.tmps[i]?=some (x.den ρ):=by
  intro i x hx;have hi:=(a2l.1 hx).1;simp only [a];rw [Array.getElem?_append_left (by simpa using hi)];simp [hx]
 have UT:=hS a C8 rfl km
 let b:Frame:={ (default:Frame) with fn:=f,kind:=.normal }
 have cr:Frame.enter P f (xs.map (CV.den ρ)).toArray .normal=b.atR a [.code (I5 fn)]:=by
  simp [Frame.enter,Frame.atR,hf,B8,b,a,Wp];rfl
 rw [cr];obtain ⟨e,w',h1,fr,h2⟩:=h ρ a w UT b rfl rfl rfl cs (λh=>by cases h);exact ⟨e,w',fr,h1,h2⟩
theorem H3 {P:Program} {f:FuncId} {fn:Func} {R:Ending->World->Prop} {w:World} (xs:List CV) (wr:Bool)
  (hf:P.funcs[f]?=some fn) (hb:fn.body.isSome=true) (B0:a5r xs.length fn.ntmps=true) (hw:∀ x∈xs,x.wf ⟨0,0,[]⟩)
  (h:V ⟨P,f,R,λ_=>False,w,λ_=>0,none⟩ ⟨[.code (I5 fn)],st0 fn.ntmps xs [] 0 [] 0 [] wr⟩):Calls P f (xs.map (CV.den (λ_=>0))).toArray w R:=by
 refine aZ (λ_=>False) (λ_=>0) (λ_=>0) xs (st0 fn.ntmps xs [] 0 [] 0 [] wr) hf hb B0 (λa h1 h2 h3=>?_) h;refine ⟨h1,?_,?_,?_,?_,?_,h2,Chg.refl _ _,?_,?_,?_,λb hb=>absurd hb (a0x b)⟩
 ·intro i v hv;obtain ⟨x,rfl,_,hx⟩:=K0 xs 0 i v hv;exact ⟨h3 i x (by simpa using hx),hw x (a0v hx)⟩
 ·intro i g pol c x hv;obtain ⟨y,e,_⟩:=K0 xs 0 i _ hv;cases e
 ·intro b blk hb; simp [st0,look] at hb
 ·intro b c hb; exact absurd hb (a0x _)
 ·intro b hb; exact absurd hb (a0x _)
 ·intro r R hr; simp [st0,look] at hr
 ·intro r r' R R' hr; simp [st0,look] at hr
 ·intro p hp; simp [st0] at hp
end
end Go.SX
end
section
namespace Go.SX
open Go
def dk (P:Program) (ops:Array Oper) (Q:Exit->Act->World->Prop) (S:World->Prop) (L:Nat):Nat->Array Bool->Act->World->Prop
 | 0,listed,a,w=>Region.ready .any ops listed=[]/\Q .normal a w
 | fuel+1,listed,a,w =>
  (Region.ready .any ops listed=[]->Q .normal a w) /\
  ∀ i∈Region.ready .any ops listed,wpOp P ops Q i (λa' w'=>(i≠L->S w')/\dk P ops Q S L fuel (listed.setIfInBounds i true) a' w') a w
theorem nJ {P:Program} {ops:Array Oper} {Q:Exit->Act->World->Prop} {S:World->Prop} {L:Nat}:∀ (fuel:Nat) (listed:Array Bool) (a:Act) (w:World),dk P ops Q S L fuel listed a w->wpAny P .any ops Q fuel listed a w
 | 0,_,_,_,h=>h
 | fuel+1,_,_,_,h=>⟨h.1,λi hi=>wpOp_mono (λa' w' h'=>nJ fuel _ a' w' h'.2) (h.2 i hi)⟩
def ba (ops:Array Oper) (listed:Array Bool):Prop :=
 ∀ k o,ops[k]?=some o->listed.getD k true=true->∀ e∈o.after,Region.binds .any e=true->listed.getD e.on false=true
def W9 (ops:Array Oper) (L:Nat):Prop:=∀ listed,listed.size=ops.size->ba ops listed->L∈Region.ready .any ops listed->∀ k,k<ops.size->k≠L->listed.getD k true=true
theorem ba.set {ops:Array Oper} {listed:Array Bool} {i:Nat} (h:ba ops listed) (hi:i∈Region.ready .any ops listed):ba ops (listed.setIfInBounds i true):=by
 intro k o ho hk e he hb;by_cases QQ:i=k
 ·subst QQ;obtain ⟨_,o',ky,q7⟩:=mem_ready.1 hi;rw [ho] at ky;cases ky;exact getD_set_true (q7 e he hb)
 ·rw [getD_set_ne true QQ] at hk;exact getD_set_true (h k o ho hk e he hb)
theorem ba.start (ops:Array Oper):ba ops (a4a ops.size false):=by
 intro k o ho hk;have e9:k<ops.size:=by
  rcases Nat.lt_or_ge k ops.size with h | h
  ·exact h
  ·rw [a4u h] at ho; cases ho
 simp [e9] at hk
def AG (ops:Array Oper) (k:Nat):List Nat :=
 match ops[k]? with
 | some o=>(o.after.toList.filter (Region.binds .any)).map (·.on)
 | none=>[]
def nK:List Nat->List Nat->List Nat
 | [],l=>l
 | k::m,l=>match p5 l k with
  | true=>nK m l
  | false=>nK m (k::l)
def Cv (ops:Array Oper):Nat->List Nat->List Nat
 | 0,l=>l
 | n+1,l=>Cv ops n (nK (l.flatMap (AG ops)) l)
def jf (ops:Array Oper) (L:Nat):Bool :=
 match Cv ops ops.size (AG ops L) with
 | l=>(a2f ops.size).all λk=>a1m k L||p5 l k
theorem im:∀ {m l:List Nat} {k:Nat},k∈nK m l->k∈m∨k∈l
 | [],_,_,h=>.inr h
 | j::m,l,k,h=>by
  simp only [nK] at h;split at h
  ·rcases im h with h | h
   ·exact .inl (a0e _ h)
   ·exact .inr h
  ·rcases im h with h | h
   ·exact .inl (a0e _ h)
   ·rcases a0k.1 h with rfl | h
    ·exact .inl (a0f ..)
    ·exact .inr h
theorem uD {ops:Array Oper} {listed:Array Bool} (hs:listed.size=ops.size) (hc:ba ops listed) {k j:Nat} (hk:listed.getD k false=true) (hj:j∈AG ops k):listed.getD j false=true:=by
 unfold AG at hj;split at hj
 ·rename_i o ho;obtain ⟨e,he,rfl⟩:=a1d.1 hj;obtain ⟨h1,h2⟩:=List.mem_filter.1 he;have e9:k<ops.size:=by
   rcases Nat.lt_or_ge k ops.size with h | h
   ·exact h
   ·rw [a4u h] at ho; cases ho
  refine hc k o ho ?_ e (by simpa using h1) h2;have uj:k<listed.size:=by omega
  simp [uj] at hk ⊢;exact hk
 ·cases hj
theorem jg {ops:Array Oper} {listed:Array Bool} (hs:listed.size=ops.size) (hc:ba ops listed):∀ (n:Nat) {l:List Nat},(∀ k∈l,listed.getD k false=true)->∀ k∈Cv ops n l,listed.getD k false=true
 | 0,_,h=>h
 | n+1,l,h=>by
  refine jg hs hc n (λk hk=>?_);rcases im hk with hk | hk
  ·obtain ⟨j,hj,Wq⟩:=List.mem_flatMap.1 hk;exact uD hs hc (h j hj) Wq
  ·exact h k hk
theorem eW {ops:Array Oper} {L:Nat} (h:jf ops L=true):W9 ops L:=by
 intro listed hs hc hL k hk WG;obtain ⟨_,o,ho,q7⟩:=mem_ready.1 hL;have h0:∀ j∈AG ops L,listed.getD j false=true:=by
  intro j hj;unfold AG at hj;rw [ho] at hj;obtain ⟨e,he,rfl⟩:=a1d.1 hj;obtain ⟨h1,h2⟩:=List.mem_filter.1 he;exact q7 e (by simpa using h1) h2
 have h1:=jg hs hc ops.size h0;unfold jf at h;have h2:=a0y.1 h k (a3f.2 hk);rw [Bool.or_eq_true] at h2;rcases h2 with h2 | h2
 ·exact absurd ((d6 _ _).1 h2) WG
 ·have:=h1 k ((w9 _ _).1 h2);have e9:k<listed.size:=by omega
  simp [e9] at this ⊢;exact this
theorem sr {P:Program} {ops:Array Oper} {Q:Exit->Act->World->Prop} {S:World->Prop} {L:Nat} (hL:W9 ops L∨ops.size<=L) {i:Nat} {oi:Oper} {v:Value} (hi:ops[i]?=some oi) (D4:∀ (j:Nat) (o:Oper) cs b,ops[j]?=some o->o.op≠.select cs b)
  (hQ:∀ c a w,Q (.panic c) (a.put oi.dst v) w->Q (.panic c) a w) :
  ∀ (fuel:Nat) (listed:Array Bool) (a:Act) (w:World),listed.size=ops.size->ba ops listed ->
   (∀ j oj,ops[j]?=some oj->j≠i->listed.getD j true=false->(∀ e∈oj.after,Region.binds .any e=true->e.on≠i)->oi.apart ops oj=true) ->
   i∈Region.ready .any ops listed->YieldsIf P ops S oi v a->S w ->
   dk P ops Q S L fuel (listed.setIfInBounds i true) (a.put oi.dst v) w->dk P ops Q S L (fuel+1) listed a w:=by
 intro fuel
 induction fuel with
 | zero =>
  intro listed a w _ _ _ hr hy hS H;refine ⟨λh=>(by rw [h] at hr; cases hr),λj hj=>?_⟩;by_cases hji:j=i
  ·subst hji; exact hy.wpOp hi hS ⟨λ_=>hS,H⟩
  ·have:=ready_mono hj hji;rw [H.1] at this;cases this
 | succ fuel ih =>
  intro listed a w C8 U4 KL hr hy hS H;refine ⟨λh=>(by rw [h] at hr; cases hr),λj hj=>?_⟩;by_cases hji:j=i
  ·subst hji; exact hy.wpOp hi hS ⟨λ_=>hS,H⟩
  ·have h1:=H.2 j (ready_mono hj hji);obtain ⟨QM,oj,Rf,q7⟩:=mem_ready.1 hj;have Wr:j<ops.size:=by
    rcases Nat.lt_or_ge j ops.size with h | h
    ·exact h
    ·rw [a4u h] at Rf; cases Rf
   have Vb:i<ops.size:=by
    rcases Nat.lt_or_ge i ops.size with h | h
    ·exact h
    ·rw [a4u h] at hi; cases hi
   have WZ:j≠L:=by
    intro e;rcases hL with hL | hL
    ·have h0:=(mem_ready.1 hr).1;rw [hL listed C8 U4 (e▸hj) i Vb (λe'=>hji (e.trans e'.symm))] at h0;cases h0
    ·omega
   have Vx:∀ e∈oj.after,Region.binds .any e=true->e.on≠i:=λe he hb wz=>by
    have h1:=q7 e he hb;have h0:=(mem_ready.1 hr).1;rw [wz] at h1;rcases Nat.lt_or_ge i listed.size with h' | h'
    ·simp [h'] at h0 h1; rw [h0] at h1; cases h1
    ·simp [a4u h'] at h1
   have h2:=wpOp_putIf Rf (KL j oj Rf hji QM Vx) (λcs b=>D4 i oi cs b hi) (λcs b=>D4 j oj cs b Rf) hQ hy h1;have Ny:∀ k ok,ops[k]?=some ok->k≠i->(listed.setIfInBounds j true).getD k true=false ->
     (∀ e∈ok.after,Region.binds .any e=true->e.on≠i)->oi.apart ops ok=true:=λk ok hk QQ VW J8=>by
    refine KL k ok hk QQ ?_ J8;by_cases hjk:j=k
    ·subst hjk; exact QM
    ·rw [getD_set_ne true hjk] at VW; exact VW
   refine wpOp_mono (λa' w' h3=>?_) h2;have VM:=h3.2.1 WZ;refine ⟨λ_=>VM,ih (listed.setIfInBounds j true) a' w' (by simpa using C8) (U4.set hj) Ny (ready_mono hr (Ne.symm hji)) h3.1 VM ?_⟩;rw [Array.setIfInBounds_comm _ _ hji];exact h3.2.2
theorem E2 {P:Program} {ops:Array Oper} {Q:Exit->Act->World->Prop} {S:World->Prop} {L:Nat} {rs:List Nat} {fuel:Nat} {listed:Array Bool} {a:Act} {w:World} (hr:Region.ready .any ops listed=rs) (E0:rs≠[])
  (h:∀ i∈rs,wpOp P ops Q i (λa' w'=>(i≠L->S w')/\dk P ops Q S L fuel (listed.setIfInBounds i true) a' w') a w):dk P ops Q S L (fuel+1) listed a w :=
 ⟨λh0=>absurd (hr▸h0) E0,hr▸h⟩
theorem eX {P:Program} {ops:Array Oper} {Q:Exit->Act->World->Prop} {S:World->Prop} {L:Nat} {listed:Array Bool} {a:Act} {w:World} (hr:Region.ready .any ops listed=[]) (h:Q .normal a w) :
  ∀ fuel,dk P ops Q S L fuel listed a w
 | 0=>⟨hr,h⟩
 | _+1=>⟨λ_=>h,by rw [hr]; simp⟩
def Y8 (P:Program) (ops:Array Oper) (h0:List (Nat×Blk)) (r0:List (Nat×Row)) (o:Oper) (s:St):Option (St×List Prop) :=
 match L7 s ops o.guard with
 | .yes=>match kC P { s with heap:=h0,rows:=r0 } none o.op with
  | some (v,ob)=>match s.put o.dst v with
   | some s'=>some (s',ob)
   | none=>none
  | none=>none
 | .no=>match s.put o.dst (.v (.one (.val undef))) with
  | some s'=>some (s',[])
  | none=>none
 | .ask g pol c=>match kC P { s with heap:=h0,rows:=r0 } (some (g,pol)) o.op with
  | some (.v x,ob)=>match ({ s with gs:=M4 s.gs g }:St).put o.dst (.grd g pol c x) with
   | some s'=>some (s',ii c pol ob)
   | none=>none
  | _=>none
 | .bad=>none
def nL (P:Program) (ops:Array Oper) (h0:List (Nat×Blk)) (r0:List (Nat×Row)) (listed:Array Bool) (s:St):List Nat->Option (Nat×St×List Prop)
 | []=>none
 | i::l=>match ops[i]? with
  | none=>nL P ops h0 r0 listed s l
  | some o=>match Region.free .any ops listed i with
   | false=>nL P ops h0 r0 listed s l
   | true=>match Y8 P ops h0 r0 o s with
    | some (s',ob)=>some (i,s',ob)
    | none=>nL P ops h0 r0 listed s l
structure u7 where
 fuel:Nat
 listed:Array Bool
 st:St
structure gP where
 ws:World
 TS:Nat->Prop
 ρ0:Nat->Nat
 n0:Nat
 h0:List (Nat×Blk)
 nr0:Nat
 r0:List (Nat×Row)
 w0:List (Nat×Row)
 L:Nat
def gP.W (D:gP):WF:=⟨D.n0,D.nr0,D.w0⟩
structure gP.ok (D:gP):Prop where
 blk:∀ b blk,look D.h0 b=some blk->b<D.n0/\D.ρ0 b<D.ws.heap.size/\¬ D.TS (D.ρ0 b) /\
  D.ws.heap[D.ρ0 b]?=some (.cells (blk.cells.map (SV.den D.ρ0)).toArray blk.elem (0,0))/\(∀ x∈blk.cells,x.wf D.W)
 row:∀ r R,look D.r0 r=some R->R.ok D.ws/\∀ k,R.uses k->k<D.ws.heap.size/\¬ D.TS k
def gP.rows (D:gP) (s:St):Prop:=(∀ r R,look D.r0 r=some R->look s.rows r=some R)/\D.W.le s.W
def Qd (C:Ctx) (k:List Item):Exit->Act->World->Prop
 | .normal,a,w=>Ok C k a w
 | _,_,_=>False
def VD (C:Ctx) (D:gP) (ops:Array Oper) (k:List Item) (d:u7):Prop :=
 ∀ ρ a w,Sat C ρ d.st a w->(∀ b,b<D.n0->ρ b=D.ρ0 b)->D.n0<=d.st.next->Chg D.TS D.ws w->ba ops d.listed->d.listed.size=ops.size->dk C.P ops (Qd C k) (Chg D.TS D.ws) D.L d.fuel d.listed a w
section
variable {C:Ctx} {D:gP} {ops:Array Oper} {k:List Item}
theorem Cw {C:Ctx} {k:List Item} {d:Option Tmp} {v:Value}:∀ c a w,Qd C k (.panic c) (a.put d v) w->Qd C k (.panic c) a w:=λ_ _ _ h=>h
theorem nM {o:Oper} {s s':St} {ob:List Prop} {ρ:Nat->Nat} {a:Act} {w:World} (hD:D.ok) 
  (F9:Y8 C.P ops D.h0 D.r0 o s=some (s',ob)) (q8:∀ p∈ob,p) (h:Sat C ρ s a w) (hρ:∀ b,b<D.n0->ρ b=D.ρ0 b) (_hn:D.n0<=s.next) (A9:D.rows s) :
  ∃ v,YieldsIf C.P ops (Chg D.TS D.ws) o v a/\Sat C ρ s' (a.put o.dst v) w/\s'.W=s.W:=by
 have B0:=A9.2;have hP:∀ w2,Chg D.TS D.ws w2->kD ρ { s with heap:=D.h0,rows:=D.r0 } s.W a w2:=λw2 hc =>
  ⟨h.slots,h.grds,λb blk hb=>by
   obtain ⟨h1,h2,h3,h4,h5⟩:=hD.blk b blk hb;refine ⟨?_,λx hx=>SV.wf_mono B0 x (h5 x hx)⟩;rw [hρ b h1,x8 (W:=D.W) hρ _ h5];exact (hc.block _ h2 h3).trans h4,
    λr R hR=>by
   obtain ⟨h1,h2⟩:=hD.row r R hR;exact ⟨h1.congr (λk hk=>hc.block k (h2 k hk).1 (h2 k hk).2),A9.1 r R hR⟩⟩
 unfold Y8 at F9;split at F9
 ·rename_i hg;have hw:=D5 h hg;split at F9
  ·rename_i v ob' f7;split at F9
   ·rename_i s1 o9;cases F9;have key:∀ w2,Chg D.TS D.ws w2->(execOp a.eval o).run C.P w2=.ok (.value (v.den ρ)) w2/\v.wf s.W/\∀ g pol c x,v≠.grd g pol c x :=
     λw2 hc=>ap (hP w2 hc) (j9 _) o f7 q8
    refine ⟨v.den ρ,.inl ⟨hw,λw2 hc=>(key w2 hc).1⟩,?_,N8 o9⟩;obtain ⟨_,k2,k3⟩:=key D.ws (Chg.refl _ _);exact h.put o9 k2 (λg pol c x e=>absurd e (k3 g pol c x))
   ·cases F9
  ·cases F9
 ·rename_i hg;split at F9
  ·rename_i s1 o9;cases F9;exact ⟨undef,.inr ⟨Ct h hg,rfl⟩,h.put (v:=.v (.one (.val undef))) o9 trivial (λg pol c x e=>by cases e),N8 o9⟩
  ·cases F9
 ·rename_i g pol c hg;obtain ⟨hl,Gz⟩:=mG h hg;split at F9
  ·rename_i x ob' f7;split at F9
   ·rename_i s1 o9;cases F9;have h2:=h.addG g;have mu:p5 (M4 s.gs g) g=true:=(aX _ _ _).2 (.inl rfl);by_cases hc:c=pol
    ·subst hc;have Nw:E1 { s with heap:=D.h0,rows:=D.r0 } (some (g,c)):=λg' pol' e=>by cases e; exact hl
     have key:∀ w2,Chg D.TS D.ws w2->(execOp a.eval o).run C.P w2=.ok (.value ((RV.v x).den ρ)) w2/\(RV.v x).wf s.W/\∀ g pol c x',RV.v x≠.grd g pol c x' :=
      λw2 hc=>ap (hP w2 hc) Nw o f7 (aW q8 rfl)
     have hd:(RV.v x).den ρ=(RV.grd g c c x).den ρ:=by simp [RV.den]
     refine ⟨(RV.v x).den ρ,.inl ⟨by rw [Gz]; simp,λw2 hc=>(key w2 hc).1⟩,?_,by rw [N8 o9]; rfl⟩;rw [hd];exact h2.put o9 (λ_=>(key D.ws (Chg.refl _ _)).2.1) (λg' pol' c' x' e=>by cases e; exact ⟨mu,hl,eT o9 mu⟩)
    ·have hd:undef=(RV.grd g pol c x).den ρ:=by simp [RV.den,hc]
     refine ⟨undef,.inr ⟨by rw [Gz]; simp [hc],rfl⟩,?_,by rw [N8 o9]; rfl⟩;rw [hd];exact h2.put o9 (λe=>absurd e hc) (λg' pol' c' x' e=>by cases e; exact ⟨mu,hl,eT o9 mu⟩)
   ·cases F9
  ·cases F9
 ·cases F9
theorem X0 {h0:List (Nat×Blk)} {r0:List (Nat×Row)} {listed:Array Bool} {s s':St} {i:Nat} {ob:List Prop} {P:Program}:∀ {l:List Nat},nL P ops h0 r0 listed s l=some (i,s',ob) ->
  i∈l/\∃ o,ops[i]?=some o/\Region.free .any ops listed i=true/\Y8 P ops h0 r0 o s=some (s',ob)
 | [],h=>by simp [nL] at h
 | j::l,h=>by
  simp only [nL] at h;split at h
  ·obtain ⟨h1,h2⟩:=X0 h; exact ⟨a0e _ h1,h2⟩
  ·rename_i o ho;split at h
   ·obtain ⟨h1,h2⟩:=X0 h; exact ⟨a0e _ h1,h2⟩
   ·rename_i hf;split at h
    ·rename_i s1 ob1 hs;cases h;exact ⟨a0f ..,o,ho,hf,hs⟩
    ·obtain ⟨h1,h2⟩:=X0 h; exact ⟨a0e _ h1,h2⟩
theorem VD.done {d:u7} (hr:(Region.ready .any ops d.listed).isEmpty=true) (h:V C ⟨k,d.st⟩):VD C D ops k d :=
 fun ρ a w hS _ _ _ _ _=>eX (by simpa using hr) (h ρ a w hS) d.fuel
def ss (ops:Array Oper):Bool:=ops.toList.all λo=>match o.op with
 | .defer _=>false
 | _=>true
theorem nN {ops:Array Oper} (h:ss ops=true) {i:Nat} {o:Oper} (ho:ops[i]?=some o):∀ c,o.op≠.defer c:=by
 intro c hc;have:=a0y.1 h o (Array.mem_toList_iff.2 (Array.mem_of_getElem? ho));rw [hc] at this;cases this
theorem Ok.of_ops (lQ:ss ops=true):∀ (l:List Nat) (a:Act) (w:World),wpOps C.P ops (Qd C k) l a w->Ok C (.inRegion ops l::k) a w
 | [],a,w,h=>Ok.of_step (λb cs _ _=>stepR_region_end) (show Ok C k a w from h)
 | i::l,a,w,h=>by
  simp only [wpOps] at h;cases ho:ops[i]? with
  | none =>
   rw [ho] at h;have h':=Ok.of_ops lQ l a w h;refine Ok.of_step (λb cs _ _=>?_) h';have hs:=stepR_op_skip (P:=C.P) (b:=b) (a:=a) (k:=k) (cs:=cs) (w:=w) (ops:=ops) (i:=i) (rest:=l) (by simp [ho]);simpa [ho,Act.put] using hs
  | some o =>
   rw [ho] at h;simp only at h;split at h
   ·rename_i hw;have hq:¬ LetsOut (Qd C k):=by rintro ⟨a,w,h⟩; exact h
    rcases h with h | h
    ·unfold Oper.wp at h;cases hr:(execOp a.eval o).run C.P w with
     | ok n w1 =>
      rw [hr] at h;cases n with
      | value v=>exact Ok.op_value ho hw hr (Ok.of_ops lQ l _ _ h)
      | skip=>exact Ok.op_skip ho hw hr (Ok.of_ops lQ l _ _ h)
      | enter f args =>
       refine Ok.op_call ho hw hr h (λe w2 he=>?_);cases e with
       | returned v=>exact ⟨v,rfl,Ok.of_ops lQ l _ _ he⟩
       | panicked ch=>exact he.elim
       | outgrown=>exact absurd he hq
      | row r args =>
       intro b hb hk qu cs gN;obtain ⟨v,w2,hv,F9⟩:=h (b.atR a (.inRegion ops (i::l)::k)) cs;have hg:=stepGR_op (P:=C.P) (b:=b) (k:=k) (cs:=cs) (w:=w) (rest:=l) ho hw;rw [Oper.semAt_eq _ _ _ (nN lQ ho)] at hg;have cr:Go.step C.P (lone (b.atR a (.inRegion ops (i::l)::k)) cs w)=.next (lone (Frame.ofRow C.P r args .normal) (b.atR a (.inRegion ops (i::l)::k)::cs) w1) :=
        step_lone_go (by rw [hg]; simp [stepG.apply,hr,Frame.atR])
       have M7:(b.atR a (.inRegion ops (i::l)::k)).finish v=b.atR (a.put o.dst v) (.inRegion ops l::k):=by rw [Frame.finish_atR,ho]; rfl
       obtain ⟨e,w3,h1,h2⟩:=Ok.of_ops lQ l _ _ hv b hb hk qu cs gN;rw [M7] at F9;exact ⟨e,w3,h1,h2.of_steps (.head cr F9)⟩
      | defer d =>
       refine Ok.of_step (λb cs _ _=>?_) (Ok.of_ops lQ l _ _ h);have hg:=stepGR_op (P:=C.P) (b:=b) (k:=k) (cs:=cs) (w:=w) (rest:=l) ho hw;rw [Oper.semAt_eq _ _ _ (nN lQ ho)] at hg;have M7:({ b.atR a (.inRegion ops (i::l)::k) with defers:=d::a.defers }:Frame).finish undef=b.atR ({ a with defers:=d::a.defers }.put o.dst undef) (.inRegion ops l::k):=by
        have:=Frame.finish_atR b { a with defers:=d::a.defers } ops i l k undef;rw [ho] at this;exact this
       exact step_lone_go (by rw [hg,<- M7]; simp [stepG.apply,hr,Frame.atR])
      | _=>exact h.elim
     | halt x w1 =>
      rw [hr] at h;cases x<;>exact h.elim
    ·exact absurd h.2 hq
   ·rename_i hw;exact Ok.op_pass ho (by simpa using hw) (Ok.of_ops lQ l _ _ h)
def I6 {α:Type} (T:List Nat):List (Nat×α)->List (Nat×α)
 | []=>[]
 | (b,blk)::l=>match p5 T b with
  | true=>I6 T l
  | false=>(b,blk)::I6 T l
theorem y5 {α:Type} {T:List Nat}:∀ {l:List (Nat×α)} {b:Nat} {blk:α},look (I6 T l) b=some blk->b ∉ T/\look l b=some blk
 | [],b,blk,h=>by simp [I6,look] at h
 | (c,u)::l,b,blk,h=>by
  simp only [I6] at h;split at h
  ·rename_i hT;obtain ⟨h1,h2⟩:=y5 h;refine ⟨h1,?_⟩;simp only [look];cases hb:a1m c b with
   | true=>have:=(d6 _ _).1 hb; subst this; exact absurd ((w9 T c).1 hT) h1
   | false=>exact h2
  ·rename_i hT;simp only [look] at h ⊢;cases hb:a1m c b with
   | true =>
    rw [hb] at h;cases h;have:=(d6 _ _).1 hb;subst this;refine ⟨λhm=>?_,rfl⟩;rw [(w9 T c).2 hm] at hT; cases hT
   | false =>
    rw [hb] at h;exact y5 h
def ce (c:Cfg):Option (Array Oper×List Item) :=
 match c.todo with
 | .code (.region _ ops true)::k=>match ss ops with
  | true=>some (ops,k)
  | false=>none
 | _=>none
theorem nO (T TR:List Nat) (L:Nat) (ops:Array Oper) (k:List Item) {c:Cfg} (hc:ce c=some (ops,k)) (hm:C.P.follows .mixedOrders=true)
  (h:∀ D:gP,D.ok->D.h0=I6 T c.st.heap->D.n0=c.st.next->D.r0=I6 TR c.st.rows->D.L=L->D.nr0=c.st.nr/\D.w0=c.st.rows->D.rows c.st ->
   (∀ b∈T,b<c.st.next->D.TS (D.ρ0 b))->(∀ r∈TR,∀ R,look c.st.rows r=some R->∀ k,R.uses k->D.TS k) ->
   VD C D ops k ⟨ops.size,a4a ops.size false,c.st⟩)
  (hTR:∀ r∈TR,∀ R,look c.st.rows r=some R->R.own=true):V C c:=by
 intro ρ a w hS;obtain ⟨todo,st⟩:=c;unfold ce at hc;simp only at hc h hTR hS ⊢;split at hc
 ·rename_i id ops' k';split at hc
  case h_2=>cases hc
  rename_i lQ;cases hc
  let TS:Nat->Prop:=λi=>(∃ b∈T,b<st.next/\ρ b=i)∨∃ r∈TR,∃ R,look st.rows r=some R/\R.uses i
  let w1:World:={ w with drawn:=w.drawn+1 }
  have key:wpAny C.P .any ops (Qd C k) ops.size (a4a ops.size false) a w1->Ok C (.code (.region id ops true)::k) a w:=λhw=>by
   intro b hb hk qu cs gN;have Vu:Region.schedule (C.P.follows .mixedOrders) ops (w.tape w.drawn (.order b.fn id))=Region.linearise.go .any ops ops.size (w.tape w.drawn (.order b.fn id)) (a4a ops.size false) []:=by
    simp only [Region.schedule,hm,Bool.true_or,if_true]; rfl
   have h1:=Ok.of_ops lQ _ _ _ (wpAny_sound ops.size (w.tape w.drawn (.order b.fn id)) _ a _ hw) b hb hk qu cs gN;obtain ⟨e,w3,h2,h3⟩:=h1;refine ⟨e,w3,h2,h3.of_steps (.one ?_)⟩;rw [<- Vu];exact stepR_region_draw
  refine key (nJ (S:=Chg TS w1) (L:=L) _ _ _ _ ?_);have mB:Sat C ρ st a w1:=hS.below ⟨rfl,rfl,rfl,a0q _,λ_ _ _=>rfl⟩
  let D:gP:=⟨w1,TS,ρ,st.next,I6 T st.heap,st.nr,I6 TR st.rows,st.rows,L⟩
  have hD:D.ok:=by
   refine ⟨λb blk hb=>?_,λr R hR=>?_⟩
   ·obtain ⟨h1,h2⟩:=y5 hb;obtain ⟨k1,k2,k3,k4⟩:=mB.heap b blk h2;refine ⟨k1,mB.lt b k1,?_,k2,k3⟩;rintro (⟨b',B8,e9,he⟩ | ⟨r,hr,R,hR,hu⟩)
    ·exact h1 (mB.inj _ _ e9 k1 he▸B8)
    ·exact ((mB.rows r R hR).2.2 _ hu).2.1 b k1 rfl
   ·obtain ⟨h1,h2⟩:=y5 hR;obtain ⟨k1,k2,k3⟩:=mB.rows r R h2;refine ⟨k2,λk hk=>⟨(k3 k hk).1,?_⟩⟩;rintro (⟨b',B8,e9,he⟩ | ⟨r',eQ,R',G8,hu⟩)
    ·exact (k3 k hk).2.1 b' e9 he
    ·exact mB.rowsD r' r R' R G8 h2 (λe=>h1 (e▸eQ)) (hTR r' eQ R' G8) k hu hk
  exact h D hD rfl rfl rfl rfl ⟨rfl,rfl⟩ ⟨λr R hR=>(y5 hR).2,WF.le.refl _⟩ (λb hb e9=>.inl ⟨b,hb,e9,rfl⟩) (λr hr R hR k hk=>.inr ⟨r,hr,R,hR,hk⟩)
   ρ a w1 mB (λ_ _=>rfl) (a0q _) (Chg.refl _ _) (ba.start ops) (by simp)
 ·cases hc
theorem KV (i:Nat) {o:Oper} {d:u7} {n:Nat} {v:RV} {s1 s':St} (hr:Region.ready .any ops d.listed=[i]) (hf:d.fuel=n+1) (ho:ops[i]?=some o) (hg:L7 d.st ops o.guard=.yes)
  (f7:gW C.P d.st none o.op=some (v,s1)) (F9:s1.put o.dst v=some s')
  (h:VD C D ops k ⟨n,d.listed.setIfInBounds i true,s'⟩):VD C D ops k d:=by
 intro ρ a w hS hρ hn hc U4 C8;have hi:i∈Region.ready .any ops d.listed:=by rw [hr]; simp
 rw [hf];refine E2 hr (by simp) (λj hj=>?_);have:j=i:=by simpa using hj
 subst this;obtain ⟨ρ',w2,e1,e2,e3,e4,e5,e6,e7⟩:=bK hS (j9 d.st) o f7;have fR:Chg D.TS D.ws w2:=hc.trans e7 (λi hi=>hi.elim);unfold wpOp;simp only [ho,D5 hS hg,if_true];refine .inl ?_;unfold Oper.wp;rw [e1];refine ⟨λ_=>fR,h ρ' _ w2 (e2.put F9 e3 (λg pol c x e=>absurd e (e4 g pol c x))) (λb hb=>(e5 b (by omega)).trans (hρ b hb)) ?_ fR (U4.set hi) (by simpa using C8)⟩;show D.n0<=s'.next;rw [J9 F9]; omega
theorem He {o:Oper} {d:u7} {n:Nat} {s1:St} (hr:Region.ready .any ops d.listed=[D.L]) (hf:d.fuel=n+1) (ho:ops[D.L]?=some o) (hg:L7 d.st ops o.guard=.yes)
  (f7:Y5 C.P d.st none o.op=some s1) (hd:o.dst=none) (he:(Region.ready .any ops (d.listed.setIfInBounds D.L true)).isEmpty=true)
  (h:V C ⟨k,s1⟩):VD C D ops k d:=by
 intro ρ a w hS hρ ib hc U4 C8;rw [hf];refine E2 hr (by simp) (λj hj=>?_);have JB:j=D.L:=by simpa using hj
 obtain ⟨b',w2,e0,e1,e2,e3,e4,e5⟩:=ca hS (j9 d.st) o f7;unfold wpOp;simp only [JB,ho,D5 hS hg,if_true];refine .inl ?_;unfold Oper.wp;rw [e2];refine ⟨λE0=>absurd rfl E0,?_⟩;rw [hd];exact eX (by simpa using he) (h ρ a w2 e3) n
def callD (ops:Array Oper) (i:Nat) (s:St):Option (Option (Nat×Bool×Bool)×FuncId×List CV):=I4 ⟨[.inRegion ops [i]],s⟩
theorem VD.call (i:Nat) (f:FuncId) (xs:List CV) (v:RV) {o:Oper} {d:u7} {n:Nat} {s':St} (hr:Region.ready .any ops d.listed=[i]) (hf:d.fuel=n+1) (ho:ops[i]?=some o)
  (hc:callD ops i d.st=some (none,f,xs)) (bG:∀ args w,(callFunc f args).run C.P w=.ok (.enter f args) w)
  (F9:d.st.put o.dst v=some s') (hv:v.wf d.st.W) (Cb:∀ g pol b x,v≠.grd g pol b x)
  (F6:∀ ρ a w,Sat C ρ d.st a w->Calls C.P f (xs.map (CV.den ρ)).toArray w (u6 (v.den ρ) w))
  (h:VD C D ops k ⟨n,d.listed.setIfInBounds i true,s'⟩):VD C D ops k d:=by
 intro ρ a w hS hρ ib N5 U4 C8;have hi:i∈Region.ready .any ops d.listed:=by rw [hr]; simp
 rw [hf];refine E2 hr (by simp) (λj hj=>?_);have:j=i:=by simpa using hj
 subst this;unfold callD I4 at hc;simp only [ho] at hc;split at hc
 ·rename_i cl f7;split at hc
  ·rename_i hg;split at hc
   ·rename_i f' caps ys h1 h2;simp only [a0l,a1f,true_and] at hc;obtain ⟨rfl,rfl⟩:=hc;have F1:=G5 (t:=o.type) hS.toP (j9 d.st) h1 h2 bG;unfold wpOp;simp only [ho,D5 hS hg,if_true];refine .inl ?_;unfold Oper.wp execOp;rw [f7];simp only;rw [F1];refine (F6 ρ a w hS).mono ?_;rintro e w2 ⟨rfl,hcw⟩;have fR:Chg D.TS D.ws w2:=N5.trans hcw (λi hi=>hi.elim);exact ⟨λ_=>fR,h ρ _ w2 ((hS.below hcw).put F9 hv (λg pol b x e=>absurd e (Cb g pol b x))) hρ (by show D.n0<=s'.next; rw [J9 F9]; exact ib) fR (U4.set hi) (by simpa using C8)⟩
   ·cases hc
  ·split at hc<;>cases hc
  ·cases hc
 ·cases hc
theorem VD.callG (i g:Nat) (pol b:Bool) (f:FuncId) (xs:List CV) (x:CV) {o:Oper} {d:u7} {n:Nat} {s':St} (hr:Region.ready .any ops d.listed=[i]) (hf:d.fuel=n+1) (ho:ops[i]?=some o)
  (hc:callD ops i d.st=some (some (g,pol,b),f,xs)) (bG:∀ args w,(callFunc f args).run C.P w=.ok (.enter f args) w)
  (F9:({ d.st with gs:=M4 d.st.gs g }:St).put o.dst (.grd g pol b x)=some s') (hv:x.wf d.st.W)
  (F6:b=pol->∀ ρ a w,Sat C ρ d.st a w->Calls C.P f (xs.map (CV.den ρ)).toArray w (u6 (x.den ρ) w))
  (h:VD C D ops k ⟨n,d.listed.setIfInBounds i true,s'⟩):VD C D ops k d:=by
 intro ρ a w hS hρ ib N5 U4 C8;have hi:i∈Region.ready .any ops d.listed:=by rw [hr]; simp
 rw [hf];refine E2 hr (by simp) (λj hj=>?_);have:j=i:=by simpa using hj
 subst this;unfold callD I4 at hc;simp only [ho] at hc;split at hc
 ·rename_i cl f7;split at hc
  ·split at hc<;>cases hc
  ·rename_i g' pol' b' hg;split at hc
   ·rename_i f' caps ys h1 h2;simp only [a0l,a1f] at hc;obtain ⟨⟨rfl,rfl,rfl⟩,rfl,rfl⟩:=hc;obtain ⟨hl,Gz⟩:=mG hS hg;have mu:p5 (M4 d.st.gs g') g'=true:=(aX _ _ _).2 (.inl rfl);unfold wpOp;simp only [ho];by_cases hbp:b'=pol'
    ·subst hbp;have Nw:E1 d.st (some (g',b')):=λg2 pol2 e=>by cases e; exact hl
     have F1:=G5 (t:=o.type) hS.toP Nw h1 h2 bG;rw [if_pos (by rw [Gz]; simp)];refine .inl ?_;unfold Oper.wp execOp;rw [f7];simp only;rw [F1];refine (F6 rfl ρ a w hS).mono ?_;rintro e w2 ⟨rfl,hcw⟩;have fR:Chg D.TS D.ws w2:=N5.trans hcw (λi hi=>hi.elim);have hd:x.den ρ=(RV.grd g' b' b' x).den ρ:=by simp [RV.den]
     rw [hd];exact ⟨λ_=>fR,h ρ _ w2 (((hS.below hcw).addG g').put F9 (λ_=>hv) (λg2 pol2 c2 x2 e=>by cases e; exact ⟨mu,hl,eT F9 mu⟩)) hρ (by show D.n0<=s'.next; rw [J9 F9]; exact ib) fR (U4.set hi) (by simpa using C8)⟩
    ·rw [if_neg (by rw [Gz]; simp [hbp])];have hd:undef=(RV.grd g' pol' b' x).den ρ:=by simp [RV.den,hbp]
     rw [hd];exact ⟨λ_=>N5,h ρ _ w ((hS.addG g').put F9 (λe=>absurd e hbp) (λg2 pol2 c2 x2 e=>by cases e; exact ⟨mu,hl,eT F9 mu⟩)) hρ (by show D.n0<=s'.next; rw [J9 F9]; exact ib) N5 (U4.set hi) (by simpa using C8)⟩
   ·cases hc
  ·cases hc
 ·cases hc
end
end Go.SX
end
section
namespace Go.SX
open Go
structure Src (P:Program) (u:TypeId) (size:Nat) (x:Value) (m:Nat) (news:List Value) (w:World):Prop where
 ty:(∃ e,P.underlying u=some (.slice e))∨P.underlying u=some .string
 len:∀ w',(Builtin.lenOf x).run P w'=.ok m w'
 cells:∀ w',w'.heap=w.heap->(Builtin.firstCells size m x).run P w'=.ok news.toArray w'
 size:news.length=m*size
 one:∀ v∈news,v.oneCell'=true
section
variable {P:Program} {w:World}
theorem Cx {u:TypeId} (h:(∃ e,P.underlying u=some (.slice e))∨P.underlying u=some .string) :
  (do pure ((<- underlying u) matches .int _):Sem Bool).run P w=.ok false w:=by
 rcases h with ⟨e,h⟩ | h<;>simp [i7 h]
theorem Cy (t u ty e:TypeId) (i:TypeInfo) (ht:P.underlying t=some (.slice e)) (hi:P.info? e=some i) (x:Value)
  (hx:Src P u i.size x 0 [] w):(Builtin.append_ #[t,u] ty #[.slice none 0 0,x]).run P w=.ok (.slice none 0 0) w:=by
 have hz:=Cx (P:=P) (w:=w) hx.ty;have h1:=hx.len w;have h2:=hx.cells w rfl;simp only [Builtin.append_,a1n] at hz ⊢;simp [i7 ht,sizeOf,typeInfo,hi];rcases hx.ty with ⟨e',h⟩ | h<;>simp [i7 h,h1,h2]
theorem Hf (t u ty e:TypeId) (i:TypeInfo) (z:Value) (ht:P.underlying t=some (.slice e)) (hi:P.info? e=some i) (hz:i.zero=some z) (x:Value) (m:Nat) (news:List Value)
  (hx:Src P u i.size x m news w) (hm:m≠0) (hbytes:m*i.bytes<=140737488355328) (Q5:0<i.bytes) :
  (Builtin.append_ #[t,u] ty #[.slice none 0 0,x]).run P w=.ok (.slice (some ⟨w.heap.size,0,none⟩) m (grownCap w m 0 e)) (w.drew.alloc (.cells (news.toArray++Builtin.zeroCells z.cells (grownCap w m 0 e - m)) e)):=by
 have XA:m<=140737488355328:=a0n (Nat.le_mul_of_pos_right _ Q5) hbytes;have pX:¬ (281474976710656<Builtin.nextslicecap m 0*i.bytes):=by rw [nextslicecap_zero (by omega)]; omega
 have KG:¬ (9223372036854775807<(m:Int)):=by omega
 have h1:=hx.len w;have h2:=hx.cells w.drew rfl;rcases hx.ty with ⟨e',h⟩ | h <;>
  simp [Builtin.append_,i7 ht,i7 h,sizeOf,typeInfo,zeroValue,hi,hz,h1,hm,KG,pX,Question.forced,run_firstCells_none,h2,newRow,grownCap]
theorem Cz (t u ty e:TypeId) (i:TypeInfo) (ht:P.underlying t=some (.slice e)) (hi:P.info? e=some i) (x:Value) (n m cap g:Nat) (cur:Array Value) (news:List Value)
  (hx:Src P u i.size x m news w) (hroom:n+m<=cap) (hg:w.heap[g]?=some (.cells cur e (0,0))) (pX:n*i.size+news.length<=cur.size) :
  (Builtin.append_ #[t,u] ty #[.slice (some ⟨g,0,none⟩) n cap,x]).run P w=.ok (.slice (some ⟨g,0,none⟩) (n+m) cap) (w.setRow g (cur.toList.take (n*i.size)++news++cur.toList.drop (n*i.size+news.length)).toArray):=by
 have F9:=run_storeCells_at P g (n*i.size) e news 0 cur w hg (by simpa using pX) hx.one;simp only [Nat.add_zero] at F9;have h1:=hx.len w;have h2:=hx.cells w rfl;rcases hx.ty with ⟨e',h⟩ | h <;>
  simp [Builtin.append_,i7 ht,i7 h,sizeOf,typeInfo,hi,h1,hroom,h2,y4,F9]
theorem uE (t u ty e:TypeId) (i:TypeInfo) (z:Value) (ht:P.underlying t=some (.slice e)) (hi:P.info? e=some i) (hz:i.zero=some z) (x:Value) (n m cap g:Nat) (xs news:List Value)
  (hx:Src P u i.size x m news w) (hroom:¬ n+m<=cap) (Cq:xs.length=n*i.size) (cu:∀ j v,xs[j]?=some v->w.cell? ((⟨g,0,none⟩:Addr).add j)=some v)
  (hbytes:(n+m)*i.bytes<=140737488355328) (Q5:0<i.bytes) :
  (Builtin.append_ #[t,u] ty #[.slice (some ⟨g,0,none⟩) n cap,x]).run P w=.ok (.slice (some ⟨w.heap.size,0,none⟩) (n+m) (grownCap w (n+m) cap e))
   (w.drew.alloc (.cells (xs.toArray++news.toArray++Builtin.zeroCells z.cells (grownCap w (n+m) cap e - (n+m))) e)):=by
 have wM:n+m<=140737488355328:=a0n (Nat.le_mul_of_pos_right _ Q5) hbytes;have pX:¬ (281474976710656<Builtin.nextslicecap (n+m) cap*i.bytes):=by
  have:=growslice_fits (need:=n+m) (old:=cap) (bytes:=i.bytes) (by omega) hbytes;omega
 have KG:¬ (9223372036854775807<(n:Int)+(m:Int)):=by omega
 have h1:=hx.len w;have h2:=hx.cells w.drew rfl;have NL:=run_firstCells_some (P:=P) w.drew i.size n ⟨g,0,none⟩ n cap xs Cq (by simpa using cu);rcases hx.ty with ⟨e',h⟩ | h <;>
  simp [Builtin.append_,i7 ht,i7 h,sizeOf,typeInfo,zeroValue,hi,hz,h1,hroom,KG,pX,Question.forced,NL,h2,newRow,grownCap] <;>
  (congr 2; apply a3u; simp)
theorem uF (t u ty e:TypeId) (i:TypeInfo) (z:Value) (ht:P.underlying t=some (.slice e)) (hi:P.info? e=some i) (hz:i.zero=some z) (GM:z.cells.size=i.size)
  (s:Option Addr) (n cap:Nat) (xs:List Value) (R4:w.ownsRow 0 e i.size (.slice s n cap) n xs) (x:Value) (m:Nat) (news:List Value) (hx:Src P u i.size x m news w)
  (hbytes:(n+m)*i.bytes<=140737488355328) (Q5:0<i.bytes) :
  ∃ s' cap' w',(Builtin.append_ #[t,u] ty #[.slice s n cap,x]).run P w=.ok (.slice s' (n+m) cap') w' /\
   w'.ownsRow 0 e i.size (.slice s' (n+m) cap') (n+m) (xs++news)/\w.grownBy w' (Value.slice s n cap).ownBlock /\
   (∀ a,s'=some a->s=some a∨a.block=w.heap.size)/\(s=none->m=0->s'=none):=by
 have wM:n+m<=140737488355328:=a0n (Nat.le_mul_of_pos_right _ Q5) hbytes;have Gu:n+m<=maxLen:=by simp only [maxLen]; omega
 have n8:(xs++news).length=(n+m)*i.size:=by rw [a0c,R4.1,hx.size,a6l]
 have grown:∀ (old:Nat),old<n+m->∀ row,
      (w.drew.alloc (.cells (xs.toArray++news.toArray++Builtin.zeroCells z.cells (grownCap w (n+m) old e - (n+m))) e)).ownsRow 0 e i.size
    (.slice (some ⟨w.heap.size,0,none⟩) (n+m) (grownCap w (n+m) old e)) (n+m) (xs++news) /\
   w.grownBy (w.drew.alloc (.cells (xs.toArray++news.toArray++Builtin.zeroCells z.cells (grownCap w (n+m) old e - (n+m))) e)) row:=by
  intro old ho row;have bA:=grownCap_ge w (n+m) old e;have GR:grownCap w (n+m) old e<=maxLen:=grownCap_le_maxLen w (n+m) old e Gu;refine ⟨⟨n8,.inr ⟨w.heap.size,_,_,rfl,a0s _,heap_alloc_new w.drew _,bA,GR,?_,?_⟩⟩,⟨rfl,rfl,rfl,by simp,λk hk _=>Go.RowKit.Below.heap_alloc w.drew _ k hk⟩⟩
  ·simp only [Array.size_append,a6a,size_zeroCells,GM];rw [<- a0c,n8,<- a6l];congr 1; omega
  ·simp only [Array.toList_append,a1g];rw [<- a1g,<- n8];exact List.take_left
 rcases R4.2 with ⟨hv,ib⟩ | ⟨g,cap0,cur,hv,_,hg,VC,GR,gN,htake⟩
 ·injection hv with h1 h2 h3;subst h1; subst h2; subst h3;have Cq:xs=[]:=a5m (by simpa using R4.1);subst Cq;by_cases hm:m=0
  ·subst hm;have hn:news=[]:=a5m (by simpa using hx.size);subst hn;refine ⟨none,0,w,?_,World.ownsRow_nil w 0 e i.size,⟨rfl,rfl,rfl,a0q _,λ_ _ _=>rfl⟩,by simp,λ_ _=>rfl⟩;exact Cy t u ty e i ht hi x hx
  ·have hr:=Hf t u ty e i z ht hi hz x m news hx hm (by simpa using hbytes) Q5;have wL:=grown 0 (by omega) (Value.ownBlock (.slice none 0 0));simp only [Nat.zero_add,List.nil_append,Array.empty_append] at wL hr ⊢;exact ⟨_,_,_,hr,wL.1,wL.2,λa ha=>.inr (by injection ha with ha; rw [<- ha]),λ_ h=>absurd h hm⟩
 ·injection hv with h1 h2 h3;subst h1; subst h3;by_cases hroom:n+m<=cap
  ·have pX:n*i.size+news.length<=cur.size:=by rw [hx.size,gN,<- a6l]; exact a6u _ hroom
   have hr:=Cz t u ty e i ht hi x n m cap g cur news hx hroom hg pX;refine ⟨_,_,_,hr,⟨n8,.inr ⟨g,cap,_,rfl,a0s _,setRow_heap w g cur _ e _ hg,hroom,GR,?_,?_⟩⟩,⟨rfl,rfl,rfl,by rw [S8]; exact a0q _,λk _ hk=>setRow_other w g k _ (λe=>hk (by simp [Value.ownBlock,e]))⟩,λa ha=>.inl ha,λh=>by cases h⟩
   ·simp only [a6a,a0c,a2b,a2p,Array.length_toList];omega
   ·rw [htake,<- n8];exact List.take_left
  ·have cu:∀ j v,xs[j]?=some v->w.cell? ((⟨g,0,none⟩:Addr).add j)=some v:=R4.cells (g:=g) rfl;have hr:=uE t u ty e i z ht hi hz x n m cap g xs news hx hroom R4.1 cu hbytes Q5;have wL:=grown cap (by omega) (Value.ownBlock (.slice (some ⟨g,0,none⟩) n cap));exact ⟨_,_,_,hr,wL.1,wL.2,λa ha=>.inr (by injection ha with ha; rw [<- ha]),λh=>by cases h⟩
end
theorem S9 (f:Nat->List Value) (size:Nat):∀ (n:Nat),(∀ i,i<n->(f i).length=size)->((a2f n).flatMap f).length=n*size
 | 0,_=>by simp
 | n+1,h=>by
  rw [List.range_succ,a3y,a0c,S9 f size n (λi hi=>h i (by omega))];simp [h n (by omega),a6l]
theorem nP (f:Nat->List Value) (size:Nat):∀ (n:Nat),(∀ i,i<n->(f i).length=size)->∀ i j v,i<n->(f i)[j]?=some v->((a2f n).flatMap f)[i*size+j]?=some v
 | 0,_,i,_,_,hi,_=>absurd hi (a0x _)
 | n+1,h,i,j,v,hi,hv=>by
  have hl:=S9 f size n (λi hi=>h i (by omega));have hj:j<size:=by have:=(a2l.1 hv).1; rw [h i hi] at this; exact this
  rw [List.range_succ,a3y];by_cases e:i=n
  ·subst e;rw [a6o (by omega),hl,Nat.add_sub_cancel_left];simpa using hv
  ·have iU:i<n:=by omega
   have:i*size+j<n*size:=by
    have:=a6u size (show i+1<=n by omega);rw [a6l] at this; omega
   rw [a6x (by omega)];exact nP f size n (λi hi=>h i (by omega)) i j v iU hv
def Q6 {α:Type} (r:Nat):List (Nat×α)->List (Nat×α)
 | []=>[]
 | (k,v)::l=>match a1m k r with
  | true=>Q6 r l
  | false=>(k,v)::Q6 r l
theorem j4 {α:Type} {r:Nat}:∀ {l:List (Nat×α)} {i:Nat} {v:α},look (Q6 r l) i=some v->i≠r/\look l i=some v
 | [],i,v,h=>by simp [Q6,look] at h
 | (k,u)::l,i,v,h=>by
  simp only [Q6] at h;cases hk:a1m k r with
  | true =>
   rw [hk] at h;obtain ⟨h1,h2⟩:=j4 h;refine ⟨h1,?_⟩;simp only [look];have Xy:=(d6 _ _).1 hk;cases hi:a1m k i with
   | true=>have:=(d6 _ _).1 hi; omega
   | false=>exact h2
  | false =>
   rw [hk] at h;simp only [look] at h ⊢;cases hi:a1m k i with
   | true =>
    rw [hi] at h;have h1:=(d6 _ _).1 hi;have h2:=C5 hk;exact ⟨by omega,h⟩
   | false=>rw [hi] at h; exact j4 h
def Row.next (R:Row) (s:Option Addr) (m cap:Nat) (get:Nat->List SV):Row:=⟨s,R.n+m,cap,R.elem,R.size,get,true,none⟩
def St.rowTo (s:St) (r:Nat) (R:Row):St:={ s with rows:=(s.nr,R)::Q6 r s.rows,nr:=s.nr+1 }
theorem eY (s:St) (r:Nat) (R:Row):s.W.le (s.rowTo r R).W:=by
 refine ⟨a0q _,a4l _,λq hq R' G8=>?_⟩;have lM:q<s.nr:=hq;simp only [St.rowTo,St.W,look] at G8;split at G8
 ·rename_i e; have:=(d6 _ _).1 e; omega
 ·exact (j4 G8).2
section
variable {C:Ctx} {ρ:Nat->Nat} {s:St} {a:Act} {w w':World}
theorem Sat.append (h:Sat C ρ s a w) {r:Nat} {R:Row} (hR:look s.rows r=some R) (ho:R.own=true) {q:Option Addr} {m cap:Nat} {news:List Value}
  (R4:w'.ownsRow 0 R.elem R.size (.slice q (R.n+m) cap) (R.n+m) (R.flat++news)) (hg:w.grownBy w' (Value.slice R.s R.n R.cap).ownBlock)
  (hq:∀ ad,q=some ad->R.s=some ad∨ad.block=w.heap.size) (get:Nat->List SV) (h1:∀ i,i<R.n->get i=R.get i)
  (h2:(a2f m).flatMap (λi=>(get (R.n+i)).map SV.den0)=news) (h3:∀ i,i<m->(get (R.n+i)).length=R.size/\∀ x∈get (R.n+i),x.plain) :
  Sat C ρ (s.rowTo r (R.next q m cap get)) a w':=by
 obtain ⟨Ch,x7,U3⟩:=h.rows r R hR;have ug:∀ k,(Value.slice R.s R.n R.cap).ownBlock=some k->R.uses k:=by
  intro k hk;cases hs:R.s with
  | none=>rw [hs] at hk; cases hk
  | some ad=>rw [hs] at hk; simp only [Value.ownBlock,a0l] at hk; exact ⟨ad,hs,hk,.inl ho⟩
 have U0:∀ k,k<w.heap.size->¬ R.uses k->w'.heap[k]?=w.heap[k]?:=λk hk hn=>hg.block k hk (λe=>hn (ug k e.symm));have B0:=eY s r (R.next q m cap get);have fP:(R.next q m cap get).flat=R.flat++news:=by
  simp only [Row.flat,Row.next];rw [List.range_add,a3y,<- h2];congr 1
  ·have:∀ (l:List Nat),(∀ i∈l,i<R.n)->l.flatMap (λi=>(get i).map SV.den0)=l.flatMap (λi=>(R.get i).map SV.den0):=by
    intro l
    induction l with
    | nil=>intro _; rfl
    | cons c l ih=>intro hl; simp only [a2z]; rw [h1 c (hl c (a0f ..)),ih (λi hi=>hl i (a0e _ hi))]
   exact this _ (λi hi=>a3f.1 hi)
  ·rw [List.flatMap_map]
 have wI:∀ i,i<R.n+m->(get i).length=R.size/\∀ x∈get i,x.plain:=by
  intro i hi;by_cases iU:i<R.n
  ·rw [h1 i iU]; exact x7.len i iU
  ·have:=h3 (i - R.n) (by omega)
   rwa [show R.n+(i - R.n)=i by omega] at this
 have yF:(R.next q m cap get).ok w':=by
  refine ⟨wI,λkl=>?_,λ_ _=>(by rw [fP]; exact R4),λo ho=>(by cases ho)⟩;have wF:0<R.n+m:=kl;rcases R4.2 with ⟨hv,hz⟩ | ⟨g,cap0,cur,hv,_⟩
  ·omega
  ·injection hv with e1 e2 e3;refine ⟨g,0,e1,λi j x hi hx=>?_⟩;have W1:=World.ownsRow.cells (w:=w') R4 (g:=g) (by rw [e1]; rfl);have hf:=nP (λi=>(get i).map SV.den0) R.size (R.n+m) (λi hi=>by rw [a1k]; exact (wI i hi).1) i j x.den0 hi (by
    have qa:(get i)[j]?=some x:=hx;simp [qa])
   have KF:(R.flat++news)[i*R.size+j]?=some x.den0:=by rw [<- fP]; exact hf
   have:=W1 _ _ KF;rw [y4] at this;exact this
 have ki:∀ k,(R.next q m cap get).uses k->R.uses k∨k=w.heap.size/\k<w'.heap.size:=by
  rintro k ⟨ad,hs,hk,_⟩;rcases hq ad hs with e | e
  ·exact .inl ⟨ad,e,hk,.inl ho⟩
  ·refine .inr ⟨by omega,?_⟩;have e9:∀ k,(Value.slice q (R.n+m) cap).ownBlock=some k->k<w'.heap.size:=λk hk=>(World.ownsRow.lt R4 k hk).2;have N6:q=some ad:=hs;exact e9 k (by rw [N6]; simp [Value.ownBlock,hk])
 refine ⟨h.n,λi v hv=>⟨(h.slots i v hv).1,RV.wf_mono B0 v (h.slots i v hv).2⟩,h.grds,?_,h.inj,λb hb=>a1b (h.lt b hb) hg.size,h.defers,?_,?_,?_,?_,h.fix⟩
 ·intro b blk hb;obtain ⟨k1,k2,k3,k4⟩:=h.heap b blk hb;refine ⟨k1,?_,λx hx=>SV.wf_mono B0 x (k3 x hx),k4⟩;rw [U0 _ (h.lt b k1) (λhu=>(U3 _ hu).2.1 b k1 rfl)];exact k2
 ·refine ⟨hg.os.trans h.chg.os,hg.tape.trans h.chg.tape,hg.output.trans h.chg.output,a0n h.chg.size hg.size,λk hk hS=>?_⟩;rw [U0 k (a1b hk h.chg.size) (λhu=>?_)]
  ·exact h.chg.block k hk hS
  ·rcases (U3 k hu).2.2 ho with e | e
   ·omega
   ·exact hS e
 ·intro r' R' G8;simp only [St.rowTo,look] at G8;split at G8
  ·rename_i e;cases G8;have:=(d6 _ _).1 e;refine ⟨by show r'<s.nr+1; omega,yF,λk hk=>?_⟩;rcases ki k hk with hu | ⟨rfl,e9⟩
   ·obtain ⟨u1,u2,u3⟩:=U3 k hu;exact ⟨a1b u1 hg.size,u2,λ_=>u3 ho⟩
   ·exact ⟨e9,λb hb=>by have:=h.lt b hb; omega,λ_=>.inl h.chg.size⟩
  ·obtain ⟨E0,hl⟩:=j4 G8;obtain ⟨k0,k1,k2⟩:=h.rows r' R' hl;refine ⟨by show r'<s.nr+1; omega,k1.congr (λk hk=>U0 k (k2 k hk).1 (λhu=>h.rowsD r r' R R' hR hl (λe=>E0 e.symm) ho k hu hk)),λk hk=>?_⟩;obtain ⟨u1,u2,u3⟩:=k2 k hk;exact ⟨a1b u1 hg.size,u2,u3⟩
 ·intro r1 r2 R1 R2 JA ul E0 NM k eP eu;simp only [St.rowTo,look] at JA ul;split at JA
  ·rename_i e1;cases JA;split at ul
   ·rename_i e2; have:=(d6 _ _).1 e1; have:=(d6 _ _).1 e2; omega
   ·obtain ⟨GG,de⟩:=j4 ul;rcases ki k eP with hu | ⟨rfl,_⟩
    ·exact h.rowsD r r2 R R2 hR de (λe=>GG e.symm) ho k hu eu
    ·have:=((h.rows r2 R2 de).2.2 _ eu).1; omega
  ·obtain ⟨Nu,nt⟩:=j4 JA;split at ul
   ·cases ul;rcases ki k eu with hu | ⟨rfl,_⟩
    ·exact h.rowsD r1 r R1 R nt hR Nu NM k eP hu
    ·have:=((h.rows r1 R1 nt).2.2 _ eP).1; omega
   ·obtain ⟨GG,de⟩:=j4 ul;exact h.rowsD r1 r2 R1 R2 nt de E0 NM k eP eu
 ·intro p hp;obtain ⟨p1,p2,p3⟩:=h.pers p hp;have hk:∀ k,p.D k->w'.heap[k]?=w.heap[k]?:=λk hD=>U0 k (p3 k hD).1 ((p3 k hD).2.2 r R hR ho);refine ⟨p2 _ hk,λw2 bY=>p2 w2 (λk hD=>(bY k hD).trans (hk k hD)),λk hD=>?_⟩;obtain ⟨u1,u2,u3⟩:=p3 k hD;refine ⟨a1b u1 hg.size,u2,λr' R' G8 ky kz=>?_⟩;simp only [St.rowTo,look] at G8;split at G8
  ·cases G8;rcases ki k kz with hu | ⟨rfl,_⟩
   ·exact u3 r R hR ho hu
   ·omega
  ·exact u3 r' R' (j4 G8).2 ky kz
theorem Sat.nilRow (h:Sat C ρ s a w) (e:TypeId) (size:Nat) (get:Nat->List SV) :
  Sat C ρ { s with rows:=(s.nr,⟨none,0,0,e,size,get,true,none⟩)::s.rows,nr:=s.nr+1 } a w:=by
 have B0:s.W.le ⟨s.next,s.nr+1,(s.nr,⟨none,0,0,e,size,get,true,none⟩)::s.rows⟩:=by
  refine ⟨a0q _,a4l _,λr hr R hR=>?_⟩;have eQ:r<s.nr:=hr;simp only [look] at hR;split at hR
  ·rename_i e; have:=(d6 _ _).1 e; omega
  ·exact hR
 have J8:∀ k,¬ (⟨none,0,0,e,size,get,true,none⟩:Row).uses k:=by
  rintro k ⟨ad,hs,_⟩; cases hs
 have e9:∀ r R,look s.rows r=some R->r<s.nr:=λr R hR=>(h.rows r R hR).1;refine ⟨h.n,λi v hv=>⟨(h.slots i v hv).1,RV.wf_mono B0 v (h.slots i v hv).2⟩,h.grds,?_,h.inj,h.lt,h.defers,h.chg,?_,?_,?_,h.fix⟩
 ·intro b blk hb;obtain ⟨k1,k2,k3,k4⟩:=h.heap b blk hb;exact ⟨k1,k2,λx hx=>SV.wf_mono B0 x (k3 x hx),k4⟩
 ·intro r R hR;simp only [look] at hR;split at hR
  ·rename_i e';cases hR;have:=(d6 _ _).1 e';exact ⟨by show r<s.nr+1; omega,⟨λi hi=>absurd hi (a0x _),λhp=>absurd hp (Nat.lt_irrefl _),λ_ _=>World.ownsRow_nil w 0 e size,λo ho=>(by cases ho)⟩,λk hk=>absurd hk (J8 k)⟩
  ·obtain ⟨k0,k1,k2⟩:=h.rows r R hR;exact ⟨by show r<s.nr+1; omega,k1,k2⟩
 ·intro r1 r2 R1 R2 h1 h2 E0 ho k eP eu;simp only [look] at h1 h2;split at h1
  ·cases h1; exact J8 k eP
  ·split at h2
   ·cases h2; exact J8 k eu
   ·exact h.rowsD r1 r2 R1 R2 h1 h2 E0 ho k eP eu
 ·intro p hp;obtain ⟨p1,p2,p3⟩:=h.pers p hp;refine ⟨p1,p2,λk hD=>⟨(p3 k hD).1,(p3 k hD).2.1,λr R hR ho=>?_⟩⟩;simp only [look] at hR;split at hR
  ·cases hR; exact J8 k
  ·exact (p3 k hD).2.2 r R hR ho
theorem Sat.rowAs (h:Sat C ρ s a w) {r:Nat} {R:Row} (hR:look s.rows r=some R) (get:Nat->List SV) (hg:∀ i,i<R.n->get i=R.get i) :
  Sat C ρ { s with rows:=upd s.rows r { R with get:=get } } a w:=by
 obtain ⟨Ch,x7,U3⟩:=h.rows r R hR;have fT:∀ q R',look (upd s.rows r { R with get:=get }) q=some R'->(q=r/\R'={ R with get:=get })∨(q≠r/\look s.rows q=some R'):=by
  intro q R' hq;rw [s8] at hq;by_cases e:r=q
  ·rw [if_pos e] at hq; cases hq; exact .inl ⟨e.symm,rfl⟩
  ·rw [if_neg e] at hq; exact .inr ⟨λe'=>e e'.symm,hq⟩
 have iQ:∀ x:SV,x.wf s.W->x.wf ⟨s.next,s.nr,upd s.rows r { R with get:=get }⟩:=by
  intro x hx;cases x with
  | row q p n cap =>
   refine ⟨hx.1,λR' G8=>?_⟩;rcases fT q R' G8 with ⟨rfl,rfl⟩ | ⟨_,hl⟩
   ·exact hx.2 R hR
   ·exact hx.2 R' hl
  | el q p size i j =>
   refine ⟨hx.1,λR' G8=>?_⟩;rcases fT q R' G8 with ⟨rfl,rfl⟩ | ⟨_,hl⟩
   ·exact hx.2 R hR
   ·exact hx.2 R' hl
  | _=>exact hx
 have Vo:∀ x:CV,x.wf s.W->x.wf ⟨s.next,s.nr,upd s.rows r { R with get:=get }⟩:=by
  intro x hx;cases x with
  | one x=>exact iQ x hx
  | agg xs=>exact λy hy=>iQ y (hx y hy)
 have yI:∀ x:RV,x.wf s.W->x.wf ⟨s.next,s.nr,upd s.rows r { R with get:=get }⟩:=by
  intro x hx;cases x with
  | v x=>exact Vo x hx
  | tup xs=>exact λy hy=>Vo y (hx y hy)
  | grd g pol c x=>exact λhc=>Vo x (hx hc)
 have fP:({ R with get:=get }:Row).flat=R.flat:=by
  simp only [Row.flat];have:∀ (l:List Nat),(∀ i∈l,i<R.n)->l.flatMap (λi=>(get i).map SV.den0)=l.flatMap (λi=>(R.get i).map SV.den0):=by
   intro l
   induction l with
   | nil=>intro _; rfl
   | cons c l ih=>intro hl; simp only [a2z]; rw [hg c (hl c (a0f ..)),ih (λi hi=>hl i (a0e _ hi))]
  exact this _ (λi hi=>a3f.1 hi)
 have yF:({ R with get:=get }:Row).ok w:=by
  refine ⟨λi hi=>by show (get i).length=_/\∀ x∈get i,_; rw [hg i hi]; exact x7.len i hi,λhp=>?_,λho J8=>(by rw [fP]; exact x7.own ho J8),x7.obj⟩;obtain ⟨b,off,e1,e2⟩:=x7.addr hp;refine ⟨b,off,e1,λi j x hi hx=>e2 i j x hi ?_⟩;have qa:(get i)[j]?=some x:=hx
  rwa [hg i hi] at qa
 refine ⟨h.n,λi v hv=>⟨(h.slots i v hv).1,yI v (h.slots i v hv).2⟩,h.grds,?_,h.inj,h.lt,h.defers,h.chg,?_,?_,?_,h.fix⟩
 ·intro b blk hb;obtain ⟨k1,k2,k3,k4⟩:=h.heap b blk hb;exact ⟨k1,k2,λx hx=>iQ x (k3 x hx),k4⟩
 ·intro q R' hq;rcases fT q R' hq with ⟨rfl,rfl⟩ | ⟨_,hl⟩
  ·exact ⟨Ch,yF,U3⟩
  ·exact h.rows q R' hl
 ·intro r1 r2 R1 R2 h1 h2 E0 ho k eP eu;rcases fT r1 R1 h1 with ⟨rfl,rfl⟩ | ⟨_,l1⟩<;>rcases fT r2 R2 h2 with ⟨rfl,rfl⟩ | ⟨_,l2⟩
  ·exact E0 rfl
  ·exact h.rowsD _ _ R R2 hR l2 E0 ho k eP eu
  ·exact h.rowsD _ _ R1 R l1 hR E0 ho k eP eu
  ·exact h.rowsD _ _ R1 R2 l1 l2 E0 ho k eP eu
 ·intro p hp;obtain ⟨p1,p2,p3⟩:=h.pers p hp;refine ⟨p1,p2,λk hD=>⟨(p3 k hD).1,(p3 k hD).2.1,λq R' hq ho=>?_⟩⟩;rcases fT q R' hq with ⟨rfl,rfl⟩ | ⟨_,hl⟩
  ·exact (p3 k hD).2.2 _ R hR ho
  ·exact (p3 k hD).2.2 q R' hl ho
end
end Go.SX
end
section
namespace Go.SX
open Go
def F2:SV->Bool
 | .int _ _ | .bool _ | .sb _ | .str _ | .val _=>true
 | _=>false
def cx:List SV->Bool
 | []=>true
 | x::l=>match F2 x with
  | true=>match x.fit with
   | true=>cx l
   | false=>false
  | false=>false
structure App where
 t:TypeId
 u:TypeId
 e:TypeId
 bytes:Nat
 r:Nat
 R:Row
 m:Nat
 get:Nat->List SV
def mI (get:Nat->List SV):Nat->Bool
 | 0=>true
 | n+1=>match mI get n with
  | true=>cx (get n)
  | false=>false
def Hg (P:Program) (s:St) (u:TypeId) (sz:Nat):CV->Option (Nat×(Nat->List SV))
 | .one (.sli b m _)=>match look s.heap b with
  | some blk=>match cx blk.cells,a1m blk.cells.length (m*sz),P.underlying u with
   | true,true,some (.slice _)=>some (m,λj=>(blk.cells.drop (j*sz)).take sz)
   | _,_,_=>none
  | none=>none
 | .one (.str l)=>match a1m sz 1,P.underlying u with
  | true,some .string=>some (l.length,λj=>[.int .u8 ((l.getD j 0).toNat:Int)])
  | _,_=>none
 | .one (.row r _ _ _)=>match look s.rows r with
  | some R=>match a1m R.size sz,mI R.get R.n,P.underlying u with
   | true,true,some (.slice _)=>some (R.n,R.get)
   | _,_,_=>none
  | none=>none
 | _=>none
def AH (P:Program) (s:St) (cl:Call):Option App :=
 match cl.callee with
 | .builtin .append=>match cl.args.toList,cl.argTypes.toList with
  | [x,y],[t,u]=>match ev s none x,ev s none y with
   | some (.one (.row r _ _ _)),some src=>match look s.rows r,P.underlying t with
    | some R,some (.slice e)=>match R.own,a1m R.elem e,P.info? e,R.obj with
     | true,true,some i,none=>match a1m i.size R.size,Nat.blt 0 i.bytes,i.zero with
      | true,true,some z=>match a1m z.cells.size i.size,Hg P s u R.size src with
       | true,some (m,get)=>some ⟨t,u,e,i.bytes,r,R,m,get⟩
       | _,_=>none
      | _,_,_=>none
     | _,_,_,_=>none
    | _,_=>none
   | _,_=>none
  | _,_=>none
 | _=>none
section
variable {C:Ctx} {ρ:Nat->Nat} {s:St} {a:Act} {w:World}
theorem P6 {x:SV} (h:F2 x=true):x.plain:=by
 cases x<;>first | trivial | (simp [F2] at h)
theorem eZ:∀ {l:List SV},cx l=true->∀ x∈l,x.plain/\x.fit=true
 | [],_,x,hx=>by simp at hx
 | y::l,h,x,hx=>by
  simp only [cx] at h;split at h
  ·rename_i hp;split at h
   ·rename_i hf;rcases a0k.1 hx with rfl | hx
    ·exact ⟨P6 hp,hf⟩
    ·exact eZ h x hx
   ·cases h
  ·cases h
theorem bM {α:Type} (sz:Nat):∀ (m:Nat) (l:List α),l.length=m*sz->(a2f m).flatMap (λj=>(l.drop (j*sz)).take sz)=l
 | 0,l,h=>by
  have:l=[]:=a5m (by simpa using h);simp [this]
 | m+1,l,h=>by
  rw [List.range_succ,a3y];have hl:(l.take (m*sz)).length=m*sz:=by rw [a2b,h,a6l]; omega
  have ih:=bM sz m (l.take (m*sz)) hl;have e:(a2f m).flatMap (λj=>(l.drop (j*sz)).take sz)=(a2f m).flatMap (λj=>((l.take (m*sz)).drop (j*sz)).take sz):=by
   have:∀ (r:List Nat),(∀ j∈r,j<m)->r.flatMap (λj=>(l.drop (j*sz)).take sz)=r.flatMap (λj=>((l.take (m*sz)).drop (j*sz)).take sz):=by
    intro r
    induction r with
    | nil=>intro _; rfl
    | cons c r ih =>
     intro hr;simp only [a2z];rw [ih (λj hj=>hr j (a0e _ hj))];congr 1;have hc:=hr c (a0f ..);have:c*sz+sz<=m*sz:=by
      have:=a6u sz (show c+1<=m by omega);rw [a6l] at this; omega
     rw [List.drop_take,List.take_take,Nat.min_eq_left (by omega)]
   exact this _ (λj hj=>a3f.1 hj)
  rw [e,ih];simp only [a2z,List.flatMap_nil,a1q];have:(l.drop (m*sz)).take sz=l.drop (m*sz):=List.take_of_length_le (by rw [a2p,h,a6l]; omega);rw [this,List.take_append_drop]
theorem nQ {get:Nat->List SV}:∀ {n:Nat},mI get n=true->∀ i,i<n->cx (get i)=true
 | 0,_,i,hi=>absurd hi (a0x i)
 | n+1,h,i,hi=>by
  simp only [mI] at h;split at h
  ·rename_i h1;by_cases e:i=n
   ·rw [e]; exact h
   ·exact nQ h1 i (by omega)
  ·cases h
theorem mJ {get:Nat->List SV} {sz:Nat}:∀ (n:Nat),(∀ i,i<n->(get i).length=sz)->∀ (p:Nat) (v:Value),((a2f n).flatMap λi=>(get i).map SV.den0)[p]?=some v->∃ i j x,i<n/\j<sz/\p=i*sz+j/\(get i)[j]?=some x/\x.den0=v
 | 0,_,p,v,h=>by simp at h
 | n+1,hl,p,v,h=>by
  have n8:=S9 (λi=>(get i).map SV.den0) sz n (λi hi=>by rw [a1k]; exact hl i (by omega));rw [List.range_succ,a3y] at h;by_cases hp:p<n*sz
  ·rw [a6x (by omega)] at h;obtain ⟨i,j,x,h1,h2,h3,h4,h5⟩:=mJ n (λi hi=>hl i (by omega)) p v h;exact ⟨i,j,x,by omega,h2,h3,h4,h5⟩
  ·rw [a6o (by omega),n8] at h;simp only [a2z,List.flatMap_nil,a1q,a2t,a1y] at h;obtain ⟨x,hx,hv⟩:=h;have hj:=(a2l.1 hx).1;rw [hl n (by omega)] at hj;exact ⟨n,p - n*sz,x,by omega,hj,by omega,hx,hv⟩
theorem nR {W:WF} (h:kD ρ s W a w) {u:TypeId} {sz:Nat} {x:CV} {m:Nat} {get:Nat->List SV} {P:Program} (hx:x.wf W) (hs:Hg P s u sz x=some (m,get)) :
  Src P u sz (x.den ρ) m ((a2f m).flatMap λi=>(get i).map SV.den0) w/\∀ i,i<m->(get i).length=sz/\∀ y∈get i,y.plain:=by
 unfold Hg at hs;split at hs
 ·rename_i b m' cap;split at hs
  ·rename_i blk hb;split at hs
   ·rename_i e GX hl hu;cases hs;obtain ⟨h2,h3⟩:=h.heap b blk hb;have n8:=(d6 _ _).1 hl;have M3:=eZ GX;have Jw:blk.cells.map (SV.den ρ)=blk.cells.map SV.den0:=a2g λx hx=>J0 (M3 x hx).1 ρ;have fP:((a2f m).flatMap λi=>((blk.cells.drop (i*sz)).take sz).map SV.den0)=blk.cells.map (SV.den ρ):=by
     rw [Jw]
     conv=>rhs; rw [<- bM sz m blk.cells n8]
     rw [List.map_flatMap]
    refine ⟨?_,λi hi=>⟨?_,λy hy=>(M3 y (List.mem_of_mem_drop (a5l hy))).1⟩⟩
    ·rw [fP];refine ⟨.inl ⟨_,hu⟩,λw'=>rfl,λw' pU=>?_,by simpa using n8,?_⟩
     ·refine run_firstCells_some (P:=P) w' sz m ⟨ρ b,0,none⟩ m cap _ (by simpa using n8) (λj v hj=>?_);rw [y4];simp only [World.cell?,pU,h2];simpa using hj
     ·intro v hv;obtain ⟨x,hx,rfl⟩:=a1d.1 hv;exact kE (M3 x hx).2
    ·have:i*sz+sz<=m*sz:=by
      have:=a6u sz (show i+1<=m by omega);rw [a6l] at this; omega
     rw [a2b,a2p,n8]; omega
   ·cases hs
  ·cases hs
 ·rename_i l;split at hs
  ·rename_i C8 hu;cases hs;have:=(d6 _ _).1 C8;subst this;refine ⟨?_,λi hi=>⟨rfl,λy hy=>by simp at hy; subst hy; trivial⟩⟩;have fP:((a2f l.length).flatMap λi=>[SV.int a1x ((l.getD i 0).toNat:Int)].map SV.den0)=l.map λb=>Value.int .u8 (b.toNat:Int):=by
    have:∀ (n:Nat),n<=l.length->((a2f n).flatMap λi=>[SV.int a1x ((l.getD i 0).toNat:Int)].map SV.den0)=(l.take n).map λb=>Value.int .u8 (b.toNat:Int):=by
     intro n
     induction n with
     | zero=>intro _; simp
     | succ n ih =>
      intro hn;rw [List.range_succ,a3y,ih (by omega),List.take_succ_eq_append_getElem (show n<l.length by omega),List.map_append];congr 1;simp [SV.den0,SV.den,a0b (show n<l.length by omega)]
    have:=this l.length (a0q _)
    rwa [List.take_length] at this
   rw [fP];refine ⟨.inr hu,λw'=>rfl,λw' _=>?_,by simp,?_⟩
   ·simp only [CV.den,SV.den,Builtin.firstCells,a2i];congr 1;have Ax:(⟨l.toArray⟩:ByteArray).extract 0 l.length=⟨l.toArray⟩:=by
     apply ByteArray.ext;simp [ByteArray.data_extract]
    rw [Ax];simp
   ·intro v hv;obtain ⟨b,_,rfl⟩:=a1d.1 hv;rfl
  ·cases hs
 ·rename_i r q0 n0 c0;split at hs
  ·rename_i R hR;split at hs
   ·rename_i e C8 pX hu;cases hs;have C8:=(d6 _ _).1 C8;subst C8;obtain ⟨x7,hW⟩:=h.rows r R hR;obtain ⟨rfl,rfl,rfl⟩:=hx.2 R hW;have n8:=λi hi=>(x7.len i hi).1;refine ⟨⟨.inl ⟨_,hu⟩,λw'=>rfl,λw' pU=>?_,?_,?_⟩,λi hi=>⟨(x7.len i hi).1,λy hy=>(x7.len i hi).2 y hy⟩⟩
    ·show (Builtin.firstCells R.size R.n (.slice R.s R.n R.cap)).run P w'=_;have lK:((a2f R.n).flatMap λi=>(R.get i).map SV.den0).length=R.n*R.size:=S9 (λi=>(R.get i).map SV.den0) R.size R.n (λi hi=>by rw [a1k]; exact n8 i hi);by_cases kl:0<R.n
     ·obtain ⟨b,off,e1,e2⟩:=x7.addr kl;rw [e1];refine run_firstCells_some (P:=P) w' R.size R.n ⟨b,off,none⟩ R.n R.cap _ lK (λj v hj=>?_);obtain ⟨i,m,x,h1,h2,rfl,h4,rfl⟩:=mJ R.n n8 j v hj;have:=e2 i m x h1 h4;rw [y4];simp only [World.cell?,pU] at this ⊢;exact this
     ·have hz:R.n=0:=by omega
      rw [hz];cases R.s with
      | none=>exact run_firstCells_none w' R.size 0 0 R.cap
      | some ad=>exact run_firstCells_some (P:=P) w' R.size 0 ad 0 R.cap [] (by simp) (λj v hj=>by simp at hj)
    ·exact S9 (λi=>(R.get i).map SV.den0) R.size R.n (λi hi=>by rw [a1k]; exact n8 i hi)
    ·intro v hv;obtain ⟨p,hp⟩:=List.mem_iff_getElem?.1 hv;obtain ⟨i,m,x,h1,h2,_,h4,rfl⟩:=mJ R.n n8 p v hp;have hm:x∈R.get i:=a0v h4;have:=kE (ρ:=λ_=>0) (eZ (nQ pX i h1) x hm).2;exact this
   ·cases hs
  ·cases hs
 ·cases hs
theorem nS (h:Sat C ρ s a w) {cl:Call} {ty:TypeId} {A:App} (hA:AH C.P s cl=some A) (hb:(A.R.n+A.m)*A.bytes<=140737488355328)
  (get:Nat->List SV) (h1:∀ i,i<A.R.n->get i=A.R.get i) (h2:∀ i,i<A.m->get (A.R.n+i)=A.get i) :
  ∃ q cap w',(do let d <- resolve a.eval cl ty; invoke d.target d.args:Sem Next).run C.P w=.ok (.value (.slice q (A.R.n+A.m) cap)) w' /\
   Sat C ρ (s.rowTo A.r (A.R.next q A.m cap get)) a w'/\Chg (λk=>A.R.uses k) w w'/\look s.rows A.r=some A.R:=by
 obtain ⟨callee,args,argTypes⟩:=cl;unfold AH at hA;simp only at hA;split at hA
 ·split at hA
  ·rename_i x y t u Z9 yB;have ha:args=#[x,y]:=by apply a3u; simpa using Z9
   have US:argTypes=#[t,u]:=by apply a3u; simpa using yB
   subst ha; subst US;split at hA
   ·rename_i r q0 n0 cap0 src hx hy;split at hA
    ·rename_i R e hR hu;split at hA
     ·rename_i i R4 he hi JC;split at hA
      ·rename_i z C8 QL hz;split at hA
       ·rename_i m g GM NH;cases hA;obtain ⟨e1,e1w⟩:=d7 h.toP (j9 s) hx;obtain ⟨e2,e2w⟩:=d7 h.toP (j9 s) hy;obtain ⟨hS,Vz⟩:=nR h.toP e2w NH;have iV:=(d6 _ _).1 C8;have Nv:=(d6 _ _).1 GM;have Gw:=(d6 _ _).1 he;have Jz:0<i.bytes:=by rw [Nat.blt_eq] at QL; exact QL
        obtain ⟨_,iQ⟩:=e1w;obtain ⟨rfl,rfl,rfl⟩:=iQ R hR;have x7:=(h.rows r R hR).2.1.own R4 JC;rw [Gw,<- iV] at x7;rw [<- iV] at hS;obtain ⟨q,cap,w',hr,ho,wL,hq,_⟩:=uF (P:=C.P) (w:=w) t u ty e i z hu hi hz Nv R.s R.n R.cap R.flat x7 (src.den ρ) m _ hS hb Jz;refine ⟨q,cap,w',?_,?_,?_,hR⟩
        ·simp only [resolve,a1n,a2i,Result.andThen_ok,invoke,builtin,List.map_toArray,a3h,List.map_nil,e1,e2];have:CV.den ρ (.one (.row r R.s R.n R.cap))=.slice R.s R.n R.cap:=rfl;rw [this,hr];rfl
        ·refine h.append hR R4 (news:=(a2f m).flatMap λi=>(g i).map SV.den0) (by rw [Gw,<- iV]; exact ho) wL hq get h1 ?_ (λj hj=>by rw [h2 j hj]; exact Vz j hj);have:∀ (l:List Nat),(∀ j∈l,j<m)->l.flatMap (λj=>(get (R.n+j)).map SV.den0)=l.flatMap (λj=>(g j).map SV.den0):=by
          intro l
          induction l with
          | nil=>intro _; rfl
          | cons c l ih=>intro hl; simp only [a2z]; rw [h2 c (hl c (a0f ..)),ih (λj hj=>hl j (a0e _ hj))]
         exact this _ (λj hj=>a3f.1 hj)
        ·refine ⟨wL.os,wL.tape,wL.output,wL.size,λk hk hn=>wL.block k hk (λe=>hn ?_)⟩;cases hs:R.s with
         | none=>rw [hs] at e; cases e
         | some ad=>rw [hs] at e; simp only [Value.ownBlock,a0l] at e; exact ⟨ad,hs,e.symm,.inl R4⟩
       ·cases hA
      ·cases hA
     ·cases hA
    ·cases hA
   ·cases hA
  ·cases hA
 ·cases hA
def Wi (c:Cfg):Option Oper :=
 match c.todo with
 | .inRegion ops (i::_)::_=>ops[i]?
 | _=>none
def fa (o:Oper):Option Call :=
 match o.op with
 | .call cl=>some cl
 | _=>none
def qD (P:Program) (c:Cfg):Option App :=
 match c.todo with
 | .inRegion ops (i::_)::_=>match ops[i]? with
  | some o=>match L7 c.st ops o.guard with
   | .yes=>match fa o with
    | some cl=>AH P c.st cl
    | none=>none
   | _=>none
  | none=>none
 | _=>none
def u0 (c:Cfg) (s:St) (v:RV):Cfg:=(j5 c s v).getD ⟨[],c.st⟩
theorem x4 {c:Cfg} {s:St} {v:RV} (h:(j5 c s v).isSome=true):j5 c s v=some (u0 c s v):=by
 obtain ⟨c',hc⟩:=a2o.1 h;simp [u0,hc]
theorem V.append (A:App) (get:Nat->List SV) {c:Cfg} (hA:qD C.P c=some A) (hb:(A.R.n+A.m)*A.bytes<=140737488355328)
  (h1:∀ i,i<A.R.n->get i=A.R.get i) (h2:∀ i,i<A.m->get (A.R.n+i)=A.get i)
  (I9:∀ q cap,(j5 c (c.st.rowTo A.r (A.R.next q A.m cap get)) (.v (.one (.row c.st.nr q (A.R.n+A.m) cap)))).isSome=true)
  (k:∀ q cap,V C (u0 c (c.st.rowTo A.r (A.R.next q A.m cap get)) (.v (.one (.row c.st.nr q (A.R.n+A.m) cap))))):V C c:=by
 intro ρ a w hS;obtain ⟨todo,st⟩:=c;unfold qD at hA;simp only at hA I9 k hS ⊢;split at hA
 ·rename_i ops i l k';split at hA
  ·rename_i o ho;split at hA
   ·rename_i hg;split at hA
    ·rename_i cl U4;obtain ⟨q,cap,w',hr,uh,_,hR⟩:=nS (ty:=o.type) hS hA hb get h1 h2;have f7:o.op=.call cl:=by
      unfold fa at U4;split at U4
      ·rename_i e; cases U4; exact e
      ·cases U4
     refine Ok.op_value ho (D5 hS hg) (by unfold execOp; rw [f7]; exact hr) ?_;have lJ:=x4 (I9 q cap);have hk:=k q cap;revert hk;generalize u0 _ _ _=c' at lJ;intro hk;simp only [j5,ho] at lJ;split at lJ
     ·rename_i s' o9;cases lJ;have iQ:(RV.v (.one (.row st.nr q (A.R.n+A.m) cap))).wf (st.rowTo A.r (A.R.next q A.m cap get)).W:=by
       refine ⟨a3p _,λR hR=>?_⟩;simp only [St.rowTo,St.W,look,a4h] at hR;cases hR;exact ⟨rfl,rfl,rfl⟩
      exact hk ρ _ _ (uh.put o9 iQ (λg pol b x e=>by cases e))
     ·cases lJ
    ·cases hA
   ·cases hA
  ·cases hA
 ·cases hA
theorem V.nil (t:Nat) (e:TypeId) (size:Nat) (get:Nat->List SV) {c:Cfg} (hl:look c.st.slots t=some (.v (.one (.val (.slice none 0 0))))) (hg:p5 c.st.gs t=false)
  (h:V C ⟨c.todo,{ c.st with slots:=upd c.st.slots t (.v (.one (.row c.st.nr none 0 0))),rows:=(c.st.nr,⟨none,0,0,e,size,get,true,none⟩)::c.st.rows,nr:=c.st.nr+1 }⟩):V C c:=by
 intro ρ a w hS;have h1:=hS.nilRow e size get;refine h ρ a w ⟨h1.n,?_,?_,h1.heap,h1.inj,h1.lt,h1.defers,h1.chg,h1.rows,h1.rowsD,h1.pers,h1.fix⟩
 ·intro i v hv;simp only [s8] at hv;by_cases e':t=i
  ·rw [if_pos e'] at hv;cases hv;refine ⟨?_,⟨a3p _,λR hR=>?_⟩⟩
   ·have:=(hS.slots t _ hl).1;rw [<- e',this];rfl
   ·simp only [St.W,look,a4h] at hR;cases hR;exact ⟨rfl,rfl,rfl⟩
  ·rw [if_neg e'] at hv;exact h1.slots i v hv
 ·intro i g pol b x hv;simp only [s8] at hv ⊢;by_cases e':t=i
  ·rw [if_pos e'] at hv; cases hv
  ·rw [if_neg e'] at hv;obtain ⟨k1,k2⟩:=hS.grds i g pol b x hv;refine ⟨k1,?_⟩;rw [if_neg (λe2=>by rw [e2,k1] at hg; cases hg)];exact k2
end
end Go.SX
end
section
namespace Go.SX
open Go
def dm (P:Program) (c:Cfg):Option (Nat×Row) :=
 match c.todo with
 | .inRegion ops (i::_)::_=>match ops[i]? with
  | some o=>match L7 c.st ops o.guard with
   | .yes=>match o.op with
    | .convert src dst x=>match P.underlying src,P.underlying dst,ev c.st none x with
     | some (.slice e),some .string,some (.one (.row r _ _ _))=>match P.underlying e,look c.st.rows r with
      | some (.int .u8),some R=>match a1m R.size 1 with
       | true=>some (r,R)
       | false=>none
      | _,_=>none
     | _,_,_=>none
    | _=>none
   | _=>none
  | none=>none
 | _=>none
section
variable {C:Ctx} {ρ:Nat->Nat} {s:St} {a:Act} {w:World}
theorem kL {R:Row} {w:World} {P:Program} (h:R.ok w) (hs:R.size=1) {l:List UInt8} (hl:l.length=R.n) (hg:∀ i,i<R.n->R.get i=[.int .u8 ((l.getD i 0).toNat:Int)]) :
  (Conv.bytesToString (.slice R.s R.n R.cap)).run P w=.ok (.string ⟨l.toArray⟩) w:=by
 by_cases hn:R.n=0
 ·have:l=[]:=a5m (by omega);subst this;cases N6:R.s with
  | none=>rfl
  | some ad =>
   rw [hn];have h0:(loadCells ad 0).run P w=.ok #[] w:=rfl;have:=run_bytesToString (P:=P) w ad 0 R.cap [] (by simpa using h0);rw [this]; rfl
 ·obtain ⟨b,off,e1,e2⟩:=h.addr (by omega);rw [e1];have hc:=run_loadCells_list (P:=P) w ⟨b,off,none⟩ ((l.map (λb=>(b.toNat:Int))).map (Value.int .u8)) (by
   intro j v hj;simp only [a2t,a1y] at hj;obtain ⟨y,⟨x,hx,rfl⟩,rfl⟩:=hj;have UI:j<l.length:=(a2l.1 hx).1;have:=e2 j 0 (.int .u8 ((l.getD j 0).toNat:Int)) (by omega) (by rw [hg j (by omega)]; rfl);rw [hs,Nat.mul_one,Nat.add_zero] at this;rw [y4,this];simp [SV.den0,SV.den,a0r,hx])
  have n8:((l.map (λb=>(b.toNat:Int))).map (Value.int .u8)).length=R.n:=by simp [hl]
  rw [n8] at hc;rw [run_bytesToString (P:=P) w ⟨b,off,none⟩ R.n R.cap _ hc,foldl_push_byteCells];simp [ByteArray.empty,ByteArray.emptyWithCapacity];rfl
theorem V.bytes (r:Nat) (R:Row) (l:List UInt8) {c:Cfg} (hc:dm C.P c=some (r,R)) (hl:l.length=R.n) (hg:∀ i,i<R.n->R.get i=[.int .u8 ((l.getD i 0).toNat:Int)])
  (I9:(j5 c c.st (.v (.one (.str l)))).isSome=true) (k:V C (u0 c c.st (.v (.one (.str l))))):V C c:=by
 intro ρ a w hS;obtain ⟨todo,st⟩:=c;unfold dm at hc;simp only at hc I9 k hS ⊢;split at hc
 ·rename_i ops i l' k';split at hc
  ·rename_i o ho;split at hc
   ·rename_i Qn;split at hc
    ·rename_i src dst x f7;split at hc
     ·rename_i e r' q n cap h1 h2 hx;split at hc
      ·rename_i R' he hR;split at hc
       ·rename_i C8;cases hc;obtain ⟨e1,hr,iQ⟩:=d7 hS.toP (j9 st) hx;obtain ⟨rfl,rfl,rfl⟩:=iQ R hR;have hb:=kL (P:=C.P) (hS.rows r R hR).2.1 ((d6 _ _).1 C8) hl hg;have lJ:=x4 I9;revert k;generalize u0 _ _ _=c' at lJ;intro k;simp only [j5,ho] at lJ;split at lJ
        ·rename_i s' o9;cases lJ;refine Ok.op_value ho (D5 hS Qn) (v:=(RV.v (.one (.str l))).den ρ) (w':=w) ?_ (k ρ _ _ (hS.put o9 trivial (λg pol b x e=>by cases e)));have:(convert src dst (.slice R.s R.n R.cap)).run C.P w=.ok (.string ⟨l.toArray⟩) w:=by
          rw [run_convert_bytes_string w src dst e _ _ _ h1 he h2]; exact hb
         unfold execOp;rw [f7];refine H1 ?_;rw [e1];exact this
        ·cases lJ
       ·cases hc
      ·cases hc
     ·cases hc
    ·cases hc
   ·cases hc
  ·cases hc
 ·cases hc
structure JK (w w':World) (rs:List (Nat×Row)) (ps:List m6):Prop where
 rows:∀ r R,look rs r=some R->R.ok w'/\∀ k,R.uses k->w.heap.size<=k/\k<w'.heap.size
 rowsD:∀ r r' R R',look rs r=some R->look rs r'=some R'->r≠r'->R.own=true->∀ k,R.uses k->¬ R'.uses k
 pers:∀ p∈ps,p.φ w'/\(∀ w2,(∀ k,p.D k->w2.heap[k]?=w'.heap[k]?)->p.φ w2)/\∀ k,p.D k->w.heap.size<=k/\k<w'.heap.size/\∀ r R,look rs r=some R->R.own=true->¬ R.uses k
def F3 (n:Nat):List Row->List (Nat×Row)
 | []=>[]
 | R::l=>(n,R)::F3 (n+1) l
def s7 {α:Type}:List α->List α->List α
 | [],m=>m
 | x::l,m=>x::s7 l m
theorem L1 {α:Type}:∀ {l m:List (Nat×α)} {i:Nat} {v:α},look (s7 l m) i=some v->look l i=some v∨look m i=some v
 | [],_,_,_,h=>.inr h
 | (k,u)::l,m,i,v,h=>by
  simp only [s7,look] at h ⊢;cases hk:a1m k i with
  | true=>rw [hk] at h; exact .inl h
  | false=>rw [hk] at h; exact L1 h
theorem ci:∀ {l:List Row} {n i:Nat} {R:Row},look (F3 n l) i=some R->n<=i/\i<n+l.length/\l[i - n]?=some R
 | [],n,i,R,h=>by simp [F3,look] at h
 | Q::l,n,i,R,h=>by
  simp only [F3,look] at h;split at h
  ·rename_i e;cases h;have:=(d6 _ _).1 e;subst this;exact ⟨a0q _,by simp,by simp⟩
  ·obtain ⟨h1,h2,h3⟩:=ci h;refine ⟨by omega,by simp; omega,?_⟩;rw [show i - n=(i - (n+1))+1 by omega];simpa using h3
def St.more (s:St) (rows:List Row) (pers:List m6):St :=
 { s with rows:=s7 (F3 s.nr rows) s.rows,nr:=s.nr+rows.length,pers:=s7 pers s.pers }
theorem yO (s:St) (rows:List Row) (pers:List m6):s.W.le (s.more rows pers).W:=by
 refine ⟨a0q _,a0m _ _,λr hr R hR=>?_⟩;have eQ:r<s.nr:=hr;rcases L1 hR with h | h
 ·have:=(ci h).1; omega
 ·exact h
theorem fb {α:Type}:∀ {l m:List α} {x:α},x∈s7 l m->x∈l∨x∈m
 | [],_,_,h=>.inr h
 | y::l,m,x,h=>by
  rcases a0k.1 h with rfl | h
  ·exact .inl (a0f ..)
  ·rcases fb h with h | h
   ·exact .inl (a0e _ h)
   ·exact .inr h
theorem Sat.more (h:Sat C ρ s a w) {w':World} (hc:Chg (λ_=>False) w w') {rows:List Row} {pers:List m6} (hF:JK w w' (F3 s.nr rows) pers):Sat C ρ (s.more rows pers) a w':=by
 have h':=h.below hc;have B0:=yO s rows pers;refine ⟨h'.n,λi v hv=>⟨(h'.slots i v hv).1,RV.wf_mono B0 v (h'.slots i v hv).2⟩,h'.grds,?_,h'.inj,h'.lt,h'.defers,h'.chg,?_,?_,?_,h'.fix⟩
 ·intro b blk hb;obtain ⟨k1,k2,k3,k4⟩:=h'.heap b blk hb;exact ⟨k1,k2,λx hx=>SV.wf_mono B0 x (k3 x hx),k4⟩
 ·intro r R hR;rcases L1 hR with hl | hl
  ·obtain ⟨n1,n2,_⟩:=ci hl;obtain ⟨k1,k2⟩:=hF.rows r R hl;refine ⟨n2,k1,λk hk=>⟨(k2 k hk).2,λb hb=>?_,λ_=>.inl (a0n h.chg.size (k2 k hk).1)⟩⟩;have:=h.lt b hb;have:=(k2 k hk).1;omega
  ·obtain ⟨k0,k1,k2⟩:=h'.rows r R hl;exact ⟨a1b k0 (a0m _ _),k1,k2⟩
 ·intro r r' R R' hR G8 E0 ho k hk eD;rcases L1 hR with hl | hl<;>rcases L1 G8 with NF | NF
  ·exact hF.rowsD r r' R R' hl NF E0 ho k hk eD
  ·have:=((hF.rows r R hl).2 k hk).1;have:=((h.rows r' R' NF).2.2 k eD).1;omega
  ·have:=((hF.rows r' R' NF).2 k eD).1;have:=((h.rows r R hl).2.2 k hk).1;omega
  ·exact h'.rowsD r r' R R' hl NF E0 ho k hk eD
 ·intro p hp;rcases fb hp with hm | hm
  ·obtain ⟨p1,p2,p3⟩:=hF.pers p hm;refine ⟨p1,p2,λk hD=>?_⟩;obtain ⟨u1,u2,u3⟩:=p3 k hD;refine ⟨u2,λb hb=>?_,λr R hR ho hu=>?_⟩
   ·have:=h.lt b hb; omega
   ·rcases L1 hR with hl | hl
    ·exact u3 r R hl ho hu
    ·have:=((h.rows r R hl).2.2 k hu).1; omega
  ·obtain ⟨p1,p2,p3⟩:=h'.pers p hm;obtain ⟨_,_,q3⟩:=h.pers p hm;refine ⟨p1,p2,λk hD=>⟨(p3 k hD).1,(p3 k hD).2.1,λr R hR ho hu=>?_⟩⟩;rcases L1 hR with hl | hl
   ·have:=((hF.rows r R hl).2 k hu).1;have:=(q3 k hD).1;omega
   ·exact (p3 k hD).2.2 r R hl ho hu
theorem su (f:FuncId) (xs:List CV) (v:RV) {c:Cfg} (hc:I4 c=some (none,f,xs)) (bG:∀ args w,(callFunc f args).run C.P w=.ok (.enter f args) w)
  (I9:(j5 c c.st v).isSome=true) (hv:v.wf c.st.W) (Cb:∀ g pol b x,v≠.grd g pol b x)
  (h:∀ ρ a w,Sat C ρ c.st a w->Calls C.P f (xs.map (CV.den ρ)).toArray w (u6 (v.den ρ) w)) (k:V C (u0 c c.st v)):V C c :=
 V.call f xs v hc bG (x4 I9) hv Cb h k
theorem uG (g:Nat) (pol b:Bool) (f:FuncId) (xs:List CV) (x:CV) {c:Cfg} (hc:I4 c=some (some (g,pol,b),f,xs)) (bG:∀ args w,(callFunc f args).run C.P w=.ok (.enter f args) w)
  (I9:(j5 c { c.st with gs:=M4 c.st.gs g } (.grd g pol b x)).isSome=true) (hv:x.wf c.st.W)
  (h:b=pol->∀ ρ a w,Sat C ρ c.st a w->Calls C.P f (xs.map (CV.den ρ)).toArray w (u6 (x.den ρ) w))
  (k:V C (u0 c { c.st with gs:=M4 c.st.gs g } (.grd g pol b x))):V C c :=
 Hb g pol b f xs x hc bG (x4 I9) hv h k
end
end Go.SX
end
section
namespace Go.SX
open Go
def d5 {α:Type} (f:α->List SV) (d:α) (l:List α) (q:Option Addr) (cap:Nat) (e:TypeId) (sz:Nat) (own:Bool):Row:=⟨q,l.length,cap,e,sz,λi=>f (l.getD i d),own,none⟩
def fW (A:App):Nat×Row×Nat×List SV×Nat:=(A.r,A.R,A.m,A.get 0,A.bytes)
theorem aG {α:Type} (l m:List α) (d:α) (i:Nat) (hi:i<l.length):(l++m).getD i d=l.getD i d:=by
 simp [a0r,a6x hi]
theorem bb {α:Type} (l m:List α) (d:α) (i:Nat):(l++m).getD (l.length+i) d=m.getD i d:=by
 simp [a0r,a6o]
section
variable {C:Ctx} {ρ:Nat->Nat} {s:St} {a:Act} {w:World}
theorem V.push {α:Type} (f:α->List SV) (d:α) (l:List α) (x:α) (r:Nat) (q:Option Addr) (cap:Nat) (e:TypeId) (sz:Nat) (xs:List SV) (bytes:Nat) {c:Cfg}
  (hA:(qD C.P c).map fW=some (r,d5 f d l q cap e sz true,1,xs,bytes)) (hb:(l.length+1)*bytes<=140737488355328) (hx:f x=xs)
  (I9:∀ q cap,(j5 c (c.st.rowTo r (d5 f d (l++[x]) q cap e sz true)) (.v (.one (.row c.st.nr q (l++[x]).length cap)))).isSome=true)
  (k:∀ q cap,V C (u0 c (c.st.rowTo r (d5 f d (l++[x]) q cap e sz true)) (.v (.one (.row c.st.nr q (l++[x]).length cap))))):V C c:=by
 cases da:qD C.P c with
 | none=>rw [da] at hA; cases hA
 | some A =>
  rw [da] at hA;simp only [a2u,fW,a0l,a1f] at hA;obtain ⟨e1,e2,e3,e4,e5⟩:=hA;have n8:(l++[x]).length=l.length+1:=by simp
  have W3:∀ q cap,A.R.next q A.m cap (λi=>f ((l++[x]).getD i d))=d5 f d (l++[x]) q cap e sz true:=by
   intro q cap;rw [e2,e3];simp only [Row.next,d5,n8]
  have hn:A.R.n+A.m=(l++[x]).length:=by rw [e2,e3,n8]; rfl
  refine V.append A (λi=>f ((l++[x]).getD i d)) da (by rw [e2,e3,e5]; exact hb) ?_ ?_ ?_ ?_
  ·intro i hi;rw [e2] at hi ⊢;have ao:i<l.length:=hi;show f ((l++[x]).getD i d)=f (l.getD i d);rw [aG _ _ _ _ ao]
  ·intro i hi;rw [e3] at hi;have:i=0:=by omega
   subst this;rw [e2,e4,<- hx];show f ((l++[x]).getD (l.length+0) d)=f x;rw [bb]; rfl
  ·intro q cap; rw [e1,W3,hn]; exact I9 q cap
  ·intro q cap; rw [e1,W3,hn]; exact k q cap
theorem V.pushes {α:Type} (f:α->List SV) (d:α) (l ys:List α) (r:Nat) (q:Option Addr) (cap:Nat) (e:TypeId) (sz:Nat) (m:Nat) (get:Nat->List SV) (bytes:Nat) {c:Cfg}
  (hA:(qD C.P c).map (λA=>(A.r,A.R,A.m,A.get,A.bytes))=some (r,d5 f d l q cap e sz true,m,get,bytes)) (hm:m=ys.length) (hb:(l.length+m)*bytes<=140737488355328)
  (hx:∀ i,i<m->f (ys.getD i d)=get i)
  (I9:∀ q cap,(j5 c (c.st.rowTo r (d5 f d (l++ys) q cap e sz true)) (.v (.one (.row c.st.nr q (l++ys).length cap)))).isSome=true)
  (k:∀ q cap,V C (u0 c (c.st.rowTo r (d5 f d (l++ys) q cap e sz true)) (.v (.one (.row c.st.nr q (l++ys).length cap))))):V C c:=by
 cases da:qD C.P c with
 | none=>rw [da] at hA; cases hA
 | some A =>
  rw [da] at hA;simp only [a2u,a0l,a1f] at hA;obtain ⟨e1,e2,e3,e4,e5⟩:=hA;have n8:(l++ys).length=l.length+m:=by simp [hm]
  have W3:∀ q cap,A.R.next q A.m cap (λi=>f ((l++ys).getD i d))=d5 f d (l++ys) q cap e sz true:=by
   intro q cap;rw [e2,e3];simp only [Row.next,d5,n8]
  have hn:A.R.n+A.m=(l++ys).length:=by rw [e2,e3,n8]; rfl
  refine V.append A (λi=>f ((l++ys).getD i d)) da (by rw [e2,e3,e5]; exact hb) ?_ ?_ ?_ ?_
  ·intro i hi;rw [e2] at hi ⊢;have ao:i<l.length:=hi;show f ((l++ys).getD i d)=f (l.getD i d);rw [aG _ _ _ _ ao]
  ·intro i hi;rw [e3] at hi;rw [e2,e4,<- hx i hi];show f ((l++ys).getD (l.length+i) d)=f (ys.getD i d);rw [bb]
  ·intro q cap; rw [e1,W3,hn]; exact I9 q cap
  ·intro q cap; rw [e1,W3,hn]; exact k q cap
theorem U9 {α:Type} (f:α->List SV) (d:α) (t:Nat) (e:TypeId) (sz:Nat) {c:Cfg} (hl:look c.st.slots t=some (.v (.one (.val (.slice none 0 0))))) (hg:p5 c.st.gs t=false)
  (h:V C ⟨c.todo,{ c.st with slots:=upd c.st.slots t (.v (.one (.row c.st.nr none 0 0))),rows:=(c.st.nr,d5 f d [] none 0 e sz true)::c.st.rows,nr:=c.st.nr+1 }⟩):V C c :=
 V.nil t e sz (λi=>f (([]:List α).getD i d)) hl hg h
def bsv (b:UInt8):List SV:=[.int .u8 (b.toNat:Int)]
theorem fX (l:List UInt8) (r:Nat) (q:Option Addr) (cap:Nat) (e:TypeId) (own:Bool) {c:Cfg} (hc:dm C.P c=some (r,d5 bsv 0 l q cap e 1 own))
  (I9:(j5 c c.st (.v (.one (.str l)))).isSome=true) (k:V C (u0 c c.st (.v (.one (.str l))))):V C c :=
 V.bytes r _ l hc rfl (λ_ _=>rfl) I9 k
def Rw (fn:Func) (xs:List CV) (wr:Bool):Cfg:=⟨[.code (I5 fn)],st0 fn.ntmps xs [] 0 [] 0 [] wr⟩
end
end Go.SX
end
section
namespace Go.SX
open Go
structure x6 (ρ:Nat->Nat) (F:St) (w:World):Prop where
 heap:∀ b blk,look F.heap b=some blk->b<F.next/\w.heap[ρ b]?=some (.cells (blk.cells.map (SV.den ρ)).toArray blk.elem (0,0))/\(∀ x∈blk.cells,x.wf F.W)
 inj:∀ b c,b<F.next->c<F.next->ρ b=ρ c->b=c
 lt:∀ b,b<F.next->ρ b<w.heap.size
 rows:∀ r R,look F.rows r=some R->r<F.nr/\R.ok w/\∀ k,R.uses k->k<w.heap.size/\(∀ b,b<F.next->ρ b≠k)
 rowsD:∀ r r' R R',look F.rows r=some R->look F.rows r'=some R'->r≠r'->R.own=true->∀ k,R.uses k->¬ R'.uses k
 pers:∀ p∈F.pers,p.φ w/\(∀ w',(∀ k,p.D k->w'.heap[k]?=w.heap[k]?)->p.φ w') /\
  ∀ k,p.D k->k<w.heap.size/\(∀ b,b<F.next->ρ b≠k)/\∀ r R,look F.rows r=some R->R.own=true->¬ R.uses k
def n6 (ρ:Nat->Nat) (F:St) (k:Nat):Prop :=
 (∃ b blk,look F.heap b=some blk/\blk.rw=true/\ρ b=k)∨∃ r R,look F.rows r=some R/\R.own=true/\R.uses k
def dn (F:St) (k:Nat):Prop:=∃ r R,look F.rows r=some R/\R.uses k
theorem Sat.toF {C:Ctx} {ρ:Nat->Nat} {s:St} {a:Act} {w:World} (h:Sat C ρ s a w):x6 ρ s w :=
 ⟨λb blk hb=>⟨(h.heap b blk hb).1,(h.heap b blk hb).2.1,(h.heap b blk hb).2.2.1⟩,h.inj,h.lt,λr R hR=>⟨(h.rows r R hR).1,(h.rows r R hR).2.1,λk hk=>⟨((h.rows r R hR).2.2 k hk).1,((h.rows r R hR).2.2 k hk).2.1⟩⟩,h.rowsD,h.pers⟩
def V0 {α:Type} (ρ:Nat->Nat) (F:St) (p:α->Prop) (v:α->RV) (F':α->St) (w:World) (e:Ending) (w':World):Prop :=
 ∃ x,p x/\e=.returned ((v x).den ρ)/\x6 ρ (F' x) w'/\(F' x).next=F.next/\(∀ b,b<F.next->∃ blk,look (F' x).heap b=some blk)/\(v x).wf (F' x).W/\Chg (n6 ρ F) w w' /\
  (∀ b blk,look (F' x).heap b=some blk->blk.rw=true->∃ blk0,look F.heap b=some blk0/\blk0.rw=true) /\
  (∀ r R,look (F' x).rows r=some R->∀ k,R.uses k->(R.own=true/\n6 ρ F k)∨(R.own=false/\dn F k)∨w.heap.size<=k)
def SV.bring (hs:List Nat) (nr:Nat):SV->SV
 | .ptr b off=>.ptr (hs.getD b 0) off
 | .fn f cap=>.fn f (cap.map λb=>hs.getD b 0)
 | .sli b n cap=>.sli (hs.getD b 0) n cap
 | .row r q n cap=>.row (nr+r) q n cap
 | .el r q size i j=>.el (nr+r) q size i j
 | x=>x
def CV.bring (hs:List Nat) (nr:Nat):CV->CV
 | .one x=>.one (x.bring hs nr)
 | .agg xs=>.agg (xs.map (SV.bring hs nr))
def RV.bring (hs:List Nat) (nr:Nat):RV->RV
 | .v x=>.v (x.bring hs nr)
 | .tup xs=>.tup (xs.map (CV.bring hs nr))
 | .grd g pol c x=>.grd g pol c (x.bring hs nr)
def cz (hs:List Nat) (nr:Nat) (hp:List (Nat×Blk)):List (Nat×Blk)->List (Nat×Blk)
 | []=>hp
 | (b,blk)::l=>upd (cz hs nr hp l) (hs.getD b 0) ⟨blk.cells.map (SV.bring hs nr),blk.elem,blk.rw⟩
def G9 (nr:Nat) (rows:List (Nat×Row)):List (Nat×Row)->List (Nat×Row)
 | []=>rows
 | (r,R)::l=>(nr+r,R)::G9 nr rows l
def H4 {α:Type} (rs:List Nat):List (Nat×α)->List (Nat×α)
 | []=>[]
 | (k,v)::l=>match p5 rs k with
  | true=>H4 rs l
  | false=>(k,v)::H4 rs l
def L8:List (Nat×Blk)->Bool
 | []=>true
 | (b,_)::l=>match look l b with
  | some _=>false
  | none=>L8 l
def St.bring (s:St) (hs rs:List Nat) (F:St):St :=
 { s with heap:=cz hs s.nr s.heap F.heap,rows:=G9 s.nr (H4 rs s.rows) F.rows,nr:=s.nr+F.nr }
theorem SV.bring_den {ρ:Nat->Nat} {hs:List Nat} {nr:Nat} (x:SV):(x.bring hs nr).den ρ=x.den (λi=>ρ (hs.getD i 0)):=by
 cases x with
 | fn f cap=>simp only [SV.bring,SV.den,a3q]; rfl
 | _=>rfl
theorem dp {ρ:Nat->Nat} {hs:List Nat} {nr:Nat} (xs:List SV):(xs.map (SV.bring hs nr)).map (SV.den ρ)=xs.map (SV.den (λi=>ρ (hs.getD i 0))):=by
 rw [a3q]; exact a2g λx _=>SV.bring_den x
theorem CV.bring_den {ρ:Nat->Nat} {hs:List Nat} {nr:Nat} (x:CV):(x.bring hs nr).den ρ=x.den (λi=>ρ (hs.getD i 0)):=by
 cases x with
 | one x=>exact SV.bring_den x
 | agg xs=>simp only [CV.bring,CV.den,dp]
theorem RV.bring_den {ρ:Nat->Nat} {hs:List Nat} {nr:Nat} (x:RV):(x.bring hs nr).den ρ=x.den (λi=>ρ (hs.getD i 0)):=by
 cases x with
 | v x=>exact CV.bring_den x
 | tup xs=>simp only [RV.bring,RV.den,a3q]; congr 2; exact a2g λx _=>CV.bring_den x
 | grd g pol c x=>simp only [RV.bring,RV.den,CV.bring_den]
section
variable {W W':WF} {hs:List Nat} {nr:Nat} (hn:∀ b,b<W.n->hs.getD b 0<W'.n) (hr:nr+W.nr<=W'.nr) (r7:∀ r R,look W'.rows (nr+r)=some R->look W.rows r=some R)
include hn hr r7
theorem SV.bring_wf (x:SV) (h:x.wf W):(x.bring hs nr).wf W':=by
 cases x with
 | ptr b off=>exact hn b h
 | fn f cap=>intro c hc; obtain ⟨b,hb,rfl⟩:=a1d.1 hc; exact hn b (h b hb)
 | sli b n cap=>exact hn b h
 | row r q n cap=>exact ⟨by have:=h.1; omega,λR hR=>h.2 R (r7 r R hR)⟩
 | el r q size i j=>exact ⟨by have:=h.1; omega,λR hR=>h.2 R (r7 r R hR)⟩
 | _=>trivial
theorem CV.bring_wf (x:CV) (h:x.wf W):(x.bring hs nr).wf W':=by
 cases x with
 | one x=>exact SV.bring_wf hn hr r7 x h
 | agg xs=>intro y hy; obtain ⟨z,hz,rfl⟩:=a1d.1 hy; exact SV.bring_wf hn hr r7 z (h z hz)
theorem RV.bring_wf (x:RV) (h:x.wf W):(x.bring hs nr).wf W':=by
 cases x with
 | v x=>exact CV.bring_wf hn hr r7 x h
 | tup xs=>intro y hy; obtain ⟨z,hz,rfl⟩:=a1d.1 hy; exact CV.bring_wf hn hr r7 z (h z hz)
 | grd g pol c x=>exact λhc=>CV.bring_wf hn hr r7 x (h hc)
end
theorem o4 {α:Type} {rs:List Nat}:∀ {l:List (Nat×α)} {i:Nat} {v:α},look (H4 rs l) i=some v->i ∉ rs/\look l i=some v
 | [],i,v,h=>by simp [H4,look] at h
 | (k,u)::l,i,v,h=>by
  simp only [H4] at h;cases hk:p5 rs k with
  | true =>
   rw [hk] at h;obtain ⟨h1,h2⟩:=o4 h;refine ⟨h1,?_⟩;simp only [look];cases hi:a1m k i with
   | true=>have:=(d6 _ _).1 hi; subst this; exact absurd ((w9 rs k).1 hk) h1
   | false=>exact h2
  | false =>
   rw [hk] at h;simp only [look] at h ⊢;cases hi:a1m k i with
   | true =>
    rw [hi] at h;have:=(d6 _ _).1 hi;subst this;exact ⟨λhm=>(by rw [(w9 rs k).2 hm] at hk; cases hk),h⟩
   | false=>rw [hi] at h; exact o4 h
theorem v6 {nr:Nat} {rows:List (Nat×Row)}:∀ {l:List (Nat×Row)} {i:Nat} {R:Row},look (G9 nr rows l) i=some R->(∃ r,i=nr+r/\look l r=some R)∨look rows i=some R
 | [],i,R,h=>.inr h
 | (r,Q)::l,i,R,h=>by
  simp only [G9,look] at h;split at h
  ·rename_i e;cases h;exact .inl ⟨r,((d6 _ _).1 e).symm,by simp [look,a4h]⟩
  ·rename_i e;rcases v6 h with ⟨r',h1,h2⟩ | h2
   ·refine .inl ⟨r',h1,?_⟩;simp only [look];cases hb:a1m r r' with
    | true=>have:=(d6 _ _).1 hb; subst this; exact absurd h1.symm (C5 e)
    | false=>exact h2
   ·exact .inr h2
theorem Q7 {nr:Nat} {rows:List (Nat×Row)}:∀ {l:List (Nat×Row)} {r:Nat} {R:Row},look (G9 nr rows l) (nr+r)=some R->(∀ R',look rows (nr+r)≠some R')->look l r=some R
 | [],r,R,h,J8=>absurd h (J8 R)
 | (q,Q)::l,r,R,h,J8=>by
  simp only [G9,look] at h ⊢;cases hb:a1m q r with
  | true =>
   have:=(d6 _ _).1 hb;subst this;rw [a4h] at h;exact h
  | false =>
   have:a1m (nr+q) (nr+r)=false:=by
    cases hc:a1m (nr+q) (nr+r) with
    | true=>have:=(d6 _ _).1 hc; exact absurd (by omega) (C5 hb)
    | false=>rfl
   rw [this] at h;exact Q7 h J8
theorem bd {hs:List Nat} {nr:Nat} {hp:List (Nat×Blk)}:∀ {l:List (Nat×Blk)} {i:Nat} {blk:Blk},look (cz hs nr hp l) i=some blk ->
  (∃ b blk0,hs.getD b 0=i/\(b,blk0)∈l/\blk=⟨blk0.cells.map (SV.bring hs nr),blk0.elem,blk0.rw⟩)∨(look hp i=some blk/\∀ b blk0,(b,blk0)∈l->hs.getD b 0≠i)
 | [],i,blk,h=>.inr ⟨h,by simp⟩
 | (b,blk1)::l,i,blk,h=>by
  simp only [cz,s8] at h;by_cases e:hs.getD b 0=i
  ·rw [if_pos e] at h;cases h;exact .inl ⟨b,blk1,e,a0f ..,rfl⟩
  ·rw [if_neg e] at h;rcases bd h with ⟨b',blk0,h1,h2,h3⟩ | ⟨h1,h2⟩
   ·exact .inl ⟨b',blk0,h1,a0e _ h2,h3⟩
   ·refine .inr ⟨h1,λb' blk0 hm=>?_⟩;rcases a0k.1 hm with h | h
    ·cases h; exact e
    ·exact h2 b' blk0 h
theorem nT {α:Type}:∀ {l:List (Nat×α)} {b:Nat} {v:α},look l b=some v->(b,v)∈l
 | (k,u)::l,b,v,h=>by
  simp only [look] at h;cases hk:a1m k b with
  | true=>rw [hk] at h; cases h; have:=(d6 _ _).1 hk; subst this; exact a0f ..
  | false=>rw [hk] at h; exact a0e _ (nT h)
theorem bN:∀ {l:List (Nat×Blk)},L8 l=true->∀ b v,(b,v)∈l->look l b=some v
 | (k,u)::l,h,b,v,hm=>by
  simp only [L8] at h;split at h
  ·cases h
  ·rename_i J8;simp only [look];rcases a0k.1 hm with he | fS
   ·cases he; rw [a4h]
   ·cases hk:a1m k b with
    | true =>
     have:=(d6 _ _).1 hk;subst this;have:=bN h k v fS;rw [J8] at this; cases this
    | false=>exact bN h b v fS
section
variable {C:Ctx} {ρ:Nat->Nat} {s:St} {a:Act} {w w':World}
theorem Sat.bring (h:Sat C ρ s a w) {hs rs:List Nat} {pm:List Bool} {F F':St} (hp:o8 [] hs rs pm s=some F) (lQ:L8 F'.heap=true)
  (hF:x6 (λi=>ρ (hs.getD i 0)) F' w') (C4:F'.next=F.next) (hkeep:∀ b,b<F.next->∃ blk,look F'.heap b=some blk) (hc:Chg (n6 (λi=>ρ (hs.getD i 0)) F) w w')
  (A9:∀ b blk,look F'.heap b=some blk->blk.rw=true->∃ blk0,look F.heap b=some blk0/\blk0.rw=true)
  (hru:∀ r R,look F'.rows r=some R->∀ k,R.uses k->(R.own=true/\n6 (λi=>ρ (hs.getD i 0)) F k)∨(R.own=false/\dn F k)∨w.heap.size<=k) :
  Sat C ρ (s.bring hs rs F') a w'/\∀ v:RV,v.wf F'.W->(v.bring hs s.nr).wf (s.bring hs rs F').W:=by
 have JG:=(h.pick hp).toF;have G0:=hp;unfold o8 at G0;split at G0
 case h_2=>cases G0
 rename_i sl eR rows Qt QU rT rW r7;simp only [W8,a0l] at rT;have yx:=a2h G0;have Nl:F.next=hs.length:=by rw [<- yx]
 have yv:F.rows=rows:=by rw [<- yx]
 have Qx:F.heap=eR:=by rw [<- yx]
 have kr:∀ i,i<hs.length->hs.getD i 0<s.next/\∃ blk,look s.heap (hs.getD i 0)=some blk:=by
  intro i hi;have hm:hs.getD i 0∈hs:=by simp [a0r,a0b hi]
  have:∀ (l:List Nat) (i0:Nat) (r:List (Nat×Blk)),H2 hs rs s.heap l i0=some r->∀ b∈l,∃ blk,look s.heap b=some blk:=by
   intro l
   induction l with
   | nil=>intro i0 r _ b hb; simp at hb
   | cons c l ih =>
    intro i0 r hr b hb;simp only [H2] at hr;split at hr
    ·rename_i blk hc;split at hr
     ·split at hr
      ·rename_i r' eQ;rcases a0k.1 hb with rfl | hb
       ·exact ⟨blk,hc⟩
       ·exact ih _ _ eQ b hb
      ·cases hr
     ·cases hr
    ·cases hr
  obtain ⟨blk,hb⟩:=this hs 0 eR rW _ hm;exact ⟨(h.heap _ blk hb).1,blk,hb⟩
 -- what may be written,said of the caller's part
 have ah:∀ k,n6 (λi=>ρ (hs.getD i 0)) F k->(∃ b blk,b∈hs/\look s.heap b=some blk/\blk.rw=true/\ρ b=k)∨∃ r R,r∈rs/\look s.rows r=some R/\R.own=true/\R.uses k:=by
  rintro k (⟨b,blk,hb,hbrw,pV⟩ | ⟨r,R,hR,ho,hu⟩)
  ·rw [Qx] at hb;obtain ⟨c,blk0,_,h2,h3,_,_,h6⟩:=K9 rW b blk hb;simp only [a3e] at h2;have hg:hs.getD b 0=c:=by simp [a0r,h2]
   simp only [hg] at pV;exact .inl ⟨c,blk0,a0v h2,h3,by rw [<- h6]; exact hbrw,pV⟩
  ·rw [yv] at hR;obtain ⟨r2,_,h2,h3⟩:=p7 r7 r R hR;simp only [a3e] at h2;exact .inr ⟨r2,R,a0v h2,h3,ho,hu⟩
 have wD:∀ k,dn F k->∃ r R,r∈rs/\look s.rows r=some R/\R.uses k:=by
  rintro k ⟨r,R,hR,hu⟩;rw [yv] at hR;obtain ⟨r2,_,h2,h3⟩:=p7 r7 r R hR;simp only [a3e] at h2;exact ⟨r2,R,a0v h2,h3,hu⟩
 have U0:∀ k,k<w.heap.size->(∀ b blk,b∈hs->look s.heap b=some blk->ρ b≠k)->(∀ r R,r∈rs->look s.rows r=some R->R.own=true->¬ R.uses k)->w'.heap[k]?=w.heap[k]?:=by
  intro k hk h1 h2;refine hc.block k hk (λht=>?_);rcases ah k ht with ⟨b,blk,e1,e2,_,e4⟩ | ⟨r,R,e1,e2,e3,e4⟩
  ·exact h1 b blk e1 e2 e4
  ·exact h2 r R e1 e2 e3 e4
 have W3:∀ r R,look s.rows r=some R->r<s.nr:=λr R hR=>(h.rows r R hR).1;have hW:∀ r R,look (s.bring hs rs F').W.rows (s.nr+r)=some R->look F'.W.rows r=some R:=λr R hR =>
  Q7 hR (λR' G8=>by have:=W3 _ R' (o4 G8).2; omega)
 have GE:s.W.le (s.bring hs rs F').W:=by
  refine ⟨a0q _,a0m _ _,λr hr R hR=>?_⟩;have eQ:r<s.nr:=hr;rcases v6 hR with ⟨q,e,_⟩ | h2
  ·omega
  ·exact (o4 h2).2
 have ND:∀ x:SV,x.wf F'.W->(x.bring hs s.nr).wf (s.bring hs rs F').W :=
  λx hx=>SV.bring_wf (W:=F'.W) (W':=(s.bring hs rs F').W) (λb hb=>(kr b (by rw [<- Nl,<- C4]; exact hb)).1) (a0q _) hW x hx
 have uk:∀ r R,look F'.rows r=some R->R.own=true->∀ k,R.uses k->C.w0.heap.size<=k∨C.S k:=by
  intro r R hR ho k hk;rcases hru r R hR k hk with ⟨_,ht⟩ | ⟨J8,_⟩ | hf
  ·rcases ah k ht with ⟨b,blk,_,e2,e3,rfl⟩ | ⟨r2,R2,_,e2,e3,e4⟩
   ·exact (h.heap b blk e2).2.2.2 e3
   ·exact ((h.rows r2 R2 e2).2.2 k e4).2.2 e3
  ·rw [ho] at J8; cases J8
  ·exact .inl (a0n h.chg.size hf)
 have yK:∀ r R,look F'.rows r=some R->∀ k,R.uses k->∀ b,b<s.next->ρ b≠k:=by
  intro r R hR k hk b hb e;have eu:=((hF.rows r R hR).2.2 k hk).2;by_cases hm:b∈hs
  ·obtain ⟨i,hi,Cl⟩:=List.getElem_of_mem hm;exact eu i (by rw [C4,Nl]; exact hi) (by simp only [a0r,a0b hi,a1e,Cl]; exact e)
  ·rcases hru r R hR k hk with ⟨_,ht⟩ | ⟨_,hu⟩ | hf
   ·rcases ah k ht with ⟨b2,blk,m2,e2,_,e4⟩ | ⟨r2,R2,_,e2,_,e4⟩
    ·have:=h.inj b b2 hb (h.heap b2 blk e2).1 (e.trans e4.symm); subst this; exact hm m2
    ·exact ((h.rows r2 R2 e2).2.2 k e4).2.1 b hb e
   ·obtain ⟨r2,R2,_,e2,e4⟩:=wD k hu;exact ((h.rows r2 R2 e2).2.2 k e4).2.1 b hb e
   ·have:=h.lt b hb; omega
 -- a new row and an old one that stays
 have kp:∀ r R,look F'.rows r=some R->∀ q Q,q ∉ rs->look s.rows q=some Q->(R.own=true∨Q.own=true)->∀ k,R.uses k->Q.uses k->False:=by
  intro r R hR q Q hq hQ ho k hk eD;rcases hru r R hR k hk with ⟨_,ht⟩ | ⟨J8,hu⟩ | hf
  ·rcases ah k ht with ⟨b,blk,_,e2,_,e4⟩ | ⟨r2,R2,m2,e2,e3,e4⟩
   ·exact ((h.rows q Q hQ).2.2 k eD).2.1 b (h.heap b blk e2).1 e4
   ·exact h.rowsD r2 q R2 Q e2 hQ (λe=>hq (e▸m2)) e3 k e4 eD
  ·obtain ⟨r2,R2,m2,e2,e4⟩:=wD k hu;rcases ho with ho | ho
   ·rw [ho] at J8; cases J8
   ·exact h.rowsD q r2 Q R2 hQ e2 (λe=>hq (e▸m2)) ho k eD e4
  ·have:=((h.rows q Q hQ).2.2 k eD).1; omega
 refine ⟨⟨h.n,λi v hv=>⟨(h.slots i v hv).1,RV.wf_mono GE v (h.slots i v hv).2⟩,h.grds,?_,h.inj,λb hb=>a1b (h.lt b hb) hc.size,h.defers,?_,?_,?_,?_,h.fix⟩,
    λv hv=>RV.bring_wf (W:=F'.W) (W':=(s.bring hs rs F').W) (λb hb=>(kr b (by rw [<- Nl,<- C4]; exact hb)).1) (a0q _) hW v hv⟩
 ·intro b blk hb;rcases bd hb with ⟨i,blk0,e1,e2,rfl⟩ | ⟨e1,e2⟩
  ·have hl:=bN lQ i blk0 e2;obtain ⟨k1,k2,k3⟩:=hF.heap i blk0 hl;have hi:i<hs.length:=by rw [<- Nl,<- C4]; exact k1
   subst e1;refine ⟨(kr i hi).1,?_,?_,?_⟩
   ·simp only [dp]; exact k2
   ·intro x hx; obtain ⟨y,hy,rfl⟩:=a1d.1 hx; exact ND y (k3 y hy)
   ·intro NJ;obtain ⟨blk1,f1,f2⟩:=A9 i blk0 hl NJ;rw [Qx] at f1;obtain ⟨c,blk2,_,h2,h3,_,_,h6⟩:=K9 rW i blk1 f1;simp only [a3e] at h2;have hg:hs.getD i 0=c:=by simp [a0r,h2]
    rw [hg];exact (h.heap c blk2 h3).2.2.2 (by rw [<- h6]; exact f2)
  ·obtain ⟨k1,k2,k3,k4⟩:=h.heap b blk e1;refine ⟨k1,?_,λx hx=>SV.wf_mono GE x (k3 x hx),k4⟩;by_cases hm:b∈hs
   ·obtain ⟨i,hi,Cl⟩:=List.getElem_of_mem hm;obtain ⟨blk',B8⟩:=hkeep i (by rw [Nl]; exact hi);exact absurd (by simp only [a0r,a0b hi,a1e,Cl]) (e2 i blk' (nT B8))
   ·rw [U0 _ (h.lt b k1) (λc blk' GR U4 e=>hm (h.inj c b (h.heap c blk' U4).1 k1 e▸GR)) (λr R _ hR _ hu=>((h.rows r R hR).2.2 _ hu).2.1 b k1 rfl)];exact k2
 ·refine h.chg.trans hc (λk ht=>?_);rcases ah k ht with ⟨b,blk,_,e2,e3,rfl⟩ | ⟨r2,R2,_,e2,e3,e4⟩
  ·exact (h.heap b blk e2).2.2.2 e3
  ·exact ((h.rows r2 R2 e2).2.2 k e4).2.2 e3
 ·intro r R hR;rcases v6 hR with ⟨q,rfl,hq⟩ | hq
  ·obtain ⟨k0,k1,k2⟩:=hF.rows q R hq;exact ⟨by show s.nr+q<s.nr+F'.nr; omega,k1,λk hk=>⟨(k2 k hk).1,yK q R hq k hk,λho=>uk q R hq ho k hk⟩⟩
  ·obtain ⟨wM,hl⟩:=o4 hq;obtain ⟨k0,k1,k2⟩:=h.rows r R hl;refine ⟨a1b k0 (a0m _ _),k1.congr (λk hk=>U0 k (k2 k hk).1 (λb blk _ hb e=>(k2 k hk).2.1 b (h.heap b blk hb).1 e) (λq Q hq hQ ho hu=>h.rowsD q r Q R hQ hl (λe=>wM (e▸hq)) ho k hu hk)),λk hk=>⟨a1b (k2 k hk).1 hc.size,(k2 k hk).2⟩⟩
 ·intro r1 r2 R1 R2 h1 h2 E0 ho k eP eu;rcases v6 h1 with ⟨q1,rfl,l1⟩ | l1<;>rcases v6 h2 with ⟨q2,rfl,l2⟩ | l2
  ·exact hF.rowsD q1 q2 R1 R2 l1 l2 (λe=>E0 (by rw [e])) ho k eP eu
  ·obtain ⟨m2,l2'⟩:=o4 l2;exact kp q1 R1 l1 r2 R2 m2 l2' (.inl ho) k eP eu
  ·obtain ⟨m1,l1'⟩:=o4 l1;exact kp q2 R2 l2 r1 R1 m1 l1' (.inr ho) k eu eP
  ·exact h.rowsD r1 r2 R1 R2 (o4 l1).2 (o4 l2).2 E0 ho k eP eu
 ·intro p hp;obtain ⟨p1,p2,p3⟩:=h.pers p hp;have hk:∀ k,p.D k->w'.heap[k]?=w.heap[k]?:=λk hD =>
   U0 k (p3 k hD).1 (λb blk _ hb e=>(p3 k hD).2.1 b (h.heap b blk hb).1 e) (λr R _ hR ho hu=>(p3 k hD).2.2 r R hR ho hu)
  refine ⟨p2 _ hk,λw2 bY=>p2 w2 (λk hD=>(bY k hD).trans (hk k hD)),λk hD=>⟨a1b (p3 k hD).1 hc.size,(p3 k hD).2.1,λr R hR ho hu=>?_⟩⟩;rcases v6 hR with ⟨q,rfl,hq⟩ | hq
  ·rcases hru q R hq k hu with ⟨_,ht⟩ | ⟨J8,_⟩ | hf
   ·rcases ah k ht with ⟨b,blk,_,e2,_,e4⟩ | ⟨r2,R2,_,e2,e3,e4⟩
    ·exact (p3 k hD).2.1 b (h.heap b blk e2).1 e4
    ·exact (p3 k hD).2.2 r2 R2 e2 e3 e4
   ·rw [ho] at J8; cases J8
   ·have:=(p3 k hD).1; omega
  ·exact (p3 k hD).2.2 r R (o4 hq).2 ho hu
end
end Go.SX
end
section
namespace Go.SX
open Go
theorem x6.congr {ρ ρ':Nat->Nat} {F:St} {w:World} (h:x6 ρ F w) (e:∀ b,b<F.next->ρ' b=ρ b):x6 ρ' F w:=by
 refine ⟨λb blk hb=>?_,λb c hb hc he=>h.inj b c hb hc (by rw [<- e b hb,<- e c hc]; exact he),λb hb=>by rw [e b hb]; exact h.lt b hb,λr R hR=>?_,h.rowsD,λp hp=>?_⟩
 ·obtain ⟨h1,h2,h3⟩:=h.heap b blk hb;exact ⟨h1,by rw [e b h1,x8 (W:=F.W) e _ h3]; exact h2,h3⟩
 ·obtain ⟨h1,h2,h3⟩:=h.rows r R hR;exact ⟨h1,h2,λk hk=>⟨(h3 k hk).1,λb hb=>by rw [e b hb]; exact (h3 k hk).2 b hb⟩⟩
 ·obtain ⟨h1,h2,h3⟩:=h.pers p hp;exact ⟨h1,h2,λk hD=>⟨(h3 k hD).1,λb hb=>by rw [e b hb]; exact (h3 k hD).2.1 b hb,(h3 k hD).2.2⟩⟩
def stF (n:Nat) (xs:List CV) (F:St) (wr:Bool):St :=
 { n:=n,slots:=wW xs 0,gs:=[],heap:=F.heap,next:=F.next,rows:=F.rows,nr:=F.nr,pers:=F.pers,wr:=wr,fx:=F.next }
theorem i6 {P:Program} {f:FuncId} {fn:Func} {R:Ending->World->Prop} {w:World} {ρ:Nat->Nat} {F:St} (hF:x6 ρ F w) (xs:List CV) (wr:Bool)
  (hf:P.funcs[f]?=some fn) (hb:fn.body.isSome=true) (B0:a5r xs.length fn.ntmps=true) (hw:∀ x∈xs,x.wf F.W)
  (h:V ⟨P,f,R,n6 ρ F,w,ρ,none⟩ ⟨[.code (I5 fn)],stF fn.ntmps xs F wr⟩):Calls P f (xs.map (CV.den ρ)).toArray w R:=by
 refine aZ (n6 ρ F) ρ ρ xs (stF fn.ntmps xs F wr) hf hb B0 (λa h1 h2 h3=>?_) h;refine ⟨h1,?_,?_,?_,hF.inj,hF.lt,h2,Chg.refl _ _,?_,hF.rowsD,hF.pers,λb hb=>⟨hb,rfl⟩⟩
 ·intro i v hv;obtain ⟨x,rfl,_,hx⟩:=K0 xs 0 i v hv;exact ⟨h3 i x (by simpa using hx),hw x (a0v hx)⟩
 ·intro i g pol c x hv;obtain ⟨y,e,_⟩:=K0 xs 0 i _ hv;cases e
 ·intro b blk hb;obtain ⟨k1,k2,k3⟩:=hF.heap b blk hb;exact ⟨k1,k2,k3,λA9=>.inr (.inl ⟨b,blk,hb,A9,rfl⟩)⟩
 ·intro r R hR;obtain ⟨k1,k2,k3⟩:=hF.rows r R hR;exact ⟨k1,k2,λk hk=>⟨(k3 k hk).1,(k3 k hk).2,λho=>.inr (.inr ⟨r,R,hR,ho,hk⟩)⟩⟩
def bf:List (Nat×Row)->Bool
 | []=>true
 | (_,R)::l=>match R.own with
  | true=>bf l
  | false=>false
theorem aH:∀ {l:List (Nat×Row)} {r:Nat} {R:Row},bf l=true->look l r=some R->R.own=true
 | (k,Q)::l,r,R,h,hl=>by
  simp only [bf] at h;split at h
  ·rename_i ho;simp only [look] at hl;split at hl
   ·cases hl; exact ho
   ·exact aH h hl
  ·cases h
def CA (yA:List (Nat×Blk)):List (Nat×Blk)->Bool
 | []=>true
 | (b,blk)::l=>match blk.rw with
  | false=>CA yA l
  | true=>match look yA b with
   | some blk0=>match blk0.rw with
    | true=>CA yA l
    | false=>false
   | none=>false
theorem sv {yA:List (Nat×Blk)}:∀ {l:List (Nat×Blk)} {b:Nat} {blk:Blk},CA yA l=true->look l b=some blk->blk.rw=true->∃ blk0,look yA b=some blk0/\blk0.rw=true
 | (k,c)::l,b,blk,h,hl,A9=>by
  simp only [CA] at h;simp only [look] at hl;split at hl
  ·rename_i e;have:=(d6 _ _).1 e;subst this;cases hl;rw [A9] at h;simp only at h;split at h
   ·rename_i blk0 hb;split at h
    ·rename_i h0; exact ⟨blk0,hb,h0⟩
    ·cases h
   ·cases h
  ·split at h
   ·exact sv h hl A9
   ·split at h
    ·split at h
     ·exact sv h hl A9
     ·cases h
    ·cases h
def nU:Nat->List (Nat×Blk)->Bool
 | 0,_=>true
 | n+1,hp=>match look hp n with
  | some _=>nU n hp
  | none=>false
theorem dt:∀ {n:Nat} {hp:List (Nat×Blk)} {b:Nat},nU n hp=true->b<n->∃ blk,look hp b=some blk
 | n+1,hp,b,h,hb=>by
  simp only [nU] at h;split at h
  ·rename_i blk hl;by_cases e:b=n
   ·subst e; exact ⟨blk,hl⟩
   ·exact dt h (by omega)
  ·cases h
def cA:Nat->Nat->List Nat
 | 0,_=>[]
 | n+1,i=>i::cA n (i+1)
theorem nV:∀ {n i b:Nat},b<n->(cA n i)[b]?=some (i+b)
 | n+1,i,b,h=>by
  cases b with
  | zero=>simp [cA]
  | succ b=>simp only [cA,List.getElem?_cons_succ]; rw [nV (show b<n by omega)]; congr 1; omega
def r8 (s:St):List (Nat×Blk)×Nat×List (Nat×Row)×Nat:=(s.heap,s.next,s.rows,s.nr)
def KW (s F:St):Prop:=s.heap=F.heap/\s.next=F.next/\s.rows=F.rows/\s.nr=F.nr/\F.pers=[]
section
variable {C:Ctx} {ρ:Nat->Nat} {s:St} {a:Act} {w:World}
theorem Rx {a b c:Bool} (h:(a&&(b&&c))=true):a=true/\b=true/\c=true:=by
 simpa [a0g] using h
theorem p8 {P:Program} {f:FuncId} {w0:World} {ρ0:Nat->Nat} {F:St} {α:Type} {p:α->Prop} {v:α->RV} {F':α->St} (x:α) (rs:List Nat) {c:Cfg} (u:RV)
  (hr:jd P f c.st=some u) (he:ew c.todo=true) (hv:u.ren (cA F.next 0) rs=some (v x)) (R5:(o8 [] (cA F.next 0) rs [] c.st).map r8=some (r8 (F' x)))
  (S0:(F' x).pers=[]) (Cp:c.st.fx=F.next) (hchk:(CA F.heap (F' x).heap&&(bf (F' x).rows&&nU F.next (F' x).heap))=true) (hp:p x) :
  V ⟨P,f,V0 ρ0 F p v F' w0,n6 ρ0 F,w0,ρ0,none⟩ c:=by
 obtain ⟨s',G0,Nt⟩:=a1y.1 R5;have hF:KW s' (F' x):=by
  simp only [r8,a1f] at Nt;exact ⟨Nt.1,Nt.2.1,Nt.2.2.1,Nt.2.2.2,S0⟩
 clear R5;refine V.ret u hr he (fun ρ a w hS=>?_);obtain ⟨c1,c2,c3⟩:=Rx hchk;have uh:=hS.pick G0;have GQ:=uh.toF;obtain ⟨f1,f2,f3,f4,f5⟩:=hF;have R5:=G0;unfold o8 at R5;split at R5
 case h_2=>cases R5
 rename_i sl eR rows lQ Nk rT rW r7;have N6:=a2h R5;have n8:∀ n i,(cA n i).length=n:=by
  intro n
  induction n with
  | zero=>intro i; rfl
  | succ n ih=>intro i; simp [cA,ih]
 have C4:(F' x).next=F.next:=by rw [<- f2,<- N6]; exact n8 _ _
 have hρ:∀ b,b<F.next->ρ0 b=ρ ((cA F.next 0).getD b 0):=by
  intro b hb;have:(cA F.next 0).getD b 0=b:=by simp [a0r,nV hb]
  rw [this];exact (hS.fix b (by rw [Cp]; exact hb)).2.symm
 have hW:s'.W=(F' x).W:=by simp only [St.W,f2,f3,f4]
 have yL:bL rs c.st.W ⟨(cA F.next 0).length,rs.length,rows⟩:=by
  intro r' r R hr hl;obtain ⟨r2,_,h2,h3⟩:=p7 r7 r' R hl;simp only [a3e] at h2;rw [hr] at h2;cases h2;exact h3
 obtain ⟨r1,r2,_⟩:=RV.ren_ok (ρ:=ρ) (W:=c.st.W) (W':=⟨(cA F.next 0).length,rs.length,rows⟩) rfl rfl yL hv;have NN:u.wf c.st.W:=by
  replace hr:=(sm hr).1
  unfold kJ at hr;split at hr
  ·rename_i fn _;have U2:∀ (l:List ResultVar) (xs:List CV),U8 P c.st l=some xs->∀ y∈xs,y.wf c.st.W:=by
    intro l
    induction l with
    | nil=>intro xs hx y hy; simp only [U8,a0l] at hx; subst hx; simp at hy
    | cons q l ih =>
     intro xs hx y hy;simp only [U8] at hx;split at hx
     ·rename_i z hz;split at hx
      ·rename_i zs GM;cases hx;rcases a0k.1 hy with rfl | hy
       ·cases q with
        | tmp t =>
         simp only [eV] at hz;split at hz
         ·rename_i y' hl;cases hz;exact (hS.slots t _ hl).2
         ·cases hz
        | cell ad t =>
         simp only [eV] at hz;split at hz
         ·split at hz
          ·rename_i blk Gm;obtain ⟨q1,q2,q3,q4⟩:=hS.heap _ blk Gm;exact (U6 (ρ:=ρ) (w:=w) hz c.st.W q3 q2).2
          ·cases hz
         ·cases hz
       ·exact ih zs GM y hy
      ·cases hx
     ·cases hx
   split at hr
   ·rename_i y hy; cases hr; exact U2 _ _ hy y (a0f ..)
   ·rename_i xs _ hy; cases hr; exact U2 _ _ hy
   ·cases hr
  ·cases hr
 have UH:s'.W=⟨(cA F.next 0).length,rs.length,rows⟩:=by rw [<- N6]; rfl
 have Rv:(v x).wf (F' x).W:=by rw [<- hW,UH]; exact r2 NN
 have NB:x6 (λi=>ρ ((cA F.next 0).getD i 0)) (F' x) w:=by
  refine ⟨?_,?_,?_,?_,?_,?_⟩
  ·intro b blk hb; rw [<- f1] at hb; rw [<- f2,<- hW]; exact GQ.heap b blk hb
  ·rw [<- f2]; exact GQ.inj
  ·rw [<- f2]; exact GQ.lt
  ·intro r R hR; rw [<- f3] at hR; rw [<- f2,<- f4]; exact GQ.rows r R hR
  ·rw [<- f3]; exact GQ.rowsD
  ·rw [f5]; intro q hq; cases hq
 refine ⟨x,hp,?_,NB.congr (by rw [C4]; exact hρ),C4,λb hb=>dt c3 hb,Rv,hS.chg,?_,?_⟩
 ·rw [<- r1,RV.den_congr (W:=(F' x).W) (ρ:=ρ0) (ρ':=λi=>ρ ((cA F.next 0).getD i 0)) (λb hb=>(hρ b (by rw [<- C4]; exact hb)).symm) _ Rv]
 ·intro b blk hb A9; exact sv c1 hb A9
 ·intro r R hR k hk;have ho:=aH c2 hR;have G8:look s'.rows r=some R:=by rw [f3]; exact hR
  rcases ((uh.rows r R G8).2.2 k hk).2.2 ho with q | q
  ·exact .inr (.inr q)
  ·exact .inl ⟨ho,q⟩
theorem Hh {α:Type} (f:FuncId) (xs ys:List CV) (hs rs:List Nat) (pm:List Bool) (F:St) (p:α->Prop) (v:α->RV) (F':α->St) {c:Cfg} (hc:I4 c=some (none,f,xs))
  (bG:∀ args w,(callFunc f args).run C.P w=.ok (.enter f args) w) (G0:o8 [] hs rs pm c.st=some F) (qr:∀ ρ,xs.map (CV.den ρ)=ys.map (CV.den (λi=>ρ (hs.getD i 0))))
  (hu:∀ x,p x->L8 (F' x).heap=true/\(∀ g pol b y,v x≠.grd g pol b y)/\(j5 c (c.st.bring hs rs (F' x)) ((v x).bring hs c.st.nr)).isSome=true)
  (h:∀ ρ w,x6 ρ F w->Calls C.P f (ys.map (CV.den ρ)).toArray w (V0 ρ F p v F' w))
  (k:∀ x,p x->V C (u0 c (c.st.bring hs rs (F' x)) ((v x).bring hs c.st.nr))):V C c:=by
 refine sk hc bG (fun ρ a w hS=>⟨_,by rw [qr ρ]; exact h _ w (hS.pick G0).toF,?_⟩);rintro e w' ⟨x,hp,rfl,hF,C4,hkeep,iQ,N5,A9,hru⟩;obtain ⟨h1,h2,h3⟩:=hu x hp;obtain ⟨b1,b2⟩:=hS.bring G0 h1 hF C4 hkeep N5 A9 hru;refine ⟨ρ,(v x).bring hs c.st.nr,c.st.bring hs rs (F' x),_,by rw [RV.bring_den],b1,b2 _ iQ,?_,x4 h3,k x hp⟩;intro g pol b y e;cases hvx:v x with
 | grd=>exact h2 _ _ _ _ hvx
 | v=>rw [hvx] at e; cases e
 | tup=>rw [hvx] at e; cases e
end
end Go.SX
end
section
namespace Go.SX
open Go
open Go.ChangeMaps (setBlock)
def G3 (g:Nat) (o:Obj):Row:=⟨some ⟨g,0,none⟩,0,0,0,0,λ_=>[],true,some o⟩
theorem qE {w:World} {g:Nat} {o:Obj} (h:w.heap[g]?=some o):(G3 g o).ok w :=
 ⟨λ_ hi=>absurd hi (a0x _),λhp=>absurd hp (Nat.lt_irrefl _),λ_ hn=>(by cases hn),λo' ho=>(by cases ho; exact ⟨g,rfl,h⟩)⟩
theorem s9 {g k:Nat} {o:Obj}:(G3 g o).uses k↔g=k :=
 ⟨λ⟨_,h1,h2,_⟩=>(by cases h1; exact h2),λe=>⟨⟨g,0,none⟩,rfl,e,.inl rfl⟩⟩
def St.addObj (s:St) (g:Nat) (o:Obj):St:={ s with rows:=(s.nr,G3 g o)::s.rows,nr:=s.nr+1 }
def St.setObj (s:St) (r g:Nat) (o:Obj):St:={ s with rows:=upd s.rows r (G3 g o) }
theorem nW (w:World) (g k:Nat) (o:Obj) (h:g≠k):(setBlock w g o).heap[k]?=w.heap[k]?:=by
 simp [setBlock,h]
theorem qh (w:World) (g:Nat) (o:Obj) (h:g<w.heap.size):(setBlock w g o).heap[g]?=some o:=by
 simp [setBlock,h]
theorem R6 (w:World) (g:Nat) (o:Obj):(setBlock w g o).heap.size=w.heap.size:=by simp [setBlock]
section
variable {C:Ctx} {ρ:Nat->Nat} {s:St} {a:Act} {w:World}
theorem Sat.newObj (h:Sat C ρ s a w) (o:Obj):Sat C ρ (s.addObj w.heap.size o) a (w.alloc o):=by
 have hc:Chg (λ_=>False) w (w.alloc o):=Chg.alloc _ w o;have h':=h.below hc;have e9:∀ r R,look s.rows r=some R->r<s.nr:=λr R hR=>(h.rows r R hR).1;have B0:s.W.le (s.addObj w.heap.size o).W:=by
  refine ⟨a0q _,a4l _,λr hr R hR=>?_⟩;have eQ:r<s.nr:=hr;simp only [St.addObj,St.W,look] at hR;split at hR
  ·rename_i e; have:=(d6 _ _).1 e; omega
  ·exact hR
 refine ⟨h'.n,λi v hv=>⟨(h'.slots i v hv).1,RV.wf_mono B0 v (h'.slots i v hv).2⟩,h'.grds,?_,h'.inj,h'.lt,h'.defers,h'.chg,?_,?_,?_,h'.fix⟩
 ·intro b blk hb;obtain ⟨k1,k2,k3,k4⟩:=h'.heap b blk hb;exact ⟨k1,k2,λx hx=>SV.wf_mono B0 x (k3 x hx),k4⟩
 ·intro r R hR;simp only [St.addObj,look] at hR;split at hR
  ·rename_i e';cases hR;have:=(d6 _ _).1 e';refine ⟨by show r<s.nr+1; omega,qE (heap_alloc_new w o),λk hk=>?_⟩;have hk:=s9.1 hk;subst hk;exact ⟨by simp only [World.size_alloc]; omega,λb hb e=>by have:=h.lt b hb; omega,λ_=>.inl h.chg.size⟩
  ·obtain ⟨k0,k1,k2⟩:=h'.rows r R hR;exact ⟨by show r<s.nr+1; omega,k1,k2⟩
 ·intro r1 r2 R1 R2 h1 h2 E0 ho k eP eu;simp only [St.addObj,look] at h1 h2;split at h1
  ·rename_i e1;cases h1;have:=s9.1 eP;subst this;split at h2
   ·rename_i e2; exact E0 (((d6 _ _).1 e1).symm.trans ((d6 _ _).1 e2))
   ·have:=((h.rows r2 R2 h2).2.2 _ eu).1; omega
  ·split at h2
   ·cases h2;have:=s9.1 eu;subst this;have:=((h.rows r1 R1 h1).2.2 _ eP).1; omega
   ·exact h'.rowsD r1 r2 R1 R2 h1 h2 E0 ho k eP eu
 ·intro p hp;obtain ⟨p1,p2,p3⟩:=h'.pers p hp;refine ⟨p1,p2,λk hD=>⟨(p3 k hD).1,(p3 k hD).2.1,λr R hR ho hu=>?_⟩⟩;simp only [St.addObj,look] at hR;split at hR
  ·cases hR;have:=s9.1 hu;subst this;obtain ⟨_,_,q3⟩:=h.pers p hp;have:=(q3 _ hD).1; omega
  ·exact (p3 k hD).2.2 r R hR ho hu
theorem Sat.setObj (h:Sat C ρ s a w) {r g:Nat} {o:Obj} (hr:look s.rows r=some (G3 g o)) (o':Obj):Sat C ρ (s.setObj r g o') a (setBlock w g o'):=by
 obtain ⟨Ch,x7,U3⟩:=h.rows r _ hr;have hg:=U3 g (s9.2 rfl);have er:∀ k,g≠k->(setBlock w g o').heap[k]?=w.heap[k]?:=λk hk=>nW w g k o' hk;have fT:∀ q R',look (upd s.rows r (G3 g o')) q=some R'->(q=r/\R'=G3 g o')∨(q≠r/\look s.rows q=some R'):=by
  intro q R' hq;rw [s8] at hq;by_cases e:r=q
  ·rw [if_pos e] at hq; cases hq; exact .inl ⟨e.symm,rfl⟩
  ·rw [if_neg e] at hq; exact .inr ⟨λe'=>e e'.symm,hq⟩
 have iQ:∀ x:SV,x.wf s.W->x.wf (s.setObj r g o').W:=by
  intro x hx;cases x with
  | row q p n cap =>
   refine ⟨hx.1,λR' G8=>?_⟩;rcases fT q R' G8 with ⟨e1,e2⟩ | ⟨_,e2⟩
   ·subst e1; subst e2; have:=hx.2 (G3 g o) hr; exact this
   ·exact hx.2 R' e2
  | el q p size i j =>
   refine ⟨hx.1,λR' G8=>?_⟩;rcases fT q R' G8 with ⟨e1,e2⟩ | ⟨_,e2⟩
   ·subst e1; subst e2; have:=hx.2 (G3 g o) hr; exact this
   ·exact hx.2 R' e2
  | ptr b off=>exact hx
  | fn f cap=>exact hx
  | sli b n cap=>exact hx
  | _=>trivial
 have yI:∀ v:RV,v.wf s.W->v.wf (s.setObj r g o').W:=by
  have Vj:∀ y:CV,y.wf s.W->y.wf (s.setObj r g o').W:=by
   intro y hy;cases y with
   | one x=>exact iQ x hy
   | agg xs=>exact λx hx=>iQ x (hy x hx)
  intro v hv;cases v with
  | v x=>exact Vj x hv
  | tup xs=>exact λy hy=>Vj y (hv y hy)
  | grd g' pol c x=>exact λhc=>Vj x (hv hc)
 refine ⟨h.n,λi v hv=>⟨(h.slots i v hv).1,yI v (h.slots i v hv).2⟩,h.grds,?_,h.inj,λb hb=>by rw [R6]; exact h.lt b hb,h.defers,?_,?_,?_,?_,h.fix⟩
 ·intro b blk hb;obtain ⟨k1,k2,k3,k4⟩:=h.heap b blk hb;exact ⟨k1,by rw [er _ (λe=>hg.2.1 b k1 e.symm)]; exact k2,λx hx=>iQ x (k3 x hx),k4⟩
 ·refine ⟨h.chg.os,h.chg.tape,h.chg.output,by rw [R6]; exact h.chg.size,λk hk hS=>?_⟩;rw [er k (λe=>?_)]
  ·exact h.chg.block k hk hS
  ·rcases hg.2.2 rfl with q | q
   ·omega
   ·exact hS (e▸q)
 ·intro q R' hq;rcases fT q R' hq with ⟨rfl,rfl⟩ | ⟨e1,e2⟩
  ·refine ⟨Ch,qE (qh w g o' hg.1),λk hk=>?_⟩;have:=s9.1 hk;subst this;exact ⟨by rw [R6]; exact hg.1,hg.2⟩
  ·obtain ⟨k0,k1,k2⟩:=h.rows q R' e2;refine ⟨k0,k1.congr (λk hk=>er k (λe=>?_)),λk hk=>⟨by rw [R6]; exact (k2 k hk).1,(k2 k hk).2⟩⟩;subst e;exact h.rowsD r q _ R' hr e2 (λe=>e1 e.symm) rfl g (s9.2 rfl) hk
 ·intro r1 r2 R1 R2 h1 h2 E0 ho k eP eu;rcases fT r1 R1 h1 with ⟨rfl,rfl⟩ | ⟨e1,e2⟩<;>rcases fT r2 R2 h2 with ⟨rfl,rfl⟩ | ⟨e3,e4⟩
  ·exact E0 rfl
  ·exact h.rowsD r1 r2 _ R2 hr e4 E0 rfl k (s9.2 (s9.1 eP)) eu
  ·exact h.rowsD r1 r2 R1 _ e2 hr E0 ho k eP (s9.2 (s9.1 eu))
  ·exact h.rowsD r1 r2 R1 R2 e2 e4 E0 ho k eP eu
 ·intro p hp;obtain ⟨p1,p2,p3⟩:=h.pers p hp;have hk:∀ k,p.D k->(setBlock w g o').heap[k]?=w.heap[k]?:=λk hD=>er k (λe=>by
   subst e; exact (p3 g hD).2.2 r _ hr rfl (s9.2 rfl))
  refine ⟨p2 _ hk,λw2 bY=>p2 w2 (λk hD=>(bY k hD).trans (hk k hD)),λk hD=>⟨by rw [R6]; exact (p3 k hD).1,(p3 k hD).2.1,λq R' hq ho hu=>?_⟩⟩;rcases fT q R' hq with ⟨rfl,rfl⟩ | ⟨_,e2⟩
  ·exact (p3 k hD).2.2 _ _ hr rfl (s9.2 (s9.1 hu))
  ·exact (p3 k hD).2.2 q R' e2 ho hu
theorem Sat.obj (h:Sat C ρ s a w) {r g:Nat} {o:Obj} (hr:look s.rows r=some (G3 g o)):w.heap[g]?=some o:=by
 obtain ⟨g',e1,e2⟩:=(h.rows r _ hr).2.1.obj o rfl;cases e1;exact e2
def V1 (c:Cfg):Option Op :=
 match c.todo with
 | .inRegion ops (i::_)::_=>match ops[i]? with
  | some o=>match L7 c.st ops o.guard with
   | .yes=>some o.op
   | _=>none
  | none=>none
 | _=>none
theorem lV {c:Cfg} {op:Op} (hc:V1 c=some op)
  (h:∀ ρ a w (o:Oper),o.op=op->Sat C ρ c.st a w->∃ ρ' v w' s1,(execOp a.eval o).run C.P w=.ok (.value (v.den ρ')) w'/\Sat C ρ' s1 a w'/\v.wf s1.W /\
   (∀ g pol b x,v≠.grd g pol b x)/\∃ c',j5 c s1 v=some c'/\V C c'):V C c:=by
 intro ρ a w hS;obtain ⟨todo,st⟩:=c;unfold V1 at hc;simp only at hc h hS ⊢;split at hc
 ·rename_i ops i l k;split at hc
  ·rename_i o ho;split at hc
   ·rename_i hg;obtain ⟨ρ',v,w',s1,h1,h2,h3,h4,c',I9,hV⟩:=h ρ a w o (a2h hc) hS;refine Ok.op_value ho (D5 hS hg) h1 ?_;simp only [j5,ho] at I9;split at I9
    ·rename_i s' o9;cases I9;exact hV ρ' _ _ (h2.put o9 h3 (λg pol b x e=>absurd e (h4 g pol b x)))
    ·cases I9
   ·cases hc
  ·cases hc
 ·cases hc
theorem Oa {c:Cfg} {op:Op} (hc:V1 c=some op)
  (h:∀ ρ a w (o:Oper),o.op=op->Sat C ρ c.st a w->∃ w' s1,(execOp a.eval o).run C.P w=.ok .skip w'/\Sat C ρ s1 a w'/\∃ c',j5 c s1 (.v (.one (.val undef)))=some c'/\V C c'):V C c:=by
 intro ρ a w hS;obtain ⟨todo,st⟩:=c;unfold V1 at hc;simp only at hc h hS ⊢;split at hc
 ·rename_i ops i l k;split at hc
  ·rename_i o ho;split at hc
   ·rename_i hg;obtain ⟨w',s1,h1,h2,c',I9,hV⟩:=h ρ a w o (a2h hc) hS;refine Ok.op_skip ho (D5 hS hg) h1 ?_;simp only [j5,ho] at I9;split at I9
    ·rename_i s' o9;cases I9;exact hV ρ _ _ (h2.put o9 trivial (λg pol b x e=>by cases e))
    ·cases I9
   ·cases hc
  ·cases hc
 ·cases hc
def CB (g:Nat):RV:=.v (.one (.val (.map (some g))))
theorem mK (t:TypeId) {c:Cfg} (hc:V1 c=some (.makeMap t none)) (I9:∀ g,(j5 c (c.st.addObj g (.map #[] 0)) (CB g)).isSome=true)
  (k:∀ g,V C (u0 c (c.st.addObj g (.map #[] 0)) (CB g))):V C c:=by
 refine lV hc (fun ρ a w o ho hS=>⟨ρ,CB w.heap.size,w.alloc (.map #[] 0),c.st.addObj w.heap.size (.map #[] 0),?_,hS.newObj _,trivial,by simp [CB],_,x4 (I9 _),k _⟩);unfold execOp;rw [ho];refine H1 ?_;simp [Instr.makeMap,CB,RV.den,CV.den,SV.den]
def du:TypeDesc->Bool
 | .int _ | .string | .bool=>true
 | _=>false
theorem jh {P:Program} {kt:TypeId} {kd:TypeDesc} (hk:P.underlying kt=some kd) (Cf:du kd=true) (e:Bool) (v:Value) (w:World):(Instr.checkKey e 10000 kt v).run P w=.ok () w:=by
 cases kd<;>first | (simp [du] at Cf; done) | (unfold Instr.checkKey; rw [a1n,run_underlying hk]; rfl)
theorem lW {P:Program} {kt:TypeId} {kd:TypeDesc} (hk:P.underlying kt=some kd) {k:Value} {es:List MapEntry} {x:Option (Nat×Value)} (hf:Instr.findNow kd k es 0=some x) (w:World) :
  (Instr.findKey kt k es).run P w=.ok x w:=by
 unfold Instr.findKey;rw [a1n,run_underlying hk];simp [hf]
theorem wX {P:Program} {t kt et:TypeId} {kd:TypeDesc} {w:World} {g:Nat} {es:Array MapEntry} {clock:Nat} (ht:P.underlying t=some (.map kt et)) (hk:P.underlying kt=some kd) (Cf:du kd=true)
  (hb:w.heap[g]?=some (.map es clock)) {k:Value} {x:Option (Nat×Value)} (hf:Instr.findNow kd k es.toList 0=some x) {z:Value} (hz:x=none->(zeroValue et).run P w=.ok z w) (ok:Bool) :
  (Instr.lookup t (.map (some g)) k ok).run P w=.ok (cond ok (.tuple #[(x.map (·.2)).getD z,.bool x.isSome]) ((x.map (·.2)).getD z)) w:=by
 unfold Instr.lookup;rw [a1n,run_underlying ht];simp only [Result.andThen_ok,a1n,MapKept.run_getObj_map hb,a2i,jh hk Cf,lW hk hf];cases x with
 | none=>simp only [a1n,hz rfl,Result.andThen_ok,a2i]; cases ok<;>rfl
 | some y=>cases ok<;>rfl
theorem gY {P:Program} {t kt et:TypeId} {kd:TypeDesc} {w:World} {g:Nat} {es:Array MapEntry} {clock:Nat} (ht:P.underlying t=some (.map kt et)) (hk:P.underlying kt=some kd) (Cf:du kd=true)
  (hb:w.heap[g]?=some (.map es clock)) {k v:Value} (hf:Instr.findNow kd k es.toList 0=some none) :
  (Instr.mapUpdate t (.map (some g)) k v).run P w=.ok () (setBlock w g (.map (es.push { key:=k,val:=v,born:=clock }) (clock+1))):=by
 unfold Instr.mapUpdate;rw [a1n,run_underlying ht];simp only [Result.andThen_ok,a1n,MapKept.run_getObj_map hb,jh hk Cf,lW hk hf];simp [MapKept.run_setObj_map _ hb,setBlock]
def CC:Op->Option (TypeId×Operand×Operand×Operand)
 | .mapUpdate t m k x=>some (t,m,k,x)
 | .insert t m k x=>some (t,m,k,x)
 | _=>none
def yP (c:Cfg):Option (TypeId×Nat×CV×CV) :=
 match V1 c with
 | some op=>match CC op with
  | some (t,m,k,x)=>match ev c.st none m,ev c.st none k,ev c.st none x with
   | some (.one (.val (.map (some g)))),some kv,some xv=>some (t,g,kv,xv)
   | _,_,_=>none
  | none=>none
 | none=>none
def CD (c:Cfg):Option (TypeId×Nat×CV×Bool) :=
 match V1 c with
 | some (.lookup t m k ok)=>match ev c.st none m,ev c.st none k with
  | some (.one (.val (.map (some g)))),some kv=>some (t,g,kv,ok)
  | _,_=>none
 | _=>none
def Hi (g:Nat):RV:=.v (.one (.val (.pointer (some ⟨g,0,none⟩))))
def yQ (c:Cfg):Option (TypeId×Nat) :=
 match V1 c with
 | some (.range t m)=>match ev c.st none m with
  | some (.one (.val (.map (some g))))=>some (t,g)
  | _=>none
 | _=>none
theorem V.range (t kt et:TypeId) (g:Nat) (es:Array MapEntry) (clock:Nat) {c:Cfg} (hc:yQ c=some (t,g)) (ht:C.P.underlying t=some (.map kt et))
  (hb:∀ ρ a w,Sat C ρ c.st a w->w.heap[g]?=some (.map es clock))
  (I9:∀ i,(j5 c (c.st.addObj i (.mapIter (some g) clock #[] clock)) (Hi i)).isSome=true)
  (k:∀ i,V C (u0 c (c.st.addObj i (.mapIter (some g) clock #[] clock)) (Hi i))):V C c:=by
 unfold yQ at hc;split at hc
 ·rename_i t' m f7;split at hc
  ·rename_i g' hm;cases hc;refine lV f7 (fun ρ a w o ho hS=>⟨ρ,Hi w.heap.size,w.alloc (.mapIter (some g) clock #[] clock),_,?_,hS.newObj _,trivial,by simp [Hi],_,x4 (I9 _),k _⟩);obtain ⟨e1,_⟩:=d7 hS.toP (j9 c.st) hm;unfold execOp;rw [ho];refine H1 ?_;rw [e1];exact run_range_map w t kt et g es clock ht (hb ρ a w hS)
  ·cases hc
 ·cases hc
def CE (c:Cfg):Option Nat :=
 match V1 c with
 | some (.next it false)=>match ev c.st none it with
  | some (.one (.val (.pointer (some ⟨i,0,none⟩))))=>some i
  | _=>none
 | _=>none
theorem Sat.drew (h:Sat C ρ s a w):Sat C ρ s a w.drew:=h.below ⟨rfl,rfl,rfl,a0q _,λ_ _ _=>rfl⟩
theorem V.next (i r g since c0 clock:Nat) (seen:Array Nat) (es:Array MapEntry) {c:Cfg} (hc:CE c=some i) (hr:look c.st.rows r=some (G3 i (.mapIter (some g) since seen c0)))
  (hb:∀ ρ a w,Sat C ρ c.st a w->w.heap[g]?=some (.map es clock)) (NL:∀ x∈es.toList,x.born<since) (hsc:since<=c0)
  (I9:(j5 c c.st (.tup [.one (.bool false)])).isSome=true)
  (lJ:∀ e,e∈(leftOf es seen).toList->(j5 c (c.st.setObj r i (.mapIter (some g) since (seen.push e.born) clock)) (.tup [.one (.bool true),.one (.val e.key),.one (.val e.val)])).isSome=true)
  (k:(leftOf es seen).size=0->V C (u0 c c.st (.tup [.one (.bool false)])))
  (k':∀ e,e∈(leftOf es seen).toList->V C (u0 c (c.st.setObj r i (.mapIter (some g) since (seen.push e.born) clock)) (.tup [.one (.bool true),.one (.val e.key),.one (.val e.val)]))):V C c:=by
 unfold CE at hc;split at hc
 ·rename_i it f7;split at hc
  ·rename_i i' hm;cases hc;refine lV f7 (fun ρ a w o ho hS=>?_);obtain ⟨e1,_⟩:=d7 hS.toP (j9 c.st) hm;rcases run_next_at (P:=C.P) w o.type i g since c0 seen es clock (hS.obj hr) (hb ρ a w hS) NL hsc with ⟨h0,h1⟩ | ⟨e,he,w1,hw,h1⟩
   ·refine ⟨ρ,.tup [.one (.bool false)],w,c.st,?_,hS,?_,by simp,_,x4 I9,k h0⟩
    ·unfold execOp; rw [ho]; refine H1 ?_; rw [e1]; exact h1
    ·intro y hy; rcases a0d.1 hy with rfl; trivial
   ·refine ⟨ρ,.tup [.one (.bool true),.one (.val e.key),.one (.val e.val)],_,_,?_,Sat.setObj (w:=w1) ?_ hr _,?_,by simp,_,x4 (lJ e he),k' e he⟩
    ·unfold execOp; rw [ho]; refine H1 ?_; rw [e1]; exact h1
    ·rcases hw with rfl|rfl
     ·exact hS
     ·exact hS.drew
    ·intro y hy;rcases a0k.1 hy with rfl | hy
     ·trivial
     ·rcases a0k.1 hy with rfl | hy
      ·trivial
      ·rcases a0d.1 hy with rfl; trivial
  ·cases hc
 ·cases hc
def yR (c:Cfg):Option Nat :=
 match V1 c with
 | some (.entry it)=>match ev c.st none it with
  | some (.one (.val (.pointer (some ⟨i,0,none⟩))))=>some i
  | _=>none
 | _=>none
theorem V.entry (i r g since clock:Nat) (seen:Array Nat) (es:Array MapEntry) (e:MapEntry) {c:Cfg} (hc:yR c=some i) (hr:look c.st.rows r=some (G3 i (.mapIter (some g) since (seen.push e.born) clock)))
  (hb:∀ ρ a w,Sat C ρ c.st a w->w.heap[g]?=some (.map es clock)) (he:e∈es.toList) (hn:(es.toList.map (·.born)).Nodup)
  (I9:(j5 c c.st (.tup [.one (.val e.key),.one (.val e.val)])).isSome=true)
  (k:V C (u0 c c.st (.tup [.one (.val e.key),.one (.val e.val)]))):V C c:=by
 unfold yR at hc;split at hc
 ·rename_i it f7;split at hc
  ·rename_i i' hm;cases hc;refine lV f7 (fun ρ a w o ho hS=>?_);obtain ⟨e1,_⟩:=d7 hS.toP (j9 c.st) hm;refine ⟨ρ,.tup [.one (.val e.key),.one (.val e.val)],w,c.st,?_,hS,?_,by simp,_,x4 I9,k⟩
   ·unfold execOp; rw [ho]; refine H1 ?_; rw [e1]; exact run_entry_at w i g since seen es clock e (hS.obj hr) (hb ρ a w hS) he hn
   ·intro y hy;rcases a0k.1 hy with rfl | hy
    ·trivial
    ·rcases a0d.1 hy with rfl; trivial
  ·cases hc
 ·cases hc
end
end Go.SX
end
section
namespace Go.SX
open Go
def D6 (P:Program) (f:FuncId):Bool :=
 match P.funcs[f]? with
 | some fn=>fn.body.isSome&&!(fn.name == "runtime.NumGoroutine")
 | none=>false
theorem S3 {P:Program} {f:FuncId} (h:D6 P f=true) (args:Array Value) (w:World):(callFunc f args).run P w=.ok (.enter f args) w:=by
 unfold D6 at h;split at h
 ·rename_i fn hf;rw [a0g] at h;obtain ⟨h1,h2⟩:=h;have pS:¬ fn.name = "runtime.NumGoroutine":=by simpa using h2
  have mE:¬ fn.body=none:=by intro e; rw [e] at h1; cases h1
  unfold callFunc;have:(program:Sem Program).run P w=.ok P w:=rfl;rw [a1n,this];simp [hf,pS,mE]
 ·cases h
def Q8:CV->Bool
 | .one x=>F2 x
 | .agg xs=>xs.all F2
def io:RV->Bool
 | .v x=>Q8 x
 | .tup xs=>xs.all Q8
 | .grd _ _ _ _=>false
theorem cB {x:CV} (h:Q8 x=true) (W:WF):x.wf W:=by
 cases x with
 | one x=>exact N7 (P6 h) W
 | agg xs=>intro y hy; exact N7 (P6 (a0y.1 h y hy)) W
theorem qF {x:RV} (h:io x=true) (W:WF):x.wf W/\∀ g pol b y,x≠.grd g pol b y:=by
 cases x with
 | v x=>exact ⟨cB h W,by simp⟩
 | tup xs=>exact ⟨λy hy=>cB (a0y.1 h y hy) W,by simp⟩
 | grd=>cases h
def ngB:RV->Bool
 | .grd _ _ _ _=>false
 | _=>true
theorem KX {x:RV} (h:ngB x=true):∀ g pol b y,x≠.grd g pol b y:=by
 cases x with
 | grd=>cases h
 | v x=>simp
 | tup xs=>simp
theorem sw {a b c:Bool} (h:(a&&(b&&c))=true):a=true/\b=true/\c=true:=by simpa [a0g] using h
section
variable {C:Ctx}
theorem M8 (f:FuncId) (xs:List CV) (v:RV) {c:Cfg} (hc:I4 c=some (none,f,xs)) (hb:(D6 C.P f&&(io v&&(j5 c c.st v).isSome))=true)
  (h:∀ ρ a w,Sat C ρ c.st a w->Calls C.P f (xs.map (CV.den ρ)).toArray w (u6 (v.den ρ) w)) (k:V C (u0 c c.st v)):V C c:=by
 obtain ⟨h1,h2,h3⟩:=sw hb;obtain ⟨w1,w2⟩:=qF h2 c.st.W;exact su f xs v hc (S3 h1) h3 w1 w2 h k
theorem nX (g:Nat) (pol b:Bool) (f:FuncId) (xs:List CV) (x:CV) {c:Cfg} (hc:I4 c=some (some (g,pol,b),f,xs))
  (hb:(D6 C.P f&&(Q8 x&&(j5 c { c.st with gs:=M4 c.st.gs g } (.grd g pol b x)).isSome))=true)
  (h:b=pol->∀ ρ a w,Sat C ρ c.st a w->Calls C.P f (xs.map (CV.den ρ)).toArray w (u6 (x.den ρ) w))
  (k:V C (u0 c { c.st with gs:=M4 c.st.gs g } (.grd g pol b x))):V C c:=by
 obtain ⟨h1,h2,h3⟩:=sw hb;exact uG g pol b f xs x hc (S3 h1) h3 (cB h2 c.st.W) h k
theorem V.callG {α:Type} (f:FuncId) (xs ys:List CV) (hs rs:List Nat) (pm:List Bool) (F:St) (p:α->Prop) (v:α->RV) (F':α->St) {c:Cfg} (hc:I4 c=some (none,f,xs))
  (hb:D6 C.P f=true) (G0:o8 [] hs rs pm c.st=some F) (qr:∀ ρ,xs.map (CV.den ρ)=ys.map (CV.den (λi=>ρ (hs.getD i 0))))
  (hu:∀ x,(L8 (F' x).heap&&(ngB (v x)&&(j5 c (c.st.bring hs rs (F' x)) ((v x).bring hs c.st.nr)).isSome))=true)
  (h:∀ ρ w,x6 ρ F w->Calls C.P f (ys.map (CV.den ρ)).toArray w (V0 ρ F p v F' w))
  (k:∀ x,p x->V C (u0 c (c.st.bring hs rs (F' x)) ((v x).bring hs c.st.nr))):V C c:=by
 refine Hh f xs ys hs rs pm F p v F' hc (S3 hb) G0 qr (λx _=>?_) h k;obtain ⟨h1,h2,h3⟩:=sw (hu x);exact ⟨h1,KX h2,h3⟩
end
end Go.SX
end
section
namespace Go.SX
open Go
theorem CF (s:St) (r:Nat) (R:Row) (q:Option Addr) (m cap:Nat) (get:Nat->List SV):(RV.v (.one (.row s.nr q (R.n+m) cap))).wf (s.rowTo r (R.next q m cap get)).W:=by
 refine ⟨a3p _,λR' hR=>?_⟩;simp only [St.rowTo,St.W,look,a4h] at hR;cases hR;exact ⟨rfl,rfl,rfl⟩
section
variable {C:Ctx} {D:gP} {ops:Array Oper} {k:List Item}
theorem VD.append (i:Nat) (A:App) (get:Nat->List SV) {o:Oper} {cl:Call} {d:u7} {n:Nat} (hr:Region.ready .any ops d.listed=[i]) (hf:d.fuel=n+1) (ho:ops[i]?=some o) (hg:L7 d.st ops o.guard=.yes)
  (U4:fa o=some cl) (hA:AH C.P d.st cl=some A) (hb:(A.R.n+A.m)*A.bytes<=140737488355328)
  (h1:∀ i,i<A.R.n->get i=A.R.get i) (h2:∀ i,i<A.m->get (A.R.n+i)=A.get i) (QP:∀ k,A.R.uses k->D.TS k)
  (F9:∀ q cap,((d.st.rowTo A.r (A.R.next q A.m cap get)).put o.dst (.v (.one (.row d.st.nr q (A.R.n+A.m) cap)))).isSome=true)
  (h:∀ q cap s',(d.st.rowTo A.r (A.R.next q A.m cap get)).put o.dst (.v (.one (.row d.st.nr q (A.R.n+A.m) cap)))=some s'->VD C D ops k ⟨n,d.listed.setIfInBounds i true,s'⟩):VD C D ops k d:=by
 intro ρ a w hS hρ hn hc Nj C8;have hi:i∈Region.ready .any ops d.listed:=by rw [hr]; simp
 rw [hf];refine E2 hr (by simp) (λj hj=>?_);have:j=i:=by simpa using hj
 subst this;have f7:o.op=.call cl:=by
  unfold fa at U4;split at U4
  ·rename_i e; cases U4; exact e
  ·cases U4
 obtain ⟨q,cap,w',F1,uh,N5,_⟩:=nS (ty:=o.type) hS hA hb get h1 h2;obtain ⟨s',N6⟩:=a2o.1 (F9 q cap);have fR:Chg D.TS D.ws w':=hc.trans N5 (λk hk=>.inr (QP k hk));unfold wpOp;simp only [ho,D5 hS hg,if_true];refine .inl ?_;unfold Oper.wp execOp;rw [f7];simp only;rw [F1];refine ⟨λ_=>fR,h q cap s' N6 ρ _ w' (uh.put N6 (CF ..) (λg pol b x e=>by cases e)) hρ ?_ fR (Nj.set hi) (by simpa using C8)⟩;show D.n0<=s'.next;rw [J9 N6]; exact hn
end
end Go.SX
end
