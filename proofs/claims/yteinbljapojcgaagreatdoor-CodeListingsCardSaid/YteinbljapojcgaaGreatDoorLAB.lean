/- A symbolic run of the program that Lean checks, and what the functions of the program come to by it: part 2 of 6. -/
import Derived.Laws.IdiomStrings
import Derived.Lib.Walk
import Derived.Lib.Builder
import Derived.RangeFuncIn
import Derived.RangeFuncRecord
import Derived.RangeFuncLeaves
import Derived.Shelf.Lays
import Derived.Shelf.LaysM
import Derived.Shelf.LaysC
import Derived.Ground.Names2Prog
import Derived.Shelf.Slices.SearchI
import Derived.Shelf.Slices.Empties
import Derived.Shelf.Slices.Equal
import Derived.Shelf.Strconv.ErrVarAll
import Derived.Shelf.Strconv.AtoiAll
import Derived.Shelf.Strconv.Itoa3
import Derived.Shelf.Strings.Cut
import Derived.Shelf.Small.Wraps
import Derived.Shelf.Strings.Fields
import Derived.Shelf.Strings.Prefix
import Derived.Shelf.Strings.OnBuilder
import Derived.Shelf.Strings.Split
import Derived.Test.YteinbljapojcgaaGreatDoorProg
import Derived.Lib.UnsafeStr
import Derived.Shelf.RegionOpenPlain
import Derived.WalkKit
import Derived.Laws.Externs
import Derived.RegionTactic
import Derived.Test.YteinbljapojcgaaGreatDoorLAA
set_option linter.unusedVariables false
set_option maxHeartbeats 4000000
set_option maxRecDepth 10000
open Array renaming replicate->a4a,ext'->a3u,getElem?_eq_none->a4u
open Bool renaming or_eq_true->a3w,and_eq_true->a0g
open Go.IntKind renaming i64->a0h
open Go.Lib renaming cell_of_heap->a4i,trimPrefix->a0o,atoiAll->a4j,cut->a3d,fields->a6m
open Go.Proofs.Tryz renaming prog->a0a,underlying0->a5n,zeroValue0->a6b,underlying3->a3g,isAgg3->a5o,sizeOf3->a5c,zeroValue3->a4c,underlying4->a3r,isAgg4->a5p,sizeOf4->a5d,zeroValue4->a4d,underlying9->a4f,isAgg9->a6h,sizeOf9->a5s,zeroValue9->a4k,underlying5->a4v,sizeOf5->a6v,zeroValue5->a5h,underlying236->a4z,sizeOf236->a6p,zeroValue236->a5j,underlying256->a5v,zeroValue256->a6i
open Go.SX.CV renaming den->a2a
open Go.SX.SV renaming den->a4m,den0->a3n
open Go.Sem renaming run_bind->a1n,run_pure->a2i
open List renaming mem_append_left->a1w,mem_append_right->a1v,map_map->a3q,map_congr_left->a2g,mem_map->a1d,mem_of_getElem?->a0v,all_eq_true->a0y,mem_singleton->a0d,getD->a0r,getElem?_append_left->a6x,getElem?_append_right->a6o,getElem?_eq_getElem->a0b,mem_cons->a0k,mem_cons_self->a0f,mem_cons_of_mem->a0e,getElem?_eq_some_iff->a2l,map_cons->a3h,getElem?_map->a2t,getElem?_eq_none->a6e,length_cons->a0p,range->a2f,flatMap_cons->a2z
open Nat renaming le_succ->a4l,le_trans->a0n,lt_of_lt_of_le->a1b,le_refl->a0q,beq->a1m,ble->a5r,le_of_ble_eq_true->a0w,lt_succ_self->a3p,beq_refl->a4h,blt->a4t,not_lt_zero->a0x,sub_zero->a3e,le_add_right->a0m,zero_le->a0s,add_sub_cancel->a3x
open Option renaming isSome_iff_exists->a2o,map_some->a2u,map_eq_some_iff->a1y,getD_some->a1e
open Option.some renaming injEq->a0l,inj->a2h
open Prod.mk renaming injEq->a1f
section
namespace Go.SX
open Go
def ip (P:Program) (ops:Array Oper) (h0:List (Nat×Blk)) (r0:List (Nat×Row)) (d:u7):Option (u7×List Prop) :=
 match d.fuel with
 | 0=>none
 | n+1=>match nL P ops h0 r0 d.listed d.st (Region.ready .any ops d.listed) with
  | some (i,s',ob)=>some (⟨n,d.listed.setIfInBounds i true,s'⟩,ob)
  | none=>match Region.ready .any ops d.listed with
   | [i]=>match ops[i]? with
    | some o=>match L7 d.st ops o.guard with
     | .yes=>match gW P d.st none o.op with
      | some (v,s1)=>match s1.put o.dst v with
       | some s'=>some (⟨n,d.listed.setIfInBounds i true,s'⟩,[])
       | none=>none
      | none=>none
     | _=>none
    | none=>none
   | _=>none
def V2 (P:Program) (ops:Array Oper) (h0:List (Nat×Blk)) (r0:List (Nat×Row)):Nat->u7->u7×List Prop
 | 0,d=>(d,[])
 | m+1,d=>match ip P ops h0 r0 d with
  | none=>(d,[])
  | some (d',ob)=>match V2 P ops h0 r0 m d' with
   | (d2,ob')=>(d2,ob++ob')
theorem iq {P:Program} {s s1:St} {gc:Option (Nat×Bool)} {op:Op} {v:RV} (h:gW P s gc op=some (v,s1)):s1.rows=s.rows/\s1.nr=s.nr/\s.next<=s1.next:=by
 unfold gW at h;split at h
 ·split at h
  ·cases h; exact ⟨rfl,rfl,a4l _⟩
  ·cases h
 ·split at h
  ·split at h
   ·cases h; exact ⟨rfl,rfl,a4l _⟩
   ·cases h
  ·cases h
 ·split at h
  ·split at h
   ·split at h
    ·split at h
     ·cases h; exact ⟨rfl,rfl,a4l _⟩
     ·cases h
    ·cases h
   ·cases h
  ·cases h
 ·cases h
theorem nY {P:Program} {ops:Array Oper} {h0:List (Nat×Blk)} {r0:List (Nat×Row)} {o:Oper} {s s':St} {ob:List Prop} (hs:Y8 P ops h0 r0 o s=some (s',ob)):s'.W=s.W:=by
 unfold Y8 at hs;split at hs
 ·split at hs
  ·split at hs
   ·rename_i o9; cases hs; exact N8 o9
   ·cases hs
  ·cases hs
 ·split at hs
  ·rename_i o9; cases hs; exact N8 o9
  ·cases hs
 ·split at hs
  ·split at hs
   ·rename_i o9; cases hs; rw [N8 o9]; rfl
   ·cases hs
  ·cases hs
 ·cases hs
theorem WF.le.trans' {A B E:WF} (h:A.le B) (k:B.le E):A.le E :=
 ⟨a0n h.n k.n,a0n h.nr k.nr,λr hr R hR=>h.rows r hr R (k.rows r (a1b hr h.nr) R hR)⟩
section
variable {C:Ctx} {D:gP} {ops:Array Oper} {k:List Item}
theorem uH {P:Program} {h0:List (Nat×Blk)} {r0:List (Nat×Row)} {d d':u7} {ob:List Prop} (hs:ip P ops h0 r0 d=some (d',ob)) (A9:D.rows d.st):D.rows d'.st:=by
 unfold ip at hs;split at hs
 ·cases hs
 ·split at hs
  ·rename_i i s' ob' ht;cases hs;obtain ⟨_,o,_,_,h⟩:=X0 ht;have hW:=nY h;exact ⟨λr R hR=>by rw [show s'.rows=d.st.rows from congrArg WF.rows hW]; exact A9.1 r R hR,by rw [hW]; exact A9.2⟩
  ·split at hs
   ·split at hs
    ·split at hs
     ·split at hs
      ·rename_i v s1 f7;split at hs
       ·rename_i s' o9;cases hs;have hW:=N8 o9;obtain ⟨q1,q2,q3⟩:=iq f7;have e1:s'.rows=d.st.rows:=(congrArg WF.rows hW).trans q1;have e2:s'.nr=d.st.nr:=(congrArg WF.nr hW).trans q2;have e3:s'.next=s1.next:=congrArg WF.n hW;refine ⟨λr R hR=>by rw [e1]; exact A9.1 r R hR,a0n A9.2.n (by show d.st.next<=s'.next; rw [e3]; exact q3),a0n A9.2.nr (by show d.st.nr<=s'.nr; rw [e2]; exact a0q _),λr hr R hR=>?_⟩;exact A9.2.rows r hr R (by show look d.st.rows r=some R; rw [<- e1]; exact hR)
       ·cases hs
      ·cases hs
     ·cases hs
    ·cases hs
   ·cases hs
theorem CG (hD:D.ok) (hL:W9 ops D.L∨ops.size<=D.L) (D4:Region.noSelect ops=true) {d d':u7} {ob:List Prop} (hs:ip C.P ops D.h0 D.r0 d=some (d',ob)) (q8:∀ p∈ob,p) (A9:D.rows d.st)
  (h:VD C D ops k d'):VD C D ops k d:=by
 unfold ip at hs;split at hs
 ·cases hs
 ·rename_i n hf;split at hs
  ·rename_i i s' ob' ht;cases hs;obtain ⟨hm,o,ho,co,F9⟩:=X0 ht;have hW:=nY F9;intro ρ a w hS hρ hn hc U4 C8;obtain ⟨v,hy,uh,qt⟩:=nM hD F9 q8 hS hρ hn A9;rw [hf];exact sr hL ho (Region.noSelect_spec D4) Cw n d.listed a w C8 U4 (Region.free_spec ho co) hm hy hc (h ρ _ w uh hρ (by show D.n0<=s'.next; rw [show s'.next=d.st.next from congrArg WF.n hW]; exact hn) hc (U4.set hm) (by simpa using C8))
  ·split at hs
   ·rename_i i hr;split at hs
    ·rename_i o ho;split at hs
     ·rename_i hg;split at hs
      ·rename_i v s1 f7;split at hs
       ·rename_i s' o9;cases hs;exact KV i hr hf ho hg f7 o9 h
       ·cases hs
      ·cases hs
     ·cases hs
    ·cases hs
   ·cases hs
theorem VD.runM (hD:D.ok) (hL:W9 ops D.L∨ops.size<=D.L) (D4:Region.noSelect ops=true):∀ (m:Nat) (d:u7),(∀ p∈(V2 C.P ops D.h0 D.r0 m d).2,p)->D.rows d.st ->
  (D.rows (V2 C.P ops D.h0 D.r0 m d).1.st->VD C D ops k (V2 C.P ops D.h0 D.r0 m d).1)->VD C D ops k d
 | 0,d,_,A9,h=>h A9
 | m+1,d,q8,A9,h=>by
  unfold V2 at q8 h;split at q8
  ·rename_i hs; rw [hs] at h; exact h A9
  ·rename_i d' ob hs;rw [hs] at h;exact CG hD hL D4 hs (λp hp=>q8 p (a1w _ hp)) A9
    (VD.runM hD hL D4 m d' (λp hp=>q8 p (a1v _ hp)) (uH hs A9) h)
def mw (P:Program) (ops:Array Oper) (L:Nat) (d:u7):Option St :=
 match Region.ready .any ops d.listed with
 | []=>some d.st
 | [i]=>match a1m i L,d.fuel,ops[L]? with
  | true,_+1,some o=>match L7 d.st ops o.guard,Y5 P d.st none o.op,o.dst,Region.ready .any ops (d.listed.setIfInBounds L true) with
   | .yes,some s1,none,[]=>some s1
   | _,_,_,_=>none
  | _,_,_=>none
 | _=>none
theorem VD.fin {d:u7} {s1:St} (hs:mw C.P ops D.L d=some s1) (h:V C ⟨k,s1⟩):VD C D ops k d:=by
 unfold mw at hs;split at hs
 ·rename_i hr; cases hs; exact VD.done (by simp [hr]) h
 ·rename_i i hr;split at hs
  ·rename_i n o hi hf ho;have:=(d6 _ _).1 hi;subst this;split at hs
   ·rename_i hg f7 hd he;cases hs;exact He hr hf ho hg f7 hd (by simp [he]) h
   ·cases hs
  ·cases hs
 ·cases hs
def drawAll (P:Program) (L:Nat) (c:Cfg):Option (Cfg×List Prop) :=
 match ce c with
 | some (ops,k)=>match P.follows .mixedOrders,Region.noSelect ops,jf ops L||a5r ops.size L with
  | true,true,true=>match V2 P ops c.st.heap c.st.rows ops.size ⟨ops.size,a4a ops.size false,c.st⟩ with
   | (d,ob)=>match mw P ops L d with
    | some s1=>some (⟨k,s1⟩,ob)
    | none=>none
  | _,_,_=>none
 | none=>none
theorem bg {α:Type}:∀ (l:List (Nat×α)),I6 [] l=l
 | []=>rfl
 | (b,v)::l=>by simp only [I6,p5]; rw [bg l]
theorem V.drawAll (L:Nat) (ob:List Prop) {c:Cfg} {c':Cfg} (hr:SX.drawAll C.P L c=some (c',ob)) (ho:B9 ob) (h:V C c'):V C c:=by
 unfold SX.drawAll at hr;split at hr
 ·rename_i ops k hc;split at hr
  ·rename_i hm D4 hL;split at hr;rename_i d ob' F1;split at hr
   ·rename_i s1 aB;cases hr;have GS:W9 ops L∨ops.size<=L:=by
     rw [a3w] at hL;rcases hL with hL | hL
     ·exact .inl (eW hL)
     ·exact .inr (a0w hL)
    refine nO [] [] L ops k hc hm (λD hD h1 h2 h3 h4 _ A9 _ _=>?_) (by simp);rw [bg] at h1 h3;refine VD.runM hD (by rw [h4]; exact GS) D4 ops.size _ ?_ A9 (λ_=>?_)
    ·rw [h1,h3,F1]; exact U7 ho
    ·rw [h1,h3,F1]; exact VD.fin (by rw [h4]; exact aB) h
   ·cases hr
  ·cases hr
 ·cases hr
def fc (P:Program) (r:Nat) (c:Cfg):Option (u7×Nat×Option Tmp×App×List Prop) :=
 match ce c with
 | some (ops,_)=>match V2 P ops c.st.heap (I6 [r] c.st.rows) ops.size ⟨ops.size,a4a ops.size false,c.st⟩ with
  | (d,ob)=>match Region.ready .any ops d.listed,d.fuel with
   | [i],_+1=>match ops[i]? with
    | some o=>match L7 d.st ops o.guard,fa o with
     | .yes,some cl=>match AH P d.st cl with
      | some A=>match a1m A.r r with
       | true=>some (d,i,o.dst,A,ob)
       | false=>none
      | none=>none
     | _,_=>none
    | none=>none
   | _,_=>none
 | none=>none
def ji (P:Program) (r L:Nat) (c:Cfg) (R:Row):Option Cfg :=
 match ce c,fc P r c with
 | some (ops,k),some (d,i,dst,_,_)=>match P.follows .mixedOrders,Region.noSelect ops,jf ops L||a5r ops.size L,(d.st.rowTo r R).put dst (.v (.one (.row d.st.nr R.s R.n R.cap))) with
  | true,true,true,some s'=>match V2 P ops c.st.heap (I6 [r] c.st.rows) ops.size ⟨d.fuel - 1,d.listed.setIfInBounds i true,s'⟩ with
   | (d2,[])=>match mw P ops L d2 with
    | some s1=>some ⟨k,s1⟩
    | none=>none
   | _=>none
  | _,_,_,_=>none
 | _,_=>none
def cC (P:Program) (r L:Nat) (c:Cfg) (R:Row):Cfg:=(ji P r L c R).getD c
theorem wY {s:St} {r:Nat} {R:Row} (Ch:D.r0=I6 [r] D.w0) (A9:D.rows s) (e9:∀ q Q,look D.w0 q=some Q->q<s.nr):D.rows (s.rowTo r R):=by
 refine ⟨λq Q hQ=>?_,A9.2.trans' (eY s r R)⟩;have h1:=A9.1 q Q hQ;rw [Ch] at hQ;obtain ⟨E0,hw⟩:=y5 hQ;have uj:=e9 q Q hw;show look ((s.nr,R)::Q6 r s.rows) q=some Q;simp only [look];have:a1m s.nr q=false:=by
  cases hb:a1m s.nr q with
  | true=>have:=(d6 _ _).1 hb; omega
  | false=>rfl
 rw [this];have XC:q≠r:=λe=>E0 (by rw [e]; simp);clear e9 A9 hQ E0 hw uj this;generalize s.rows=rows at h1
 induction rows with
 | nil=>exact h1
 | cons p l ih =>
  obtain ⟨j,u⟩:=p;simp only [Q6];simp only [look] at h1;cases hj:a1m j q with
  | true =>
   rw [hj] at h1;have e1:=(d6 _ _).1 hj;have:a1m j r=false:=by
    cases hb:a1m j r with
    | true=>have:=(d6 _ _).1 hb; omega
    | false=>rfl
   rw [this];simp only [look,hj];exact h1
  | false =>
   rw [hj] at h1;cases hb:a1m j r with
   | true=>exact ih h1
   | false=>simp only [look,hj]; exact ih h1
theorem AJ (r L:Nat) (A:App) (get:Nat->List SV) {c:Cfg} {d:u7} {i:Nat} {dst:Option Tmp} {ob:List Prop} (hA:fc C.P r c=some (d,i,dst,A,ob)) (q8:B9 ob) (R4:A.R.own=true) (fT:look c.st.rows r=some A.R)
  (hb:(A.R.n+A.m)*A.bytes<=140737488355328) (h1:∀ i,i<A.R.n->get i=A.R.get i) (h2:∀ i,i<A.m->get (A.R.n+i)=A.get i)
  (I9:∀ q cap,(ji C.P r L c (A.R.next q A.m cap get)).isSome=true)
  (k:∀ q cap,V C (cC C.P r L c (A.R.next q A.m cap get))):V C c:=by
 intro ρ a w hS;have e9:∀ q Q,look c.st.rows q=some Q->q<c.st.nr:=λq Q h=>(hS.rows q Q h).1;revert ρ a w;have Wj:=I9 none 0;have da:=hA;unfold fc at hA;split at hA
 case h_2=>cases hA
 rename_i ops k' hc;split at hA;rename_i d0 ob0 F1;split at hA
 case h_2=>cases hA
 rename_i i0 n C3 KD;split at hA
 case h_2=>cases hA
 rename_i o ho;split at hA
 case h_2=>cases hA
 rename_i cl hg U4;split at hA
 case h_2=>cases hA
 rename_i A0 VH;split at hA
 case h_2=>cases hA
 rename_i hr;cases hA;have eQ:=(d6 _ _).1 hr;have pZ:V2 C.P ops c.st.heap (I6 [r] c.st.rows) ops.size ⟨ops.size,a4a ops.size false,c.st⟩=(d,ob):=F1
 -- what the tail says,for each new place
 have tail:∀ q cap,∃ s' d2 s1,(C.P.follows .mixedOrders=true/\Region.noSelect ops=true/\(jf ops L||a5r ops.size L)=true) /\
   (d.st.rowTo r (A.R.next q A.m cap get)).put o.dst (.v (.one (.row d.st.nr q (A.R.n+A.m) cap)))=some s' /\
   V2 C.P ops c.st.heap (I6 [r] c.st.rows) ops.size ⟨n,d.listed.setIfInBounds i true,s'⟩=(d2,[])/\mw C.P ops L d2=some s1/\cC C.P r L c (A.R.next q A.m cap get)=⟨k',s1⟩:=by
  intro q cap;obtain ⟨c',mD⟩:=a2o.1 (I9 q cap);have hD:cC C.P r L c (A.R.next q A.m cap get)=c':=by simp [cC,mD]
  unfold ji at mD;rw [hc,da] at mD;simp only at mD;split at mD
  ·rename_i s' e1 e2 e3 e4;split at mD
   ·rename_i d2 e5;split at mD
    ·rename_i s1 e6;cases mD;rw [KD] at e5;exact ⟨s',d2,s1,⟨e1,e2,e3⟩,e4,e5,e6,hD⟩
    ·cases mD
   ·cases mD
  ·cases mD
 obtain ⟨_,_,_,⟨hm,D4,hL⟩,_⟩:=tail none 0;have GS:W9 ops L∨ops.size<=L:=by
  rw [a3w] at hL;rcases hL with hL | hL
  ·exact .inl (eW hL)
  ·exact .inr (a0w hL)
 refine nO [] [r] L ops k' hc hm (λD hD e1 e2 e3 e4 e5 A9 _ QP=>?_) (λr' WM R hR=>?_)
 ·rw [bg] at e1;obtain ⟨e5,e6⟩:=e5;refine VD.runM hD (by rw [e4]; exact GS) D4 ops.size _ (by rw [e1,e3,pZ]; exact U7 q8) A9 (λGl=>?_);rw [e1,e3,pZ] at Gl ⊢;refine VD.append i A get C3 KD ho hg U4 VH hb h1 h2 (λk hk=>QP r (by simp) A.R fT k hk) (λq cap=>?_) (λq cap s' N6=>?_)
  ·obtain ⟨s',_,_,_,N6,_⟩:=tail q cap;rw [eQ,N6]; rfl
  ·obtain ⟨s2,d2,s1,_,t1,t2,t3,t4⟩:=tail q cap;rw [eQ,t1] at N6;cases N6;have hW:=N8 t1;have J7:D.rows (d.st.rowTo r (A.R.next q A.m cap get)):=wY (by rw [e3,e6]) Gl (λq Q hQ=>by
    rw [e6] at hQ;exact a1b (e9 q Q hQ) (by rw [<- e5]; exact Gl.2.nr))
   have gV:D.rows s':=⟨λr R hR=>by rw [show s'.rows=_ from congrArg WF.rows hW]; exact J7.1 r R hR,by rw [hW]; exact J7.2⟩;refine VD.runM hD (by rw [e4]; exact GS) D4 ops.size _ (by rw [e1,e3,t2]; simp) gV (λ_=>?_);rw [e1,e3,t2];have:=k q cap;rw [t4] at this;exact VD.fin (by rw [e4]; exact t3) this
 ·have:r'=r:=by simpa using WM
  subst this;rw [fT] at hR; cases hR; exact R4
def uI (x:u7×Nat×Option Tmp×App×List Prop):(Nat×Row×Nat×List SV×Nat)×List Prop:=(fW x.2.2.2.1,x.2.2.2.2)
theorem bh {α:Type} (f:α->List SV) (dl:α) (l:List α) (x:α) (r L:Nat) (q:Option Addr) (cap:Nat) (e:TypeId) (sz:Nat) (xs:List SV) (bytes:Nat) (ob:List Prop) {c:Cfg}
  (hA:(fc C.P r c).map uI=some ((r,d5 f dl l q cap e sz true,1,xs,bytes),ob)) (q8:B9 ob) (fT:look c.st.rows r=some (d5 f dl l q cap e sz true)) (hb:(l.length+1)*bytes<=140737488355328) (hx:f x=xs)
  (I9:∀ q cap,(ji C.P r L c (d5 f dl (l++[x]) q cap e sz true)).isSome=true)
  (k:∀ q cap,V C (cC C.P r L c (d5 f dl (l++[x]) q cap e sz true))):V C c:=by
 cases da:fc C.P r c with
 | none=>rw [da] at hA; cases hA
 | some y =>
  obtain ⟨d,i,dst,A,ob'⟩:=y;rw [da] at hA;simp only [a2u,uI,fW,a0l,a1f] at hA;obtain ⟨⟨e1,e2,e3,e4,e5⟩,rfl⟩:=hA;have n8:(l++[x]).length=l.length+1:=by simp
  have W3:∀ q cap,A.R.next q A.m cap (λi=>f ((l++[x]).getD i dl))=d5 f dl (l++[x]) q cap e sz true:=by
   intro q cap;rw [e2,e3];simp only [Row.next,d5,n8]
  refine AJ r L A (λi=>f ((l++[x]).getD i dl)) da q8 (by rw [e2]; rfl) (by rw [e2]; exact fT) (by rw [e2,e3,e5]; exact hb) ?_ ?_ ?_ ?_
  ·intro i hi;rw [e2] at hi ⊢;have ao:i<l.length:=hi;show f ((l++[x]).getD i dl)=f (l.getD i dl);rw [aG _ _ _ _ ao]
  ·intro i hi;rw [e3] at hi;have:i=0:=by omega
   subst this;rw [e2,e4,<- hx];show f ((l++[x]).getD (l.length+0) dl)=f x;rw [bb]; rfl
  ·intro q cap; rw [W3]; exact I9 q cap
  ·intro q cap; rw [W3]; exact k q cap
end
end Go.SX
end
section
namespace Go.SX
open Go
def lX (s:St):List (Nat×Blk)×Nat×List (Nat×Row)×Nat×List m6:=(s.heap,s.next,s.rows,s.nr,s.pers)
theorem x6.frag {ρ:Nat->Nat} {s F:St} {w:World} (h:x6 ρ s w) (e:lX s=lX F):x6 ρ F w:=by
 obtain ⟨n,slots,gs,heap,next,rows,nr,pers,wr,fx⟩:=s;obtain ⟨n',slots',gs',KI,next',rows',nr',pers',wr',fx'⟩:=F;simp only [lX,a1f] at e;obtain ⟨rfl,rfl,rfl,rfl,rfl⟩:=e;exact ⟨h.heap,h.inj,h.lt,h.rows,h.rowsD,h.pers⟩
theorem V0.frag {α:Type} {ρ:Nat->Nat} {s F:St} {p:α->Prop} {v:α->RV} {F':α->St} {w:World} {e:Ending} {w':World} (h:V0 ρ F p v F' w e w') (he:lX s=lX F):V0 ρ s p v F' w e w':=by
 obtain ⟨n,slots,gs,heap,next,rows,nr,pers,wr,fx⟩:=s;obtain ⟨n',slots',gs',KI,next',rows',nr',pers',wr',fx'⟩:=F;simp only [lX,a1f] at he;obtain ⟨rfl,rfl,rfl,rfl,rfl⟩:=he;exact h
section
variable {C:Ctx}
theorem o5 {α:Type} (f:FuncId) (xs ys:List CV) (hs rs:List Nat) (pm:List Bool) (F:St) (p:α->Prop) (v:α->RV) (F':α->St) {c:Cfg} (hc:I4 c=some (none,f,xs))
  (hb:D6 C.P f=true) (G0:(o8 [] hs rs pm c.st).map lX=some (lX F)) (qr:∀ ρ,xs.map (a2a ρ)=ys.map (a2a (λi=>ρ (hs.getD i 0))))
  (hu:∀ x,(L8 (F' x).heap&&(ngB (v x)&&(j5 c (c.st.bring hs rs (F' x)) ((v x).bring hs c.st.nr)).isSome))=true)
  (h:∀ ρ w,x6 ρ F w->Calls C.P f (ys.map (a2a ρ)).toArray w (V0 ρ F p v F' w))
  (k:∀ x,p x->V C (u0 c (c.st.bring hs rs (F' x)) ((v x).bring hs c.st.nr))):V C c:=by
 obtain ⟨s',N6,he⟩:=a1y.1 G0;refine V.callG f xs ys hs rs pm s' p v F' hc hb N6 qr hu (fun ρ w hF=>?_) k;exact (h ρ w (hF.frag he)).mono λe w' hg=>hg.frag he
def CH (P:Program) (L:Nat) (c:Cfg):Cfg:=((drawAll P L c).map (·.1)).getD c
theorem mL (L:Nat) (ob:List Prop) {c:Cfg} (hr:(SX.drawAll C.P L c).map (·.2)=some ob) (ho:B9 ob) (h:V C (CH C.P L c)):V C c:=by
 cases hd:SX.drawAll C.P L c with
 | none=>rw [hd] at hr; cases hr
 | some x =>
  obtain ⟨c',ob'⟩:=x;rw [hd] at hr;cases hr;refine V.drawAll L _ hd ho ?_;have:CH C.P L c=c':=by simp [CH,hd]
  rw [this] at h; exact h
theorem s5 (ks hs rs:List Nat) (pm:List Bool) {T:List Item} {s':St} {c:Cfg} (h:V C ⟨T,s'⟩) (hT:c.todo=T) (hp:o8 ks hs rs pm c.st=some s'):V C c :=
 V.pick ks hs rs pm s' hp (hT▸h)
theorem C0 (ks hs rs:List Nat) (pm:List Bool) {ι:Type} (μ : ι->Nat) (st:ι->St) (pre:ι->Prop) (i:ι) {c:Cfg}
  (hp:o8 ks hs rs pm c.st=some (st i)) (hi:pre i) (kj:∀ i,pre i->(∀ j,pre j -> μ j < μ i->V C ⟨c.todo,st j⟩)->V C ⟨c.todo,st i⟩):V C c :=
 V.pick ks hs rs pm (st i) hp (V.loop μ st pre kj i hi)
def SV.soft:SV->SV
 | .bool b=>.sb b
 | x=>x
theorem uJ (ρ:Nat->Nat) (x:SV):x.soft.den ρ=x.den ρ:=by cases x<;>rfl
theorem wZ (x:SV) (W:WF) (h:x.wf W):x.soft.wf W:=by cases x<;>exact h
def uK (b:Nat):List (Nat×Blk)->List (Nat×Blk)
 | []=>[]
 | (k,blk)::l=>match a1m k b with
  | true=>(k,⟨blk.cells.map SV.soft,blk.elem,blk.rw⟩)::uK b l
  | false=>(k,blk)::uK b l
theorem ir {b:Nat}:∀ {l:List (Nat×Blk)} {i:Nat} {blk:Blk},look (uK b l) i=some blk->look l i=some blk∨∃ blk0,look l i=some blk0/\blk=⟨blk0.cells.map SV.soft,blk0.elem,blk0.rw⟩
 | (k,c)::l,i,blk,h=>by
  simp only [uK] at h;simp only [look];split at h
  ·simp only [look] at h;split at h
   ·cases h; exact .inr ⟨c,rfl,rfl⟩
   ·exact ir h
  ·simp only [look] at h;split at h
   ·cases h; exact .inl rfl
   ·exact ir h
theorem V.soft (b:Nat) {c:Cfg} (h:V C ⟨c.todo,{ c.st with heap:=uK b c.st.heap }⟩):V C c:=by
 intro ρ a w hS;refine h ρ a w ⟨hS.n,hS.slots,hS.grds,λi blk hb=>?_,hS.inj,hS.lt,hS.defers,hS.chg,hS.rows,hS.rowsD,hS.pers,hS.fix⟩;rcases ir hb with hl | ⟨blk0,hl,rfl⟩
 ·exact hS.heap i blk hl
 ·obtain ⟨h1,h2,h3,h4⟩:=hS.heap i blk0 hl;refine ⟨h1,?_,?_,h4⟩
  ·have:(blk0.cells.map SV.soft).map (a4m ρ)=blk0.cells.map (a4m ρ):=by
    rw [a3q]; exact a2g λx _=>uJ ρ x
   simp only [this]; exact h2
  ·intro x hx;obtain ⟨y,hy,rfl⟩:=a1d.1 hx;exact wZ y _ (h3 y hy)
theorem sA (g:Nat) (b:Bool) {c:Cfg} (hc:look c.st.slots g=some (.v (.one (.sb b)))) (h1:b=true->V C (c.know g true)) (h2:b=false->V C (c.know g false)):V C c:=by
 intro ρ a w hS;cases b with
 | true=>exact h1 rfl ρ a w (hS.know hc)
 | false=>exact h2 rfl ρ a w (hS.know hc)
end
end Go.SX
end
section
namespace Go.SX
open Go
def e8 (R:Row):m6:=⟨R.uses,R.ok⟩
section
variable {C:Ctx} {ρ:Nat->Nat} {s:St} {a:Act} {w:World}
theorem Sat.rowOfP (h:Sat C ρ s a w) {i:Nat} {R:Row} (hp:s.pers[i]?=some (e8 R)) (ho:R.own=false) :
  Sat C ρ { s with rows:=(s.nr,R)::s.rows,nr:=s.nr+1 } a w:=by
 have hm:e8 R∈s.pers:=a0v hp;obtain ⟨p1,p2,p3⟩:=h.pers _ hm;have e9:∀ r R,look s.rows r=some R->r<s.nr:=λr R hR=>(h.rows r R hR).1;have B0:s.W.le ⟨s.next,s.nr+1,(s.nr,R)::s.rows⟩:=by
  refine ⟨a0q _,a4l _,λr hr Q hQ=>?_⟩;have eQ:r<s.nr:=hr;simp only [look] at hQ;split at hQ
  ·rename_i e; have:=(d6 _ _).1 e; omega
  ·exact hQ
 refine ⟨h.n,λi v hv=>⟨(h.slots i v hv).1,RV.wf_mono B0 v (h.slots i v hv).2⟩,h.grds,?_,h.inj,h.lt,h.defers,h.chg,?_,?_,?_,h.fix⟩
 ·intro b blk hb;obtain ⟨k1,k2,k3,k4⟩:=h.heap b blk hb;exact ⟨k1,k2,λx hx=>SV.wf_mono B0 x (k3 x hx),k4⟩
 ·intro r Q hQ;simp only [look] at hQ;split at hQ
  ·rename_i e';cases hQ;have:=(d6 _ _).1 e';refine ⟨by show r<s.nr+1; omega,p1,λk hk=>?_⟩;obtain ⟨q1,q2,_⟩:=p3 k hk;exact ⟨q1,q2,λe=>by rw [ho] at e; cases e⟩
  ·obtain ⟨k0,k1,k2⟩:=h.rows r Q hQ;exact ⟨by show r<s.nr+1; omega,k1,k2⟩
 ·intro r1 r2 R1 R2 h1 h2 E0 ky k eP eu;simp only [look] at h1 h2;split at h1
  ·cases h1; rw [ho] at ky; cases ky
  ·split at h2
   ·cases h2; exact (p3 k eu).2.2 r1 R1 h1 ky eP
   ·exact h.rowsD r1 r2 R1 R2 h1 h2 E0 ky k eP eu
 ·intro p hp;obtain ⟨q1,q2,q3⟩:=h.pers p hp;refine ⟨q1,q2,λk hD=>⟨(q3 k hD).1,(q3 k hD).2.1,λr Q hQ NU=>?_⟩⟩;simp only [look] at hQ;split at hQ
  ·cases hQ; rw [ho] at NU; cases NU
  ·exact (q3 k hD).2.2 r Q hQ NU
theorem Hj (t i:Nat) (R:Row) {c:Cfg} (hl:look c.st.slots t=some (.v (.one (.val (.slice R.s R.n R.cap))))) (hg:p5 c.st.gs t=false) (hp:c.st.pers[i]?=some (e8 R)) (ho:R.own=false)
  (h:V C ⟨c.todo,{ c.st with slots:=upd c.st.slots t (.v (.one (.row c.st.nr R.s R.n R.cap))),rows:=(c.st.nr,R)::c.st.rows,nr:=c.st.nr+1 }⟩):V C c:=by
 intro ρ a w hS;have h1:=hS.rowOfP hp ho;refine h ρ a w ⟨h1.n,?_,?_,h1.heap,h1.inj,h1.lt,h1.defers,h1.chg,h1.rows,h1.rowsD,h1.pers,h1.fix⟩
 ·intro j v hv;simp only [s8] at hv;by_cases e:t=j
  ·rw [if_pos e] at hv;cases hv;subst e;refine ⟨(h1.slots t _ hl).1,a3p _,λQ hQ=>?_⟩;simp only [St.W,look,a4h] at hQ;cases hQ;exact ⟨rfl,rfl,rfl⟩
  ·rw [if_neg e] at hv;exact h1.slots j v hv
 ·intro j g pol b x hv;simp only [s8] at hv ⊢;by_cases e:t=j
  ·rw [if_pos e] at hv; cases hv
  ·rw [if_neg e] at hv;obtain ⟨k1,k2⟩:=h1.grds j g pol b x hv;refine ⟨k1,?_⟩;rw [if_neg (λe'=>?_)]
   ·exact k2
   ·rw [<- e'] at k1;have k1':p5 c.st.gs t=true:=k1;rw [hg] at k1'; cases k1'
end
theorem G4 {C:Ctx} (t i:Nat) (R:Row) {c:Cfg} (h:V C ⟨c.todo,{ c.st with slots:=upd c.st.slots t (.v (.one (.row c.st.nr R.s R.n R.cap))),rows:=(c.st.nr,R)::c.st.rows,nr:=c.st.nr+1 }⟩) (hl:look c.st.slots t=some (.v (.one (.val (.slice R.s R.n R.cap)))):=by kernel_rfl) (hg:p5 c.st.gs t=false:=by kernel_rfl) (hp:c.st.pers[i]?=some (e8 R):=by kernel_rfl) (ho:R.own=false:=by kernel_rfl):V C c:=Hj t i R hl hg hp ho h
end Go.SX
end
section
namespace Go.SX
open Go
def wfS (n:Nat):SV->Bool
 | .ptr b _=>a4t b n
 | .fn _ cap=>cap.all λb=>a4t b n
 | x=>F2 x
def wfC (n:Nat):CV->Bool
 | .one x=>wfS n x
 | .agg xs=>xs.all (wfS n)
def wfR (n:Nat):RV->Bool
 | .v x=>wfC n x
 | .tup xs=>xs.all (wfC n)
 | .grd _ _ _ _=>false
theorem CI {n:Nat} {x:SV} (h:wfS n x=true) {W:WF} (hW:n=W.n):x.wf W:=by
 subst hW;cases x with
 | ptr b off=>exact Nat.blt_eq.mp h
 | fn f cap=>intro c hc; exact Nat.blt_eq.mp (a0y.1 h c hc)
 | _=>first | trivial | cases h
theorem nZ {n:Nat} {x:CV} (h:wfC n x=true) {W:WF} (hW:n=W.n):x.wf W:=by
 cases x with
 | one x=>exact CI h hW
 | agg xs=>intro y hy; exact CI (a0y.1 h y hy) hW
theorem kM {n:Nat} {x:RV} (h:wfR n x=true) {W:WF} (hW:n=W.n):x.wf W/\∀ g pol b y,x≠.grd g pol b y:=by
 cases x with
 | v x=>exact ⟨nZ h hW,by simp⟩
 | tup xs=>exact ⟨λy hy=>nZ (a0y.1 h y hy) hW,by simp⟩
 | grd=>cases h
def C9 (ps:List m6) (w:World):Prop :=
 ∀ p∈ps,p.φ w/\(∀ w',(∀ k,p.D k->w'.heap[k]?=w.heap[k]?)->p.φ w')/\∀ k,p.D k->k<w.heap.size
def r9 (g:Nat) (cells:List SV) (e:TypeId):m6:=⟨λk=>k=g,λw=>w.heap[g]?=some (.cells (cells.map a3n).toArray e (0,0))⟩
section
variable {C:Ctx} {ρ:Nat->Nat} {s:St} {a:Act} {w:World}
theorem Sat.persOk (h:Sat C ρ s a w) (pm:List Bool):C9 (lU pm s.pers) w:=by
 intro p hp;obtain ⟨h1,h2,h3⟩:=h.pers p (aE _ _ p hp);exact ⟨h1,h2,λk hk=>(h3 k hk).1⟩
theorem z6 {P:Program} {f:FuncId} {fn:Func} {R:Ending->World->Prop} {w:World} (ps:List m6) (S0:C9 ps w) (xs:List CV) (wr:Bool)
  (hf:P.funcs[f]?=some fn) (hb:fn.body.isSome=true) (B0:a5r xs.length fn.ntmps=true) (hw:xs.all (wfC 0)=true)
  (h:V ⟨P,f,R,λ_=>False,w,λ_=>0,none⟩ ⟨[.code (I5 fn)],st0 fn.ntmps xs [] 0 [] 0 ps wr⟩):Calls P f (xs.map (a2a (λ_=>0))).toArray w R:=by
 refine aZ (λ_=>False) (λ_=>0) (λ_=>0) xs (st0 fn.ntmps xs [] 0 [] 0 ps wr) hf hb B0 (λa h1 h2 h3=>?_) h;refine ⟨h1,?_,?_,?_,?_,?_,h2,Chg.refl _ _,?_,?_,?_,λb hb=>absurd hb (a0x b)⟩
 ·intro i v hv;obtain ⟨x,rfl,_,hx⟩:=K0 xs 0 i v hv;exact ⟨h3 i x (by simpa using hx),nZ (a0y.1 hw x (a0v hx)) rfl⟩
 ·intro i g pol c x hv;obtain ⟨y,e,_⟩:=K0 xs 0 i _ hv;cases e
 ·intro b blk hb; simp [st0,look] at hb
 ·intro b c hb; exact absurd hb (a0x _)
 ·intro b hb; exact absurd hb (a0x _)
 ·intro r R hr; simp [st0,look] at hr
 ·intro r r' R R' hr; simp [st0,look] at hr
 ·intro p hp;obtain ⟨q1,q2,q3⟩:=S0 p hp;exact ⟨q1,q2,λk hk=>⟨q3 k hk,λb hb=>absurd hb (a0x _),λr R hr=>by simp [st0,look] at hr⟩⟩
theorem w6 {P:Program} {f:FuncId} {fn:Func} {R:Ending->World->Prop} {w:World} (g off:Nat) (hg:g<w.heap.size) (wr:Bool)
  (hf:P.funcs[f]?=some fn) (hb:fn.body.isSome=true) (B0:a5r 1 fn.ntmps=true)
  (h:V ⟨P,f,R,λ_=>False,w,λ_=>g,none⟩ ⟨[.code (I5 fn)],{ st0 fn.ntmps [.one (.ptr 0 off)] [] 1 [] 0 [] wr with fx:=1 }⟩):Calls P f #[.pointer (some ⟨g,off,none⟩)] w R:=by
 refine aZ (λ_=>False) (λ_=>g) (λ_=>g) [.one (.ptr 0 off)] { st0 fn.ntmps [.one (.ptr 0 off)] [] 1 [] 0 [] wr with fx:=1 } hf hb B0 (λa h1 h2 h3=>?_) h;refine ⟨h1,?_,?_,?_,?_,?_,h2,Chg.refl _ _,?_,?_,?_,λb hb=>⟨hb,rfl⟩⟩
 ·intro i v hv;obtain ⟨x,rfl,_,hx⟩:=K0 _ 0 i v hv;refine ⟨h3 i x (by simpa using hx),?_⟩;have hm:=a0v hx;rcases a0d.1 hm with rfl;exact Nat.zero_lt_one
 ·intro i g pol c x hv;obtain ⟨y,e,_⟩:=K0 _ 0 i _ hv;cases e
 ·intro b blk hb; simp [st0,look] at hb
 ·intro b c hb hc _;have B8:b<1:=hb;have mD:c<1:=hc;omega
 ·intro b hb; exact hg
 ·intro r R hr; simp [st0,look] at hr
 ·intro r r' R R' hr; simp [st0,look] at hr
 ·intro p hp; simp [st0] at hp
theorem u9 (f:FuncId) (xs:List CV) (v:RV) {c:Cfg} (hc:I4 c=some (none,f,xs)) (hb:(D6 C.P f&&(wfR c.st.next v&&(j5 c c.st v).isSome))=true)
  (h:∀ ρ a w,Sat C ρ c.st a w->Calls C.P f (xs.map (a2a ρ)).toArray w (u6 (v.den ρ) w)) (k:V C (u0 c c.st v)):V C c:=by
 obtain ⟨h1,h2,h3⟩:=sw hb;obtain ⟨w1,w2⟩:=kM (W:=c.st.W) h2 rfl;exact su f xs v hc (S3 h1) h3 w1 w2 h k
def xa (c:Cfg):Option (TypeId×Nat×Nat) :=
 match V1 c with
 | some (.load t x)=>match ev c.st none x with
  | some (.one (.val (.pointer (some ⟨g,off,none⟩))))=>some (t,g,off)
  | _=>none
 | _=>none
theorem Hk (i:Nat) (t:TypeId) (g off:Nat) (cells:List SV) (e:TypeId) (v:CV) {c:Cfg} (hc:xa c=some (t,g,off)) (hp:c.st.pers[i]?=some (r9 g cells e)) (M3:cells.all F2=true)
  (hv:R9 C.P t cells off=some v) (I9:(j5 c c.st (.v v)).isSome=true) (k:V C (u0 c c.st (.v v))):V C c:=by
 unfold xa at hc;split at hc
 ·rename_i t' x f7;split at hc
  ·rename_i g' off' hx;cases hc;refine lV f7 (fun ρ a w o ho hS=>?_);obtain ⟨e1,_⟩:=d7 hS.toP (j9 c.st) hx;obtain ⟨p1,_,_⟩:=hS.pers _ (a0v hp);have wK:∀ x∈cells,x.plain:=λx hx=>P6 (a0y.1 M3 x hx);have Gn:cells.map a3n=cells.map (a4m ρ):=a2g λx hx=>(J0 (wK x hx) ρ).symm;have hh:w.heap[g]?=some (.cells (cells.map (a4m ρ)).toArray e (0,0)):=by rw [<- Gn]; exact p1
   obtain ⟨l1,l2⟩:=U6 (ρ:=ρ) (w:=w) hv c.st.W (λx hx=>N7 (wK x hx) _) hh;refine ⟨ρ,.v v,w,c.st,?_,hS,l2,by simp,_,x4 I9,k⟩;unfold execOp;rw [ho];refine H1 ?_;rw [e1];simp only [a2a,a4m,Instr.loadAt,Instr.sureAddr,a1n,a2i,Result.andThen_ok,l1];rfl
  ·cases hc
 ·cases hc
end
theorem y8 {C:Ctx} (i:Nat) (t:TypeId) (g off:Nat) (cells:List SV) (e:TypeId) (v:CV) {c:Cfg} (k:V C (u0 c c.st (.v v))) (hc:xa c=some (t,g,off):=by kernel_rfl) (hp:c.st.pers[i]?=some (r9 g cells e):=by kernel_rfl) (M3:cells.all F2=true:=by kernel_rfl)
    (hv:R9 C.P t cells off=some v:=by kernel_rfl) (I9:(j5 c c.st (.v v)).isSome=true:=by kernel_rfl):V C c:=Hk i t g off cells e v hc hp M3 hv I9 k
end Go.SX
end
section
namespace Go.SX
open Go
structure DAt where
 ops:Array Oper
 k:List Item
 c:Cfg
 d:u7
def yS (P:Program) (L:Nat) (c:Cfg):Option DAt :=
 match ce c with
 | some (ops,k)=>match P.follows .mixedOrders,Region.noSelect ops,jf ops L||a5r ops.size L with
  | true,true,true=>match V2 P ops c.st.heap c.st.rows ops.size ⟨ops.size,a4a ops.size false,c.st⟩ with
   | (d,[])=>some ⟨ops,k,c,d⟩
   | _=>none
  | _,_,_=>none
 | none=>none
def yT (x:DAt):Option (Option (Nat×Bool×Bool)×FuncId×List CV) :=
 match Region.ready .any x.ops x.d.listed,x.d.fuel with
 | [i],_+1=>callD x.ops i x.d.st
 | _,_=>none
def oa (P:Program) (x:DAt) (v:RV):Option DAt :=
 match Region.ready .any x.ops x.d.listed,x.d.fuel with
 | [i],n+1=>match x.ops[i]? with
  | some o=>match x.d.st.put o.dst v with
   | some s'=>match V2 P x.ops x.c.st.heap x.c.st.rows x.ops.size ⟨n,x.d.listed.setIfInBounds i true,s'⟩ with
    | (d,[])=>some ⟨x.ops,x.k,x.c,d⟩
    | _=>none
   | none=>none
  | none=>none
 | _,_=>none
def Hl (P:Program) (L:Nat) (x:DAt):Option Cfg :=
 match mw P x.ops L x.d with
 | some s1=>some ⟨x.k,s1⟩
 | none=>none
def VA (C:Ctx) (L:Nat) (x:DAt):Prop :=
 ∀ D:gP,D.ok->D.h0=x.c.st.heap->D.r0=x.c.st.rows->D.L=L->(W9 x.ops L∨x.ops.size<=L)->Region.noSelect x.ops=true->D.rows x.d.st->VD C D x.ops x.k x.d
section
variable {C:Ctx}
theorem CJ (L:Nat) {c:Cfg} {x:DAt} (h:yS C.P L c=some x) (k:VA C L x):V C c:=by
 unfold yS at h;split at h
 ·rename_i ops k' hc;split at h
  ·rename_i hm D4 hL;split at h
   ·rename_i d F1;cases h;have GS:W9 ops L∨ops.size<=L:=by
     rw [a3w] at hL;rcases hL with hL | hL
     ·exact .inl (eW hL)
     ·exact .inr (a0w hL)
    refine nO [] [] L ops k' hc hm (λD hD h1 h2 h3 h4 _ A9 _ _=>?_) (by simp);rw [bg] at h1 h3;refine VD.runM hD (by rw [h4]; exact GS) D4 ops.size _ (by rw [h1,h3,F1]; simp) A9 (λJ7=>?_);rw [h1,h3,F1] at J7 ⊢;exact k D hD h1 h3 h4 GS D4 J7
   ·cases h
  ·cases h
 ·cases h
theorem VA.call (L:Nat) (f:FuncId) (xs:List CV) (v:RV) {x y:DAt} (hc:yT x=some (none,f,xs)) (hb:(D6 C.P f&&wfR x.d.st.next v)=true) (hy:oa C.P x v=some y)
  (h:∀ ρ a w,Sat C ρ x.d.st a w->Calls C.P f (xs.map (a2a ρ)).toArray w (u6 (v.den ρ) w)) (k:VA C L y):VA C L x:=by
 intro D hD e1 e2 e3 hL D4 A9;rw [a0g] at hb;obtain ⟨b1,b2⟩:=hb;obtain ⟨w1,w2⟩:=kM (W:=x.d.st.W) b2 rfl;unfold yT at hc;unfold oa at hy;split at hc
 ·rename_i i n hr hf;rw [hr,hf] at hy;simp only at hy;split at hy
  ·rename_i o ho;split at hy
   ·rename_i s' o9;split at hy
    ·rename_i d F1;cases hy;refine VD.call i f xs v hr hf ho hc (S3 b1) o9 w1 w2 h ?_;have hW:=N8 o9;have J7:D.rows s':=⟨λr R hR=>by rw [show s'.rows=x.d.st.rows from congrArg WF.rows hW]; exact A9.1 r R hR,by rw [hW]; exact A9.2⟩;refine VD.runM hD (by rw [e3]; exact hL) D4 x.ops.size _ (by rw [e1,e2,F1]; simp) J7 (λgV=>?_);rw [e1,e2,F1] at gV ⊢;exact k D hD e1 e2 e3 hL D4 gV
    ·cases hy
   ·cases hy
  ·cases hy
 ·cases hc
theorem VA.fin (L:Nat) {x:DAt} {c':Cfg} (h:Hl C.P L x=some c') (k:V C c'):VA C L x:=by
 intro D hD e1 e2 e3 hL D4 A9;unfold Hl at h;split at h
 ·rename_i s1 hs;cases h;exact VD.fin (by rw [e3]; exact hs) k
 ·cases h
instance:Inhabited DAt:=⟨⟨#[],[],⟨[],{ n:=0,slots:=[],gs:=[],heap:=[],next:=0,rows:=[],nr:=0,pers:=[],wr:=false }⟩,⟨0,#[],{ n:=0,slots:=[],gs:=[],heap:=[],next:=0,rows:=[],nr:=0,pers:=[],wr:=false }⟩⟩⟩
def cj (P:Program) (L:Nat) (c:Cfg):DAt:=(yS P L c).getD default
def bO (P:Program) (x:DAt) (v:RV):DAt:=(oa P x v).getD default
def Ob (P:Program) (L:Nat) (x:DAt):Cfg:=(Hl P L x).getD x.c
theorem fY {α:Type} {x:Option α} (d:α) (h:x.isSome=true):x=some (x.getD d):=by cases x<;>simp at h ⊢
theorem mM (L:Nat) (f1:FuncId) (xs1:List CV) (v1:RV) (f2:FuncId) (xs2:List CV) (v2:RV) {c:Cfg} (h0:(yS C.P L c).isSome=true)
  (h1:yT (cj C.P L c)=some (none,f1,xs1)) (b1:(D6 C.P f1&&wfR (cj C.P L c).d.st.next v1)=true) (g1:(oa C.P (cj C.P L c) v1).isSome=true)
  (c1:∀ ρ a w,Sat C ρ (cj C.P L c).d.st a w->Calls C.P f1 (xs1.map (a2a ρ)).toArray w (u6 (v1.den ρ) w))
  (h2:yT (bO C.P (cj C.P L c) v1)=some (none,f2,xs2)) (b2:(D6 C.P f2&&wfR (bO C.P (cj C.P L c) v1).d.st.next v2)=true) (g2:(oa C.P (bO C.P (cj C.P L c) v1) v2).isSome=true)
  (c2:∀ ρ a w,Sat C ρ (bO C.P (cj C.P L c) v1).d.st a w->Calls C.P f2 (xs2.map (a2a ρ)).toArray w (u6 (v2.den ρ) w))
  (g3:(Hl C.P L (bO C.P (bO C.P (cj C.P L c) v1) v2)).isSome=true)
  (k:V C (Ob C.P L (bO C.P (bO C.P (cj C.P L c) v1) v2))):V C c :=
 CJ L (fY default h0) (VA.call L f1 xs1 v1 h1 b1 (fY default g1) c1 (VA.call L f2 xs2 v2 h2 b2 (fY default g2) c2 (VA.fin L (fY _ g3) k)))
end
section
variable {C:Ctx} {ρ:Nat->Nat} {s:St} {a:Act} {w:World}
theorem mN (t g:Nat) (cells:List SV) (e:TypeId) {c:Cfg} (hl:look c.st.slots t=some (.v (.one (.val (.pointer (some ⟨g,0,none⟩)))))) (hg:p5 c.st.gs t=false) (hp:c.st.pers=[r9 g cells e])
  (M3:cells.all F2=true) (r7:c.st.rows=[])
  (h:V C ⟨c.todo,{ c.st with slots:=upd c.st.slots t (.v (.one (.ptr c.st.next 0))),heap:=(c.st.next,⟨cells,e,false⟩)::c.st.heap,next:=c.st.next+1,pers:=[] }⟩):V C c:=by
 intro ρ a w hS;obtain ⟨p1,_,p3⟩:=hS.pers (r9 g cells e) (by rw [hp]; simp);obtain ⟨q1,q2,_⟩:=p3 g rfl;have wK:∀ x∈cells,x.plain:=λx hx=>P6 (a0y.1 M3 x hx)
 let ρ':Nat->Nat:=λi=>if i=c.st.next then g else ρ i
 have hρ:∀ b,b<c.st.next->ρ' b=ρ b:=λb hb=>if_neg (by omega);have hρn:ρ' c.st.next=g:=if_pos rfl;have B0:c.st.W.le ⟨c.st.next+1,c.st.nr,c.st.rows⟩:=⟨a4l _,a0q _,λ_ _ _ h=>h⟩;refine h ρ' a w ⟨hS.n,?_,?_,?_,?_,?_,hS.defers,hS.chg,?_,?_,?_,λb hb=>?_⟩
 ·intro i v hv;simp only [s8] at hv;by_cases e':t=i
  ·subst e';rw [if_pos rfl] at hv;cases hv;refine ⟨?_,a3p _⟩;rw [(hS.slots t _ hl).1];show some (Value.pointer (some ⟨g,0,none⟩))=some (.pointer (some ⟨ρ' c.st.next,0,none⟩));rw [hρn]
  ·rw [if_neg e'] at hv;obtain ⟨k1,k2⟩:=hS.slots i v hv;exact ⟨by rw [k1,RV.den_congr (W:=c.st.W) hρ v k2],RV.wf_mono B0 v k2⟩
 ·intro i g' pol b x hv;simp only [s8] at hv ⊢;by_cases e':t=i
  ·rw [if_pos e'] at hv; cases hv
  ·rw [if_neg e'] at hv;obtain ⟨k1,k2⟩:=hS.grds i g' pol b x hv;refine ⟨k1,?_⟩;rw [if_neg (λe2=>?_)]
   ·exact k2
   ·rw [<- e2,hg] at k1; cases k1
 ·intro b blk hb;simp only [look] at hb;split at hb
  ·rename_i e';cases hb;have:=(d6 _ _).1 e';subst this;refine ⟨a3p _,?_,λx hx=>N7 (wK x hx) _,λhh=>by cases hh⟩;rw [hρn];have:cells.map (a4m ρ')=cells.map a3n:=a2g λx hx=>J0 (wK x hx) _;simp only [this];exact p1
  ·obtain ⟨k1,k2,k3,k4⟩:=hS.heap b blk hb;refine ⟨Nat.lt_succ_of_lt k1,?_,λx hx=>SV.wf_mono B0 x (k3 x hx),?_⟩
   ·rw [hρ b k1,x8 (W:=c.st.W) hρ _ k3]; exact k2
   ·rw [hρ b k1]; exact k4
 ·intro b d hb hd he;have B8:b<c.st.next+1:=hb;have NQ:d<c.st.next+1:=hd;by_cases e1:b=c.st.next<;>by_cases e2:d=c.st.next
  ·omega
  ·subst e1; rw [hρn,hρ d (by omega)] at he; exact absurd he.symm (q2 d (by omega))
  ·subst e2; rw [hρn,hρ b (by omega)] at he; exact absurd he (q2 b (by omega))
  ·rw [hρ b (by omega),hρ d (by omega)] at he; exact hS.inj b d (by omega) (by omega) he
 ·intro b hb;have B8:b<c.st.next+1:=hb;by_cases e1:b=c.st.next
  ·subst e1; rw [hρn]; exact q1
  ·rw [hρ b (by omega)]; exact hS.lt b (by omega)
 ·intro r R hR;have G8:look c.st.rows r=some R:=hR;rw [r7] at G8; cases G8
 ·intro r r' R R' hR;have G8:look c.st.rows r=some R:=hR;rw [r7] at G8; cases G8
 ·intro p hp; cases hp
 ·obtain ⟨k1,k2⟩:=hS.fix b hb;exact ⟨Nat.lt_succ_of_lt k1,by rw [hρ b k1]; exact k2⟩
end
end Go.SX
end
section
namespace Go.SX
open Go
def N9 {α:Type} (ρ:Nat->Nat) (F:St) (p:α->Prop) (v:α->RV) (F':α->St) (w:World) (e:Ending) (w':World):Prop :=
 ∃ x ρ',p x/\e=.returned ((v x).den ρ')/\(∀ b,b<F.next->ρ' b=ρ b)/\F.next<=(F' x).next /\
  (∀ b,F.next<=b->b<(F' x).next->w.heap.size<=ρ' b∨n6 ρ F (ρ' b))/\x6 ρ' (F' x) w' /\
  (∀ b,b<F.next->∃ blk,look (F' x).heap b=some blk)/\(v x).wf (F' x).W/\Chg (n6 ρ F) w w' /\
  (∀ b blk,b<F.next->look (F' x).heap b=some blk->blk.rw=true->∃ blk0,look F.heap b=some blk0/\blk0.rw=true) /\
  (∀ r R,look (F' x).rows r=some R->∀ k,R.uses k->(R.own=true/\n6 ρ F k)∨(R.own=false/\dn F k)∨w.heap.size<=k) /\
  (∀ q∈(F' x).pers,∀ k,q.D k->w.heap.size<=k∨n6 ρ F k)
def CallsK {α:Type} (P:Program) (f:FuncId) (ys:List CV) (F:St) (p:α->Prop) (v:α->RV) (F':α->St):Prop :=
 ∀ ρ w,x6 ρ F w->Calls P f (ys.map (a2a ρ)).toArray w (N9 ρ F p v F' w)
def P7 (n0:Nat) (S:Nat->Prop) (p:m6):m6:=⟨p.D,λw=>p.φ w/\∀ k,p.D k->n0<=k∨S k⟩
def H5 (hs:List Nat) (n m:Nat):List Nat:=s7 hs (cA (m - hs.length) n)
def St.bringK (s:St) (hs rs:List Nat) (n0:Nat) (S:Nat->Prop) (F:St):St :=
 { s with heap:=cz (H5 hs s.next F.next) s.nr s.heap F.heap,next:=s.next+(F.next - hs.length),rows:=G9 s.nr (H4 rs s.rows) F.rows,nr:=s.nr+F.nr,
           pers:=s7 (F.pers.map (P7 n0 S)) s.pers }
theorem iu {α:Type}:∀ (l m:List α),s7 l m=l++m
 | [],m=>rfl
 | x::l,m=>by simp only [s7,iu l m,List.cons_append]
theorem qG {hs:List Nat} {n m i:Nat} (h:i<hs.length):(H5 hs n m).getD i 0=hs.getD i 0:=by
 simp [H5,iu,a0r,a6x h]
theorem AK {hs:List Nat} {n m i:Nat} (h:hs.length<=i) (h':i<m):(H5 hs n m).getD i 0=n+(i - hs.length):=by
 simp only [H5,iu,a0r,a6o h];rw [nV (by omega)];rfl
section
variable {C:Ctx} {ρ:Nat->Nat} {s:St} {a:Act} {w w':World}
theorem Sat.bringK1 (h:Sat C ρ s a w) {hs rs:List Nat} {F F':St} {ρ':Nat->Nat} (hp:(o8 [] hs rs [] s).map r8=some (r8 F)) (lQ:L8 F'.heap=true)
  (hρ':∀ b,b<F.next->ρ' b=ρ (hs.getD b 0)) (C4:F.next<=F'.next) (uf:∀ b,F.next<=b->b<F'.next->w.heap.size<=ρ' b∨n6 (λi=>ρ (hs.getD i 0)) F (ρ' b))
  (hF:x6 ρ' F' w') (hkeep:∀ b,b<F.next->∃ blk,look F'.heap b=some blk) (hc:Chg (n6 (λi=>ρ (hs.getD i 0)) F) w w')
  (A9:∀ b blk,b<F.next->look F'.heap b=some blk->blk.rw=true->∃ blk0,look F.heap b=some blk0/\blk0.rw=true)
  (hru:∀ r R,look F'.rows r=some R->∀ k,R.uses k->(R.own=true/\n6 (λi=>ρ (hs.getD i 0)) F k)∨(R.own=false/\dn F k)∨w.heap.size<=k)
  (S0:∀ q∈F'.pers,∀ k,q.D k->w.heap.size<=k∨n6 (λi=>ρ (hs.getD i 0)) F k) :
  ∃ ρ1,Sat C ρ1 (s.bringK hs rs C.w0.heap.size C.S F') a w'/\(∀ b,b<F'.next->ρ1 ((H5 hs s.next F'.next).getD b 0)=ρ' b) /\
   (∀ v:RV,v.wf F'.W->(v.bring (H5 hs s.next F'.next) s.nr).wf (s.bringK hs rs C.w0.heap.size C.S F').W)/\∀ b,b<s.next->ρ1 b=ρ b:=by
 obtain ⟨Fp,hp,co⟩:=a1y.1 hp;have G0:=hp;unfold o8 at G0;split at G0
 case h_2=>cases G0
 rename_i sl eR rows Qt QU rT rW r7;simp only [W8,a0l] at rT;have yx:=a2h G0;simp only [r8,a1f] at co;obtain ⟨fr1,fr2,fr3,fr4⟩:=co;have Nl:F.next=hs.length:=by rw [<- fr2,<- yx]
 have yv:F.rows=rows:=by rw [<- fr3,<- yx]
 have Qx:F.heap=eR:=by rw [<- fr1,<- yx]
 have kr:∀ i,i<hs.length->hs.getD i 0<s.next/\∃ blk,look s.heap (hs.getD i 0)=some blk:=by
  intro i hi;have hm:hs.getD i 0∈hs:=by simp [a0r,a0b hi]
  have:∀ (l:List Nat) (i0:Nat) (r:List (Nat×Blk)),H2 hs rs s.heap l i0=some r->∀ b∈l,∃ blk,look s.heap b=some blk:=by
   intro l
   induction l with
   | nil=>intro i0 r _ b hb; simp at hb
   | cons c l ih =>
    intro i0 r hr b hb;simp only [H2] at hr;split at hr
    ·rename_i blk hc;split at hr
     ·split at hr
      ·rename_i r' eQ;rcases a0k.1 hb with rfl | hb
       ·exact ⟨blk,hc⟩
       ·exact ih _ _ eQ b hb
      ·cases hr
     ·cases hr
    ·cases hr
  obtain ⟨blk,hb⟩:=this hs 0 eR rW _ hm;exact ⟨(h.heap _ blk hb).1,blk,hb⟩
 have gT:∀ b,b∈hs->∃ i,i<F.next/\hs.getD i 0=b:=by
  intro b hm;obtain ⟨i,hi,Cl⟩:=List.getElem_of_mem hm;exact ⟨i,by rw [Nl]; exact hi,by simp only [a0r,a0b hi,a1e,Cl]⟩
 -- the new numbers
 let ρ1:Nat->Nat:=λb=>if b<s.next then ρ b else ρ' (hs.length+(b - s.next))
 have hρ1:∀ b,b<s.next->ρ1 b=ρ b:=λb hb=>if_pos hb;have hρn:∀ b,s.next<=b->ρ1 b=ρ' (hs.length+(b - s.next)):=λb hb=>if_neg (by omega);have wJ:∀ i,i<F'.next->ρ1 ((H5 hs s.next F'.next).getD i 0)=ρ' i/\(H5 hs s.next F'.next).getD i 0<s.next+(F'.next - hs.length):=by
  intro i hi;by_cases e:i<hs.length
  ·rw [qG e,hρ1 _ (kr i e).1,hρ' i (by omega)];exact ⟨rfl,by have:=(kr i e).1; omega⟩
  ·rw [AK (by omega) hi,hρn _ (by omega)];exact ⟨by congr 1; omega,by omega⟩
 -- what may be written,said of the caller's part
 have ah:∀ k,n6 (λi=>ρ (hs.getD i 0)) F k->(∃ b blk,b∈hs/\look s.heap b=some blk/\blk.rw=true/\ρ b=k)∨∃ r R,r∈rs/\look s.rows r=some R/\R.own=true/\R.uses k:=by
  rintro k (⟨b,blk,hb,hbrw,pV⟩ | ⟨r,R,hR,ho,hu⟩)
  ·rw [Qx] at hb;obtain ⟨c,blk0,_,h2,h3,_,_,h6⟩:=K9 rW b blk hb;simp only [a3e] at h2;have hg:hs.getD b 0=c:=by simp [a0r,h2]
   simp only [hg] at pV;exact .inl ⟨c,blk0,a0v h2,h3,by rw [<- h6]; exact hbrw,pV⟩
  ·rw [yv] at hR;obtain ⟨r2,_,h2,h3⟩:=p7 r7 r R hR;simp only [a3e] at h2;exact .inr ⟨r2,R,a0v h2,h3,ho,hu⟩
 have Ru:∀ k,n6 (λi=>ρ (hs.getD i 0)) F k->C.w0.heap.size<=k∨C.S k:=by
  intro k ht;rcases ah k ht with ⟨b,blk,_,e2,e3,rfl⟩ | ⟨r2,R2,_,e2,e3,e4⟩
  ·exact (h.heap b blk e2).2.2.2 e3
  ·exact ((h.rows r2 R2 e2).2.2 k e4).2.2 e3
 have wD:∀ k,dn F k->∃ r R,r∈rs/\look s.rows r=some R/\R.uses k:=by
  rintro k ⟨r,R,hR,hu⟩;rw [yv] at hR;obtain ⟨r2,_,h2,h3⟩:=p7 r7 r R hR;simp only [a3e] at h2;exact ⟨r2,R,a0v h2,h3,hu⟩
 -- an old block that is not handed on lies elsewhere
 have er:∀ b,b<s.next->b ∉ hs->∀ k,(w.heap.size<=k∨n6 (λi=>ρ (hs.getD i 0)) F k)->ρ b≠k:=by
  intro b hb hm k hk e;rcases hk with hk | hk
  ·have:=h.lt b hb; omega
  ·rcases ah k hk with ⟨b2,blk,m2,e2,_,e4⟩ | ⟨r2,R2,_,e2,_,e4⟩
   ·have:=h.inj b b2 hb (h.heap b2 blk e2).1 (e.trans e4.symm); subst this; exact hm m2
   ·exact ((h.rows r2 R2 e2).2.2 k e4).2.1 b hb e
 have E0:∀ b,b<s.next->∀ i,hs.length<=i->i<F'.next->ρ b≠ρ' i:=by
  intro b hb i hi ao;by_cases hm:b∈hs
  ·obtain ⟨j,hj,VI⟩:=gT b hm;intro e;have:=hF.inj j i (by omega) ao (by rw [hρ' j hj,VI]; exact e);omega
  ·exact er b hb hm _ (uf i (by omega) ao)
 have U0:∀ k,k<w.heap.size->(∀ b blk,b∈hs->look s.heap b=some blk->ρ b≠k)->(∀ r R,r∈rs->look s.rows r=some R->R.own=true->¬ R.uses k)->w'.heap[k]?=w.heap[k]?:=by
  intro k hk h1 h2;refine hc.block k hk (λht=>?_);rcases ah k ht with ⟨b,blk,e1,e2,_,e4⟩ | ⟨r,R,e1,e2,e3,e4⟩
  ·exact h1 b blk e1 e2 e4
  ·exact h2 r R e1 e2 e3 e4
 have W3:∀ r R,look s.rows r=some R->r<s.nr:=λr R hR=>(h.rows r R hR).1;have hW:∀ r R,look (s.bringK hs rs C.w0.heap.size C.S F').W.rows (s.nr+r)=some R->look F'.W.rows r=some R:=λr R hR =>
  Q7 hR (λR' G8=>by have:=W3 _ R' (o4 G8).2; omega)
 have GE:s.W.le (s.bringK hs rs C.w0.heap.size C.S F').W:=by
  refine ⟨a0m _ _,a0m _ _,λr hr R hR=>?_⟩;have eQ:r<s.nr:=hr;rcases v6 hR with ⟨q,e,_⟩ | h2
  ·omega
  ·exact (o4 h2).2
 have ND:∀ x:SV,x.wf F'.W->(x.bring (H5 hs s.next F'.next) s.nr).wf (s.bringK hs rs C.w0.heap.size C.S F').W :=
  λx hx=>SV.bring_wf (W:=F'.W) (W':=(s.bringK hs rs C.w0.heap.size C.S F').W) (λb hb=>(wJ b hb).2) (a0q _) hW x hx
 have uk:∀ r R,look F'.rows r=some R->R.own=true->∀ k,R.uses k->C.w0.heap.size<=k∨C.S k:=by
  intro r R hR ho k hk;rcases hru r R hR k hk with ⟨_,ht⟩ | ⟨J8,_⟩ | hf
  ·exact Ru k ht
  ·rw [ho] at J8; cases J8
  ·exact .inl (a0n h.chg.size hf)
 -- blocks against what is at k
 have ui:∀ k,(∀ i,i<F'.next->ρ' i≠k)->(∀ b,b<s.next->b ∉ hs->ρ b≠k)->∀ b,b<s.next+(F'.next - hs.length)->ρ1 b≠k:=by
  intro k h1 h2 b hb;by_cases e:b<s.next
  ·rw [hρ1 b e];by_cases hm:b∈hs
   ·obtain ⟨j,hj,VI⟩:=gT b hm;rw [<- VI,<- hρ' j hj];exact h1 j (by omega)
   ·exact h2 b e hm
  ·rw [hρn b (by omega)];exact h1 _ (by omega)
 have yK:∀ r R,look F'.rows r=some R->∀ k,R.uses k->∀ b,b<s.next+(F'.next - hs.length)->ρ1 b≠k:=by
  intro r R hR k hk;refine ui k (λi hi=>((hF.rows r R hR).2.2 k hk).2 i hi) (λb hb hm=>?_);rcases hru r R hR k hk with ⟨_,ht⟩ | ⟨_,hu⟩ | hf
  ·exact er b hb hm k (.inr ht)
  ·obtain ⟨r2,R2,_,e2,e4⟩:=wD k hu;exact ((h.rows r2 R2 e2).2.2 k e4).2.1 b hb
  ·exact er b hb hm k (.inl hf)
 -- a new row and an old one that stays
 have Ay:∀ q Q,q ∉ rs->look s.rows q=some Q->∀ k,(w.heap.size<=k∨n6 (λi=>ρ (hs.getD i 0)) F k)->¬ Q.uses k:=by
  intro q Q hq hQ k hk eD;rcases hk with hf | ht
  ·have:=((h.rows q Q hQ).2.2 k eD).1; omega
  ·rcases ah k ht with ⟨b,blk,_,e2,_,e4⟩ | ⟨r2,R2,m2,e2,e3,e4⟩
   ·exact ((h.rows q Q hQ).2.2 k eD).2.1 b (h.heap b blk e2).1 e4
   ·exact h.rowsD r2 q R2 Q e2 hQ (λe=>hq (e▸m2)) e3 k e4 eD
 have kp:∀ r R,look F'.rows r=some R->∀ q Q,q ∉ rs->look s.rows q=some Q->(R.own=true∨Q.own=true)->∀ k,R.uses k->Q.uses k->False:=by
  intro r R hR q Q hq hQ ho k hk eD;rcases hru r R hR k hk with ⟨_,ht⟩ | ⟨J8,hu⟩ | hf
  ·exact Ay q Q hq hQ k (.inr ht) eD
  ·obtain ⟨r2,R2,m2,e2,e4⟩:=wD k hu;rcases ho with ho | ho
   ·rw [ho] at J8; cases J8
   ·exact h.rowsD q r2 Q R2 hQ e2 (λe=>hq (e▸m2)) ho k eD e4
  ·exact Ay q Q hq hQ k (.inl hf) eD
 refine ⟨ρ1,⟨h.n,λi v hv=>⟨by rw [RV.den_congr (W:=s.W) hρ1 v (h.slots i v hv).2]; exact (h.slots i v hv).1,RV.wf_mono GE v (h.slots i v hv).2⟩,h.grds,?_,?_,?_,h.defers,?_,?_,?_,?_,?_⟩,
    λb hb=>(wJ b hb).1,
    λv hv=>RV.bring_wf (W:=F'.W) (W':=(s.bringK hs rs C.w0.heap.size C.S F').W) (λb hb=>(wJ b hb).2) (a0q _) hW v hv,hρ1⟩
 ·intro b blk hb;rcases bd hb with ⟨i,blk0,e1,e2,rfl⟩ | ⟨e1,e2⟩
  ·have hl:=bN lQ i blk0 e2;obtain ⟨k1,k2,k3⟩:=hF.heap i blk0 hl;subst e1;obtain ⟨q1,q2⟩:=wJ i k1;refine ⟨q2,?_,?_,?_⟩
   ·simp only [dp,q1];rw [x8 (W:=F'.W) (ρ:=ρ') (λb hb=>(wJ b hb).1) _ k3];exact k2
   ·intro x hx; obtain ⟨y,hy,rfl⟩:=a1d.1 hx; exact ND y (k3 y hy)
   ·intro NJ;rw [q1];by_cases e:i<F.next
    ·obtain ⟨blk1,f1,f2⟩:=A9 i blk0 e hl NJ;rw [Qx] at f1;obtain ⟨c,blk2,_,h2,h3,_,_,h6⟩:=K9 rW i blk1 f1;simp only [a3e] at h2;have hg:hs.getD i 0=c:=by simp [a0r,h2]
     rw [hρ' i e,hg];exact (h.heap c blk2 h3).2.2.2 (by rw [<- h6]; exact f2)
    ·rcases uf i (by omega) k1 with q | q
     ·exact .inl (a0n h.chg.size q)
     ·exact Ru _ q
  ·obtain ⟨k1,k2,k3,k4⟩:=h.heap b blk e1;refine ⟨a1b k1 (a0m _ _),?_,λx hx=>SV.wf_mono GE x (k3 x hx),by rw [hρ1 b k1]; exact k4⟩;rw [hρ1 b k1,x8 (W:=s.W) hρ1 _ k3];by_cases hm:b∈hs
   ·obtain ⟨i,hi,Cl⟩:=gT b hm;obtain ⟨blk',B8⟩:=hkeep i hi;exact absurd (by rw [qG (by omega)]; exact Cl) (e2 i blk' (nT B8))
   ·rw [U0 _ (h.lt b k1) (λc blk' GR U4 e=>hm (h.inj c b (h.heap c blk' U4).1 k1 e▸GR)) (λr R _ hR _ hu=>((h.rows r R hR).2.2 _ hu).2.1 b k1 rfl)];exact k2
 ·intro b c hb mD e;have B8:b<s.next+(F'.next - hs.length):=hb;have WN:c<s.next+(F'.next - hs.length):=mD;by_cases e1:b<s.next<;>by_cases e2:c<s.next
  ·rw [hρ1 b e1,hρ1 c e2] at e; exact h.inj b c e1 e2 e
  ·rw [hρ1 b e1,hρn c (by omega)] at e; exact absurd e (E0 b e1 _ (by omega) (by omega))
  ·rw [hρ1 c e2,hρn b (by omega)] at e; exact absurd e.symm (E0 c e2 _ (by omega) (by omega))
  ·rw [hρn b (by omega),hρn c (by omega)] at e;have:=hF.inj _ _ (by omega) (by omega) e;omega
 ·intro b hb;have B8:b<s.next+(F'.next - hs.length):=hb;by_cases e1:b<s.next
  ·rw [hρ1 b e1]; exact a1b (h.lt b e1) hc.size
  ·rw [hρn b (by omega)]; exact hF.lt _ (by omega)
 ·exact h.chg.trans hc (λk ht=>Ru k ht)
 ·intro r R hR;rcases v6 hR with ⟨q,rfl,hq⟩ | hq
  ·obtain ⟨k0,k1,k2⟩:=hF.rows q R hq;exact ⟨by show s.nr+q<s.nr+F'.nr; omega,k1,λk hk=>⟨(k2 k hk).1,yK q R hq k hk,λho=>uk q R hq ho k hk⟩⟩
  ·obtain ⟨wM,hl⟩:=o4 hq;obtain ⟨k0,k1,k2⟩:=h.rows r R hl;refine ⟨a1b k0 (a0m _ _),k1.congr (λk hk=>U0 k (k2 k hk).1 (λb blk _ hb e=>(k2 k hk).2.1 b (h.heap b blk hb).1 e) (λq Q hq hQ ho hu=>h.rowsD q r Q R hQ hl (λe=>wM (e▸hq)) ho k hu hk)),λk hk=>⟨a1b (k2 k hk).1 hc.size,?_,(k2 k hk).2.2⟩⟩;refine ui k (λi hi e=>?_) (λb hb _=>(k2 k hk).2.1 b hb);by_cases e1:i<F.next
   ·rw [hρ' i e1] at e; exact (k2 k hk).2.1 _ (kr i (by omega)).1 e
   ·exact Ay r R wM hl k (e▸uf i (by omega) hi) hk
 ·intro r1 r2 R1 R2 h1 h2 E0 ho k eP eu;rcases v6 h1 with ⟨q1,rfl,l1⟩ | l1<;>rcases v6 h2 with ⟨q2,rfl,l2⟩ | l2
  ·exact hF.rowsD q1 q2 R1 R2 l1 l2 (λe=>E0 (by rw [e])) ho k eP eu
  ·obtain ⟨m2,l2'⟩:=o4 l2;exact kp q1 R1 l1 r2 R2 m2 l2' (.inl ho) k eP eu
  ·obtain ⟨m1,l1'⟩:=o4 l1;exact kp q2 R2 l2 r1 R1 m1 l1' (.inr ho) k eu eP
  ·exact h.rowsD r1 r2 R1 R2 (o4 l1).2 (o4 l2).2 E0 ho k eP eu
 ·intro p hp;rcases fb hp with hp | hp
  ·obtain ⟨q,hq,rfl⟩:=a1d.1 hp;obtain ⟨p1,p2,p3⟩:=hF.pers q hq;have Z8:∀ k,q.D k->C.w0.heap.size<=k∨C.S k:=by
    intro k hk;rcases S0 q hq k hk with e | e
    ·exact .inl (a0n h.chg.size e)
    ·exact Ru k e
   refine ⟨⟨p1,Z8⟩,λw2 bY=>⟨p2 w2 bY,Z8⟩,λk hD=>⟨(p3 k hD).1,ui k (λi hi=>(p3 k hD).2.1 i hi) (λb hb hm=>er b hb hm k (S0 q hq k hD)),λr R hR ho hu=>?_⟩⟩;rcases v6 hR with ⟨q',rfl,lM⟩ | lM
   ·exact (p3 k hD).2.2 q' R lM ho hu
   ·obtain ⟨wM,hl⟩:=o4 lM;exact Ay r R wM hl k (S0 q hq k hD) hu
  ·obtain ⟨p1,p2,p3⟩:=h.pers p hp;have hk:∀ k,p.D k->w'.heap[k]?=w.heap[k]?:=λk hD =>
    U0 k (p3 k hD).1 (λb blk _ hb e=>(p3 k hD).2.1 b (h.heap b blk hb).1 e) (λr R _ hR ho hu=>(p3 k hD).2.2 r R hR ho hu)
   have QZ:∀ k,p.D k->¬ (w.heap.size<=k∨n6 (λi=>ρ (hs.getD i 0)) F k):=by
    rintro k hD (e | e)
    ·have:=(p3 k hD).1; omega
    ·rcases ah k e with ⟨b,blk,_,e2,_,e4⟩ | ⟨r2,R2,_,e2,e3,e4⟩
     ·exact (p3 k hD).2.1 b (h.heap b blk e2).1 e4
     ·exact (p3 k hD).2.2 r2 R2 e2 e3 e4
   refine ⟨p2 _ hk,λw2 bY=>p2 w2 (λk hD=>(bY k hD).trans (hk k hD)),λk hD=>⟨a1b (p3 k hD).1 hc.size,?_,λr R hR ho hu=>?_⟩⟩
   ·refine ui k (λi hi e=>?_) (λb hb _=>(p3 k hD).2.1 b hb);by_cases e1:i<F.next
    ·rw [hρ' i e1] at e; exact (p3 k hD).2.1 _ (kr i (by omega)).1 e
    ·exact QZ k hD (e▸uf i (by omega) hi)
   ·rcases v6 hR with ⟨q,rfl,hq⟩ | hq
    ·rcases hru q R hq k hu with ⟨_,ht⟩ | ⟨J8,_⟩ | hf
     ·exact QZ k hD (.inr ht)
     ·rw [ho] at J8; cases J8
     ·exact QZ k hD (.inl hf)
    ·exact (p3 k hD).2.2 r R (o4 hq).2 ho hu
 ·intro b hb;obtain ⟨k1,k2⟩:=h.fix b hb;exact ⟨a1b k1 (a0m _ _),by rw [hρ1 b k1]; exact k2⟩
theorem Sat.bringK (h:Sat C ρ s a w) {hs rs:List Nat} {F F':St} {ρ':Nat->Nat} (hp:(o8 [] hs rs [] s).map r8=some (r8 F)) (lQ:L8 F'.heap=true)
  (hρ':∀ b,b<F.next->ρ' b=ρ (hs.getD b 0)) (C4:F.next<=F'.next) (uf:∀ b,F.next<=b->b<F'.next->w.heap.size<=ρ' b∨n6 (λi=>ρ (hs.getD i 0)) F (ρ' b))
  (hF:x6 ρ' F' w') (hkeep:∀ b,b<F.next->∃ blk,look F'.heap b=some blk) (hc:Chg (n6 (λi=>ρ (hs.getD i 0)) F) w w')
  (A9:∀ b blk,b<F.next->look F'.heap b=some blk->blk.rw=true->∃ blk0,look F.heap b=some blk0/\blk0.rw=true)
  (hru:∀ r R,look F'.rows r=some R->∀ k,R.uses k->(R.own=true/\n6 (λi=>ρ (hs.getD i 0)) F k)∨(R.own=false/\dn F k)∨w.heap.size<=k)
  (S0:∀ q∈F'.pers,∀ k,q.D k->w.heap.size<=k∨n6 (λi=>ρ (hs.getD i 0)) F k) :
  ∃ ρ1,Sat C ρ1 (s.bringK hs rs C.w0.heap.size C.S F') a w'/\(∀ b,b<F'.next->ρ1 ((H5 hs s.next F'.next).getD b 0)=ρ' b) /\
   ∀ v:RV,v.wf F'.W->(v.bring (H5 hs s.next F'.next) s.nr).wf (s.bringK hs rs C.w0.heap.size C.S F').W:=by
 obtain ⟨ρ1,b1,b2,b3,_⟩:=h.bringK1 hp lQ hρ' C4 uf hF hkeep hc A9 hru S0;exact ⟨ρ1,b1,b2,b3⟩
end
end Go.SX
end
section
namespace Go.SX
open Go
def jj (hp:List (Nat×Blk)):Nat->List SV->List Nat->List Nat
 | 0,_,hs=>hs
 | _+1,[],hs=>hs
 | n+1,x::q,hs=>match x with
  | .ptr b _=>match p5 hs b with
   | true=>jj hp n q hs
   | false=>match look hp b with
    | some blk=>jj hp n (s7 blk.cells q) (s7 hs [b])
    | none=>jj hp n q (s7 hs [b])
  | .sli b _ _=>match p5 hs b with
   | true=>jj hp n q hs
   | false=>match look hp b with
    | some blk=>jj hp n (s7 blk.cells q) (s7 hs [b])
    | none=>jj hp n q (s7 hs [b])
  | .fn _ cap=>jj hp n (s7 (cap.map λb=>SV.ptr b 0) q) hs
  | _=>jj hp n q hs
def qH:List SV->List Nat->List Nat
 | [],rs=>rs
 | x::q,rs=>match x with
  | .row r _ _ _=>match p5 rs r with
   | true=>qH q rs
   | false=>qH q (s7 rs [r])
  | .el r _ _ _ _=>match p5 rs r with
   | true=>qH q rs
   | false=>qH q (s7 rs [r])
  | _=>qH q rs
def cellsOf (hp:List (Nat×Blk)):List Nat->List SV
 | []=>[]
 | b::l=>match look hp b with
  | some blk=>s7 blk.cells (cellsOf hp l)
  | none=>cellsOf hp l
def CV.svs:CV->List SV
 | .one x=>[x]
 | .agg xs=>xs
def qI:List CV->List SV
 | []=>[]
 | x::l=>s7 x.svs (qI l)
def RV.svs:RV->List SV
 | .v x=>x.svs
 | .tup xs=>qI xs
 | .grd _ _ _ x=>x.svs
def lY (hp:List (Nat×Blk)) (hs0:List Nat) (q:List SV):List Nat×List Nat :=
 match jj hp 1000 (s7 (cellsOf hp hs0) q) hs0 with
 | hs=>(hs,qH (s7 (cellsOf hp hs) q) [])
def aq (c:Cfg):Option (FuncId×List CV×(List (Nat×Blk)×Nat×List (Nat×Row)×Nat)) :=
 match I4 c with
 | some (none,f,xs)=>match lY c.st.heap [] (qI xs) with
  | (hs,rs)=>match wV hs rs xs,o8 [] hs rs [] c.st with
   | some ys,some s'=>some (f,ys,r8 s')
   | _,_=>none
 | _=>none
def fe (c:Cfg):List Nat×List Nat :=
 match I4 c with
 | some (_,_,xs)=>lY c.st.heap [] (qI xs)
 | none=>([],[])
def bi:List (Nat×Bool)->List m6->Option (List m6)
 | [],_=>some []
 | (i,_)::l,ps=>match ps[i]? with
  | some p=>match bi l ps with
   | some qs=>some (p::qs)
   | none=>none
  | none=>none
def bB (n0:Nat) (S:Nat->Prop):List (Nat×Bool)->List m6->List m6
 | (_,true)::l,p::ps=>P7 n0 S p::bB n0 S l ps
 | (_,false)::l,p::ps=>p::bB n0 S l ps
 | _,ps=>ps
theorem O0:∀ {l:List (Nat×Bool)} {ps qs:List m6},bi l ps=some qs->∀ q∈qs,q∈ps
 | [],ps,qs,h,q,hq=>by simp only [bi,a0l] at h; subst h; simp at hq
 | (i,b)::l,ps,qs,h,q,hq=>by
  simp only [bi] at h;split at h
  ·rename_i p hp;split at h
   ·rename_i qs' UK;cases h;rcases a0k.1 hq with rfl | hq
    ·exact a0v hp
    ·exact O0 UK q hq
   ·cases h
  ·cases h
theorem cD {n0:Nat} {S:Nat->Prop}:∀ {l:List (Nat×Bool)} {ps:List m6},∀ p∈ps,p∈bB n0 S l ps∨P7 n0 S p∈bB n0 S l ps
 | [],ps,p,hp=>.inl (by simpa [bB] using hp)
 | (_,true)::l,[],p,hp=>by simp at hp
 | (_,false)::l,[],p,hp=>by simp at hp
 | (_,true)::l,q::ps,p,hp=>by
  rcases a0k.1 hp with rfl | hp
  ·exact .inr (a0f ..)
  ·rcases cD (l:=l) p hp with h | h
   ·exact .inl (a0e _ h)
   ·exact .inr (a0e _ h)
 | (_,false)::l,q::ps,p,hp=>by
  rcases a0k.1 hp with rfl | hp
  ·exact .inl (a0f ..)
  ·rcases cD (l:=l) p hp with h | h
   ·exact .inl (a0e _ h)
   ·exact .inr (a0e _ h)
def bP (n0:Nat) (S:Nat->Prop) (c:Cfg) (F':St) (v:RV):Cfg :=
 u0 c (c.st.bringK (fe c).1 (fe c).2 n0 S F') (v.bring (H5 (fe c).1 c.st.next F'.next) c.st.nr)
def okK (c:Cfg) (F':St) (v:RV):Bool :=
 L8 F'.heap&&(ngB v&&(j5 c (c.st.bringK (fe c).1 (fe c).2 0 (λ_=>False) F') (v.bring (H5 (fe c).1 c.st.next F'.next) c.st.nr)).isSome)
section
variable {C:Ctx} {ρ:Nat->Nat} {s:St} {a:Act} {w:World}
theorem iv (s:St) (hs rs:List Nat) (n0 n1:Nat) (S S1:Nat->Prop) (F:St) (d:Option Nat) (v:RV) :
  ((s.bringK hs rs n0 S F).put d v).isSome=((s.bringK hs rs n1 S1 F).put d v).isSome:=by
 unfold St.put;simp only [St.bringK];split
 ·rfl
 ·split
  ·rfl
  ·split<;>rfl
theorem oc (c:Cfg) (hs rs:List Nat) (n0 n1:Nat) (S S1:Nat->Prop) (F:St) (v:RV) :
  (j5 c (c.st.bringK hs rs n0 S F) v).isSome=(j5 c (c.st.bringK hs rs n1 S1 F) v).isSome:=by
 unfold j5;split
 ·split
  ·rename_i o _;have:=iv c.st hs rs n0 n1 S S1 F o.dst v;cases h1:(c.st.bringK hs rs n0 S F).put o.dst v<;>cases h2:(c.st.bringK hs rs n1 S1 F).put o.dst v<;>rw [h1,h2] at this<;>simp at this ⊢
  ·rfl
 ·rfl
theorem x6.withPers {ρ:Nat->Nat} {s' F:St} {w:World} (h:x6 ρ s' w) (he:r8 s'=r8 F)
  (hp:∀ p∈F.pers,p.φ w/\(∀ w',(∀ k,p.D k->w'.heap[k]?=w.heap[k]?)->p.φ w') /\
   ∀ k,p.D k->k<w.heap.size/\(∀ b,b<F.next->ρ b≠k)/\∀ r R,look F.rows r=some R->R.own=true->¬ R.uses k):x6 ρ F w:=by
 obtain ⟨n,slots,gs,heap,next,rows,nr,pers,wr,fx⟩:=s';obtain ⟨n',slots',gs',KI,next',rows',nr',pers',wr',fx'⟩:=F;simp only [r8,a1f] at he;obtain ⟨rfl,rfl,rfl,rfl⟩:=he;exact ⟨h.heap,h.inj,h.lt,h.rows,h.rowsD,hp⟩
theorem V.callK {α:Type} {f:FuncId} {ys:List CV} {F:St} {p:α->Prop} {v:α->RV} {F':α->St} {c:Cfg} (pi:List (Nat×Bool)) (hk:CallsK C.P f ys F p v F')
  (hb:D6 C.P f=true) (hc:aq c=some (f,ys,r8 F)) (kw:bi pi c.st.pers=some (bB C.w0.heap.size C.S pi F.pers))
  (hu:∀ x,okK c (F' x) (v x)=true) (k:∀ x,p x->V C (bP C.w0.heap.size C.S c (F' x) (v x))):V C c:=by
 unfold aq at hc;split at hc
 case h_2=>cases hc
 rename_i f1 xs F6;split at hc;rename_i hs rs wC;split at hc
 case h_2=>cases hc
 rename_i ys1 s' yz G0;simp only [a0l,a1f] at hc;obtain ⟨rfl,rfl,co⟩:=hc;have hh:fe c=(hs,rs):=by unfold fe; rw [F6]; exact wC
 refine sk F6 (S3 hb) (fun ρ a w hS=>?_);have JG:=(hS.pick G0).toF;have JF:s'.next=F.next:=by simp only [r8,a1f] at co; exact co.2.1
 have hF:x6 (λi=>ρ (hs.getD i 0)) F w:=by
  refine JG.withPers co (λq hq=>?_);have fQ:∀ q'∈c.st.pers,q'.φ w/\(∀ w',(∀ k,q'.D k->w'.heap[k]?=w.heap[k]?)->q'.φ w') /\
    ∀ k,q'.D k->k<w.heap.size/\(∀ b,b<F.next->ρ (hs.getD b 0)≠k)/\∀ r R,look F.rows r=some R->R.own=true->¬ R.uses k:=by
   intro q' lM;obtain ⟨p1,p2,p3⟩:=hS.pers q' lM;refine ⟨p1,p2,λk hD=>⟨(p3 k hD).1,λb B8=>?_,λr R hR ho kz=>?_⟩⟩
   ·have e9:hs.getD b 0<c.st.next:=by
     have hn:b<s'.next:=by rw [JF]; exact B8
     have cq:=G0;unfold o8 at cq;split at cq
     case h_2=>cases cq
     rename_i sl eR rows _ _ _ rW _;have N6:=a2h cq;have n8:b<hs.length:=by rw [<- N6] at hn; exact hn
     have:∀ (l:List Nat) (i0:Nat) (r:List (Nat×Blk)),H2 hs rs c.st.heap l i0=some r->∀ b∈l,∃ blk,look c.st.heap b=some blk:=by
      intro l
      induction l with
      | nil=>intro i0 r _ b hb; simp at hb
      | cons d l ih =>
       intro i0 r hr b hb;simp only [H2] at hr;split at hr
       ·rename_i blk hc;split at hr
        ·split at hr
         ·rename_i r' eQ;rcases a0k.1 hb with rfl | hb
          ·exact ⟨blk,hc⟩
          ·exact ih _ _ eQ b hb
         ·cases hr
        ·cases hr
       ·cases hr
     obtain ⟨blk,pV⟩:=this hs 0 eR rW (hs.getD b 0) (by simp [a0r,a0b n8]);exact (hS.heap _ blk pV).1
    exact (p3 k hD).2.1 _ e9
   ·have cq:=G0;unfold o8 at cq;split at cq
    case h_2=>cases cq
    rename_i sl eR rows _ _ _ _ r7;have N6:=a2h cq;have G8:look s'.rows r=some R:=by
     simp only [r8,a1f] at co; rw [co.2.2.1]; exact hR
    rw [<- N6] at G8;obtain ⟨r2,_,_,h3⟩:=p7 r7 r R G8;exact (p3 k hD).2.2 r2 R h3 ho kz
  rcases cD (n0:=C.w0.heap.size) (S:=C.S) (l:=pi) q hq with h1 | h1
  ·exact fQ q (O0 kw q h1)
  ·obtain ⟨p1,p2,p3⟩:=fQ _ (O0 kw _ h1);exact ⟨p1.1,λw' pU=>(p2 w' pU).1,p3⟩
 have qr:xs.map (a2a ρ)=ys1.map (a2a (λi=>ρ (hs.getD i 0))):=by
  have cq:=G0;unfold o8 at cq;split at cq
  case h_2=>cases cq
  rename_i sl eR rows _ _ _ _ r7;have yL:bL rs c.st.W ⟨hs.length,rs.length,rows⟩:=by
   intro r' r R hr hl;obtain ⟨r2,_,h2,h3⟩:=p7 r7 r' R hl;simp only [a3e] at h2;rw [hr] at h2;cases h2;exact h3
  exact ((fV (ρ:=ρ) (W:=c.st.W) (W':=⟨hs.length,rs.length,rows⟩) rfl rfl yL yz).1).symm
 refine ⟨_,by rw [qr]; exact hk _ w hF,?_⟩;rintro e w' ⟨x,ρ',hp,rfl,k1,k2,k3,k4,k5,k6,k7,k8,k9,k10⟩;have Gq:=hu x;unfold okK at Gq;rw [hh] at Gq;obtain ⟨u1,u2,u3⟩:=sw Gq;have JD:=k x hp;unfold bP at JD;rw [hh] at JD;have Gp:(o8 [] hs rs [] c.st).map r8=some (r8 F):=by rw [G0]; exact congrArg some co
 obtain ⟨ρ1,b1,b2,b3⟩:=hS.bringK (F':=F' x) Gp u1 k1 k2 k3 k4 k5 k7 k8 k9 k10;refine ⟨ρ1,(v x).bring (H5 hs c.st.next (F' x).next) c.st.nr,_,_,?_,b1,b3 _ k6,?_,x4 ?_,JD⟩
 ·rw [RV.bring_den,RV.den_congr (W:=(F' x).W) (ρ:=ρ') b2 _ k6]
 ·intro g pol b y e;cases hvx:v x with
  | grd=>rw [hvx] at u2; cases u2
  | v=>rw [hvx] at e; cases e
  | tup=>rw [hvx] at e; cases e
 ·rw [oc c hs rs _ 0 _ (λ_=>False)]; exact u3
def xb (F:St):SV->Option SV
 | .ptr b off=>match a4t b F.next with
  | true=>some (.ptr b off)
  | false=>none
 | .row r _ _ _=>match look F.rows r,a4t r F.nr with
  | some R,true=>some (.row r R.s R.n R.cap)
  | _,_=>none
 | .int k n=>some (.int k n)
 | .bool b=>some (.bool b)
 | .sb b=>some (.sb b)
 | .str l=>some (.str l)
 | .val v=>some (.val v)
 | .fn f cap=>match cap.all λb=>a4t b F.next with
  | true=>some (.fn f cap)
  | false=>none
 | .sli b n cap=>match a4t b F.next with
  | true=>some (.sli b n cap)
  | false=>none
 | _=>none
def CK (F:St):List SV->Option (List SV)
 | []=>some []
 | x::l=>match xb F x,CK F l with
  | some y,some m=>some (y::m)
  | _,_=>none
def Hm (F:St):CV->Option CV
 | .one x=>match xb F x with
  | some y=>some (.one y)
  | none=>none
 | .agg xs=>match CK F xs with
  | some ys=>some (.agg ys)
  | none=>none
def uL (F:St):List CV->Option (List CV)
 | []=>some []
 | x::l=>match Hm F x,uL F l with
  | some y,some m=>some (y::m)
  | _,_=>none
theorem X1 {a b:Nat} (h:a4t a b=true):a<b:=a0w h
theorem yU {F:St} {x y:SV} (h:xb F x=some y):y.wf F.W:=by
 cases x with
 | ptr b off=>simp only [xb] at h; split at h<;>cases h; rename_i hb; exact X1 hb
 | row r s n cap =>
  simp only [xb] at h;split at h
  ·rename_i R hR hr;cases h;exact ⟨X1 hr,λR' G8=>by rw [show look F.W.rows r=look F.rows r from rfl,hR] at G8; cases G8; exact ⟨rfl,rfl,rfl⟩⟩
  ·cases h
 | int k n=>cases h; trivial
 | bool b=>cases h; trivial
 | sb b=>cases h; trivial
 | str l=>cases h; trivial
 | val v=>cases h; trivial
 | fn f cap=>simp only [xb] at h; split at h<;>cases h; rename_i hb; exact λc hc=>X1 (a0y.1 hb c hc)
 | sli b n cap=>simp only [xb] at h; split at h<;>cases h; rename_i hb; exact X1 hb
 | el=>cases h
theorem yV {F:St}:∀ {l m:List SV},CK F l=some m->∀ x∈m,x.wf F.W
 | [],m,h,x,hx=>by simp only [CK,a0l] at h; subst h; simp at hx
 | y::l,m,h,x,hx=>by
  simp only [CK] at h;split at h
  ·rename_i z m' hz hm;cases h;rcases a0k.1 hx with rfl | hx
   ·exact yU hz
   ·exact yV hm x hx
  ·cases h
theorem Hn {F:St} {x y:CV} (h:Hm F x=some y):y.wf F.W:=by
 cases x with
 | one x=>simp only [Hm] at h; split at h<;>cases h; rename_i hx; exact yU hx
 | agg xs=>simp only [Hm] at h; split at h<;>cases h; rename_i hx; exact yV hx
theorem mO {F:St}:∀ {l m:List CV},uL F l=some m->∀ x∈m,x.wf F.W
 | [],m,h,x,hx=>by simp only [uL,a0l] at h; subst h; simp at hx
 | y::l,m,h,x,hx=>by
  simp only [uL] at h;split at h
  ·rename_i z m' hz hm;cases h;rcases a0k.1 hx with rfl | hx
   ·exact Hn hz
   ·exact mO hm x hx
  ·cases h
theorem CallsK.mk {α:Type} {P:Program} {f:FuncId} {fn:Func} {ys:List CV} {F:St} {p:α->Prop} {v:α->RV} {F':α->St} (wr:Bool) (hf:P.funcs[f]?=some fn)
  (hb:(fn.body.isSome&&a5r ys.length fn.ntmps)=true) (hw:uL F ys=some ys)
  (h:∀ ρ w,V ⟨P,f,N9 ρ F p v F' w,n6 ρ F,w,ρ,none⟩ ⟨[.code (I5 fn)],stF fn.ntmps ys F wr⟩):CallsK P f ys F p v F':=by
 intro ρ w hF;rw [a0g] at hb;exact i6 hF ys wr hf hb.1 hb.2 (mO hw) (h ρ w)
def uM (P:Program) (f:FuncId) (n:Nat) (c:Cfg):Option (RV×(List (Nat×Blk)×Nat×List (Nat×Row)×Nat)) :=
 match jd P f c.st with
 | some u=>match lY c.st.heap (cA n 0) u.svs with
  | (hs,rs)=>match u.ren hs rs,o8 [] hs rs [] c.st,uA n hs 0 with
   | some v,some s',true=>some (v,r8 s')
   | _,_,_=>none
 | none=>none
def uN:List (Nat×Blk)->Bool
 | []=>true
 | (_,blk)::l=>match blk.rw with
  | true=>uN l
  | false=>false
def od (n:Nat):List (Nat×Blk)->Bool
 | []=>true
 | (b,blk)::l=>match a4t b n,blk.rw with
  | false,false=>false
  | _,_=>od n l
def lZ (n:Nat) (yA:List (Nat×Blk)):List (Nat×Blk)->Bool
 | []=>true
 | (b,blk)::l=>match a4t b n,blk.rw with
  | true,true=>match look yA b with
   | some blk0=>match blk0.rw with
    | true=>lZ n yA l
    | false=>false
   | none=>false
  | _,_=>lZ n yA l
theorem AL {a b:Nat} (h:a<b):a4t a b=true:=Nat.ble_eq_true_of_le h
theorem Ho {a b:Nat} (h:¬ a<b):a4t a b=false:=by
 cases e:a4t a b with
 | true=>exact absurd (X1 e) h
 | false=>rfl
theorem uO {n:Nat}:∀ {l:List (Nat×Blk)} {b:Nat} {blk:Blk},od n l=true->look l b=some blk->n<=b->blk.rw=true
 | (k,q)::l,b,blk,h,hl,hn=>by
  simp only [od] at h;simp only [look] at hl;split at hl
  ·rename_i e;have:=(d6 _ _).1 e;subst this;cases hl;split at h
   ·cases h
   ·rename_i J8;cases A9:q.rw with
    | true=>rfl
    | false=>exact absurd A9 (J8 (Ho (by omega)))
  ·split at h
   ·cases h
   ·exact uO h hl hn
theorem oe {n:Nat} {yA:List (Nat×Blk)}:∀ {l:List (Nat×Blk)} {b:Nat} {blk:Blk},lZ n yA l=true->look l b=some blk->b<n->blk.rw=true->∃ blk0,look yA b=some blk0/\blk0.rw=true
 | (k,q)::l,b,blk,h,hl,hn,A9=>by
  simp only [lZ] at h;simp only [look] at hl;split at hl
  ·rename_i e;have:=(d6 _ _).1 e;subst this;cases hl;rw [AL hn,A9] at h;simp only at h;split at h
   ·rename_i blk0 hb;split at h
    ·rename_i h0; exact ⟨blk0,hb,h0⟩
    ·cases h
   ·cases h
  ·split at h
   ·split at h
    ·split at h
     ·exact oe h hl hn A9
     ·cases h
    ·cases h
   ·exact oe h hl hn A9
theorem CL:∀ {n:Nat} {l:List Nat} {i:Nat},uA n l i=true->∀ b,b<n->l.getD b 0=i+b
 | n,l,i,h,b,hb=>by
  have:=kK h hb;simp [a0r,this]
theorem uP:∀ {n:Nat} {l:List Nat} {i:Nat},uA n l i=true->n<=l.length
 | 0,_,_,_=>a0s _
 | n+1,b::l,i,h=>by
  simp only [uA] at h;split at h
  ·have:=uP h; simp; omega
  ·cases h
 | n+1,[],_,h=>by cases h
theorem dw {P:Program} {f:FuncId} {w0:World} {ρ0:Nat->Nat} {F:St} {α:Type} {p:α->Prop} {v:α->RV} {F':α->St} (x:α) (pi:List (Nat×Bool)) {c:Cfg}
  (hr:uM P f F.next c=some (v x,r8 (F' x))) (he:(ew c.todo&&(a1m c.st.fx F.next&&(lZ F.next F.heap (F' x).heap&&(od F.next (F' x).heap&&(bf (F' x).rows&&nU (F' x).next (F' x).heap)))))=true)
  (kw:bi pi c.st.pers=some ((F' x).pers.map (P7 w0.heap.size (n6 ρ0 F)))) (hp:p x) :
  V ⟨P,f,N9 ρ0 F p v F' w0,n6 ρ0 F,w0,ρ0,none⟩ c:=by
 simp only [a0g] at he;obtain ⟨e1,e2,e3,e4,e5,e6⟩:=he;have Cp:=(d6 _ _).1 e2;unfold uM at hr;split at hr
 case h_2=>cases hr
 rename_i u hu;split at hr;rename_i hs rs wC;split at hr
 case h_2=>cases hr
 rename_i v' s' hv G0 Y4;simp only [a0l,a1f] at hr;obtain ⟨rfl,co⟩:=hr;refine V.ret u hu e1 (fun ρ a w hS=>?_);have uh:=hS.pick G0;have GQ:=uh.toF;have R5:=G0;unfold o8 at R5;split at R5
 case h_2=>cases R5
 rename_i sl eR rows lQ Nk rT rW r7;have N6:=a2h R5;have dc:s'.next=hs.length:=by rw [<- N6]
 have Rb:=co;simp only [r8,a1f] at Rb;obtain ⟨f1,f2,f3,f4⟩:=Rb;have C4:(F' x).next=hs.length:=by rw [<- f2,dc]
 have M3:=uP Y4;have hρ:∀ b,b<F.next->ρ (hs.getD b 0)=ρ0 b:=by
  intro b hb;rw [CL Y4 b hb,Nat.zero_add];exact (hS.fix b (by rw [Cp]; exact hb)).2
 have hW:s'.W=(F' x).W:=by simp only [St.W,f2,f3,f4]
 have yL:bL rs c.st.W ⟨hs.length,rs.length,rows⟩:=by
  intro r' r R hr hl;obtain ⟨r2,_,h2,h3⟩:=p7 r7 r' R hl;simp only [a3e] at h2;rw [hr] at h2;cases h2;exact h3
 obtain ⟨r1,r2,_⟩:=RV.ren_ok (ρ:=ρ) (W:=c.st.W) (W':=⟨hs.length,rs.length,rows⟩) rfl rfl yL hv;have NN:u.wf c.st.W:=by
  replace hu:=(sm hu).1
  unfold kJ at hu;split at hu
  ·rename_i fn _;have U2:∀ (l:List ResultVar) (xs:List CV),U8 P c.st l=some xs->∀ y∈xs,y.wf c.st.W:=by
    intro l
    induction l with
    | nil=>intro xs hx y hy; simp only [U8,a0l] at hx; subst hx; simp at hy
    | cons q l ih =>
     intro xs hx y hy;simp only [U8] at hx;split at hx
     ·rename_i z hz;split at hx
      ·rename_i zs GM;cases hx;rcases a0k.1 hy with rfl | hy
       ·cases q with
        | tmp t =>
         simp only [eV] at hz;split at hz
         ·rename_i y' hl;cases hz;exact (hS.slots t _ hl).2
         ·cases hz
        | cell ad t =>
         simp only [eV] at hz;split at hz
         ·split at hz
          ·rename_i blk Gm;obtain ⟨q1,q2,q3,q4⟩:=hS.heap _ blk Gm;exact (U6 (ρ:=ρ) (w:=w) hz c.st.W q3 q2).2
          ·cases hz
         ·cases hz
       ·exact ih zs GM y hy
      ·cases hx
     ·cases hx
   split at hu
   ·rename_i y hy; cases hu; exact U2 _ _ hy y (a0f ..)
   ·rename_i xs _ hy; cases hu; exact U2 _ _ hy
   ·cases hu
  ·cases hu
 have UH:s'.W=⟨hs.length,rs.length,rows⟩:=by rw [<- N6]; rfl
 have Rv:(v x).wf (F' x).W:=by rw [<- hW,UH]; exact r2 NN
 have Gm:∀ i blk,look (F' x).heap i=some blk->i<hs.length/\∃ b0 blk0,hs.getD i 0=b0/\look c.st.heap b0=some blk0/\blk.rw=blk0.rw:=by
  intro i blk hl;rw [<- f1,<- N6] at hl;obtain ⟨b,blk0,_,h2,h3,_,_,h6⟩:=K9 rW i blk hl;simp only [a3e] at h2;exact ⟨(a2l.1 h2).1,b,blk0,by simp [a0r,h2],h3,h6⟩
 have Wg:∀ q∈(F' x).pers,P7 w0.heap.size (n6 ρ0 F) q∈c.st.pers:=λq hq=>O0 kw _ (a1d.2 ⟨q,hq,rfl⟩);refine ⟨x,λi=>ρ (hs.getD i 0),hp,by rw [r1],hρ,by rw [C4]; exact M3,?_,?_,λb hb=>dt e6 (by rw [C4]; omega),Rv,hS.chg,?_,?_,?_⟩
 ·intro b hb B8;obtain ⟨blk,fT⟩:=dt e6 B8;have A9:=uO e4 fT hb;obtain ⟨_,b0,blk0,q1,q2,q3⟩:=Gm b blk fT;have:=(hS.heap b0 blk0 q2).2.2.2 (by rw [<- q3]; exact A9);simp only [q1];exact this
 ·refine GQ.withPers co (λq hq=>?_);obtain ⟨p1,p2,p3⟩:=hS.pers _ (Wg q hq);refine ⟨p1.1,λw' pU=>(p2 w' pU).1,λk hD=>⟨(p3 k hD).1,λb hb=>?_,λr R hR ho kz=>?_⟩⟩
  ·obtain ⟨blk,fT⟩:=dt e6 hb;obtain ⟨_,b0,blk0,q1,q2,_⟩:=Gm b blk fT;simp only [q1];exact (p3 k hD).2.1 b0 (hS.heap b0 blk0 q2).1
  ·rw [<- f3,<- N6] at hR;obtain ⟨r2,_,_,h3⟩:=p7 r7 r R hR;exact (p3 k hD).2.2 r2 R h3 ho kz
 ·intro b blk hb fT A9; exact oe e3 fT hb A9
 ·intro r R hR k hk;have ho:=aH e5 hR;have G8:look s'.rows r=some R:=by rw [f3]; exact hR
  rcases ((uh.rows r R G8).2.2 k hk).2.2 ho with q | q
  ·exact .inr (.inr q)
  ·exact .inl ⟨ho,q⟩
 ·intro q hq k hD;exact (hS.pers _ (Wg q hq)).1.2 k hD
end
theorem V.z {P:Program} {f:FuncId} {w0:World} {ρ0:Nat->Nat} {F:St} {v:Unit->RV} {F':Unit->St} {c:Cfg} (hr:uM P f F.next c=some (v (),r8 (F' ())):=by kernel_rfl)
    (he:(ew c.todo&&(a1m c.st.fx F.next&&(lZ F.next F.heap (F' ()).heap&&(od F.next (F' ()).heap&&(bf (F' ()).rows&&nU (F' ()).next (F' ()).heap)))))=true:=by kernel_rfl)
    (kw:bi [] c.st.pers=some ((F' ()).pers.map (P7 w0.heap.size (n6 ρ0 F))):=by kernel_rfl):V ⟨P,f,N9 ρ0 F (λ_:Unit=>True) v F' w0,n6 ρ0 F,w0,ρ0,none⟩ c:=dw () [] hr he kw trivial
theorem V.c {α:Type} {C:Ctx} {f:FuncId} {ys:List CV} {F:St} {p:α->Prop} {v:α->RV} {F':α->St} {c:Cfg} (pi:List (Nat×Bool)) (hk:CallsK C.P f ys F p v F') (k:∀ x,p x->V C (bP C.w0.heap.size C.S c (F' x) (v x)))
    (hb:D6 C.P f=true:=by kernel_rfl) (hc:aq c=some (f,ys,r8 F):=by kernel_rfl) (kw:bi pi c.st.pers=some (bB C.w0.heap.size C.S pi F.pers):=by kernel_rfl) (hu:∀ x,okK c (F' x) (v x)=true:=by exact λ_=>kq):V C c:=V.callK pi hk hb hc kw hu k
theorem V.e {P:Program} {f:FuncId} {w0:World} {ρ0:Nat->Nat} {F:St} {α:Type} {p:α->Prop} {v:α->RV} {F':α->St} (x:α) (pi:List (Nat×Bool)) {c:Cfg} (hp:p x)
    (hr:uM P f F.next c=some (v x,r8 (F' x)):=by kernel_rfl) (he:(ew c.todo&&(a1m c.st.fx F.next&&(lZ F.next F.heap (F' x).heap&&(od F.next (F' x).heap&&(bf (F' x).rows&&nU (F' x).next (F' x).heap)))))=true:=by kernel_rfl)
    (kw:bi pi c.st.pers=some ((F' x).pers.map (P7 w0.heap.size (n6 ρ0 F))):=by kernel_rfl):V ⟨P,f,N9 ρ0 F p v F' w0,n6 ρ0 F,w0,ρ0,none⟩ c:=dw x pi hr he kw hp
theorem CallsK.m {α:Type} {P:Program} {f:FuncId} {fn:Func} {ys:List CV} {F:St} {p:α->Prop} {v:α->RV} {F':α->St} (wr:Bool) (hf:P.funcs[f]?=some fn) (h:∀ ρ w,V ⟨P,f,N9 ρ F p v F' w,n6 ρ F,w,ρ,none⟩ ⟨[.code (I5 fn)],stF fn.ntmps ys F wr⟩)
    (hb:(fn.body.isSome&&a5r ys.length fn.ntmps)=true:=by kernel_rfl) (hw:uL F ys=some ys:=by kernel_rfl):CallsK P f ys F p v F':=CallsK.mk wr hf hb hw h
end Go.SX
end
section
namespace Go.SX
open Go
def SV.ptrLt (ρ:Nat->Nat) (w:World):SV->Prop
 | .ptr b _=>ρ b<w.heap.size
 | _=>True
structure Con (P:Program) where
 f:FuncId
 need:List m6
 fn:List CV->Option (RV×List Prop)
 ok:∀ xs v ob,fn xs=some (v,ob)->(∀ p∈ob,p)->∀ (ρ:Nat->Nat) (w:World),C9 need w->(∀ x∈xs,∀ y∈x.svs,y.ptrLt ρ w)->Calls P f (xs.map (a2a ρ)).toArray w (u6 (v.den ρ) w)
structure Ent (P:Program) where
 sp:Con P
 is:List Nat
def yW {P:Program}:List (Ent P)->FuncId->Option (Ent P)
 | [],_=>none
 | e::T,f=>match a1m e.sp.f f with
  | true=>some e
  | false=>yW T f
def ff {P:Program} (T:List (Ent P)) (n:Nat) (f:FuncId) (xs:List CV):Option (RV×List Prop) :=
 match yW T f with
 | some e=>match D6 P f,xs.all (wfC n) with
  | true,true=>match e.sp.fn xs with
   | some (v,ob)=>match wfR n v with
    | true=>some (v,ob)
    | false=>none
   | none=>none
  | _,_=>none
 | none=>none
def CM:List Nat->List m6->List (Option m6)
 | [],_=>[]
 | i::l,ps=>ps.reverse[i]?::CM l ps
def ex {P:Program}:List (Ent P)->List m6->List (List (Option m6))
 | [],_=>[]
 | e::T,ps=>CM e.is ps::ex T ps
def ez {P:Program}:List (Ent P)->List (List (Option m6))
 | []=>[]
 | e::T=>e.sp.need.map some::ez T
theorem uQ:∀ {l:List Nat} {ps qs:List m6},CM l ps=qs.map some->∀ q∈qs,q∈ps
 | [],ps,qs,h,q,hq=>by
  cases qs with
  | nil=>simp at hq
  | cons a l=>simp [CM] at h
 | i::l,ps,qs,h,q,hq=>by
  cases qs with
  | nil=>simp at hq
  | cons a qs =>
   simp only [CM,a3h,List.cons.injEq] at h;rcases a0k.1 hq with rfl | hq
   ·exact List.mem_reverse.1 (a0v h.1)
   ·exact uQ h.2 q hq
theorem bj {P:Program}:∀ {T:List (Ent P)} {ps:List m6},ex T ps=ez T->∀ e∈T,∀ q∈e.sp.need,q∈ps
 | [],ps,_,e,he=>by simp at he
 | e0::T,ps,h,e,he=>by
  simp only [ex,ez,List.cons.injEq] at h;rcases a0k.1 he with rfl | he
  ·exact uQ h.1
  ·exact bj h.2 e he
theorem fZ {P:Program}:∀ {T:List (Ent P)} {f:FuncId} {e:Ent P},yW T f=some e->e∈T/\e.sp.f=f
 | e0::T,f,e,h=>by
  simp only [yW] at h;split at h
  ·rename_i hf; cases h; exact ⟨a0f ..,(d6 _ _).1 hf⟩
  ·obtain ⟨h1,h2⟩:=fZ h; exact ⟨a0e _ h1,h2⟩
def CN:Op->Bool
 | .store _ _ _=>true
 | _=>false
def yX (ops:Array Oper):Nat->Nat->Nat
 | 0,_=>ops.size
 | n+1,i=>match ops[i]? with
  | some o=>match CN o.op with
   | true=>match jf ops i with
    | true=>i
    | false=>yX ops n (i+1)
   | false=>yX ops n (i+1)
  | none=>ops.size
def ol (P:Program) (T:List (Ent P)) (ops:Array Oper) (k:List Item) (h0:List (Nat×Blk)) (r0:List (Nat×Row)) (L:Nat):Nat->u7->Option (Cfg×List Prop)
 | 0,_=>none
 | m+1,d=>match mw P ops L d with
  | some s1=>some (⟨k,s1⟩,[])
  | none=>match Region.ready .any ops d.listed,d.fuel with
   | [i],n+1=>match callD ops i d.st,ops[i]? with
    | some (none,f,xs),some o=>match ff T d.st.next f xs with
     | some (v,ob)=>match d.st.put o.dst v with
      | some s'=>match V2 P ops h0 r0 ops.size ⟨n,d.listed.setIfInBounds i true,s'⟩ with
       | (d',ob')=>match ol P T ops k h0 r0 L m d' with
        | some (c',ob'')=>some (c',ob++(ob'++ob''))
        | none=>none
      | none=>none
     | none=>none
    | some (some (g,pol,b),f,xs),some o=>match ff T d.st.next f xs with
     | some (.v x,ob)=>match ({ d.st with gs:=M4 d.st.gs g }:St).put o.dst (.grd g pol b x) with
      | some s'=>match V2 P ops h0 r0 ops.size ⟨n,d.listed.setIfInBounds i true,s'⟩ with
       | (d',ob')=>match ol P T ops k h0 r0 L m d' with
        | some (c',ob'')=>some (c',ii b pol ob++(ob'++ob''))
        | none=>none
      | none=>none
     | _=>none
    | _,_=>none
   | _,_=>none
def CO (P:Program) (T:List (Ent P)) (c:Cfg) (ops:Array Oper) (k:List Item) (L:Nat):Option (Cfg×List Prop) :=
 match P.follows .mixedOrders,Region.noSelect ops,jf ops L||a5r ops.size L with
 | true,true,true=>match V2 P ops c.st.heap c.st.rows ops.size ⟨ops.size,a4a ops.size false,c.st⟩ with
  | (d,ob)=>match ol P T ops k c.st.heap c.st.rows L 50 d with
   | some (c',ob')=>some (c',ob++ob')
   | none=>none
 | _,_,_=>none
def uR (P:Program) (T:List (Ent P)) (c:Cfg):Option (Cfg×List Prop) :=
 match ce c with
 | some (ops,k)=>CO P T c ops k (yX ops ops.size 0)
 | none=>none
def uS (P:Program) (T:List (Ent P)) (c:Cfg):Option (Cfg×List Prop) :=
 match qz P c with
 | some r=>some r
 | none=>match I4 c with
  | some (none,f,xs)=>match ff T c.st.next f xs with
   | some (v,ob)=>match j5 c c.st v with
    | some c'=>some (c',ob)
    | none=>none
   | none=>none
  | some (some (g,pol,b),f,xs)=>match ff T c.st.next f xs with
   | some (.v x,ob)=>match j5 c { c.st with gs:=M4 c.st.gs g } (.grd g pol b x) with
    | some c'=>some (c',ii b pol ob)
    | none=>none
   | _=>none
  | none=>uR P T c
def runT (P:Program) (T:List (Ent P)):Nat->Cfg->Cfg×List Prop
 | 0,c=>(c,[])
 | n+1,c=>match uS P T c with
  | none=>(c,[])
  | some (c',[])=>runT P T n c'
  | some (c',ob)=>match runT P T n c' with
   | (c'',ob')=>(c'',ob++ob')
section
theorem J1 {s s':St} {d:Option Nat} {v:RV} (h:s.put d v=some s'):s'.pers=s.pers:=by
 unfold St.put at h;split at h
 ·cases h; rfl
 ·split at h
  ·cases h
  ·split at h
   ·cases h
   ·cases h; rfl
theorem om {P:Program} {s s':St} {gc:Option (Nat×Bool)} {v:RV} {op:Op} (h:gW P s gc op=some (v,s')):s'.pers=s.pers:=by
 unfold gW at h
 repeat' split at h
 all_goals first | (cases h; rfl) | cases h
theorem jk {P:Program} {s s':St} {gc:Option (Nat×Bool)} {op:Op} (h:Y5 P s gc op=some s'):s'.pers=s.pers:=by
 unfold Y5 at h
 repeat' split at h
 all_goals first | (cases h; rfl) | cases h
theorem xd {P:Program} {ops:Array Oper} {o:Oper} {s s':St} {ob:List Prop} (h:ut P ops o s=some (s',ob)):s'.pers=s.pers:=by
 unfold ut at h;split at h
 ·split at h
  ·split at h
   ·rename_i hp; cases h; exact J1 hp
   ·cases h
  ·split at h
   ·rename_i hm;split at h
    ·rename_i hp; cases h; exact (J1 hp).trans (om hm)
    ·cases h
   ·split at h
    ·rename_i hs;split at h
     ·cases h; exact jk hs
     ·cases h
    ·cases h
 ·split at h
  ·rename_i hp; cases h; exact J1 hp
  ·cases h
 ·split at h
  ·split at h
   ·rename_i hp; cases h; exact (J1 hp).trans rfl
   ·cases h
  ·cases h
 ·cases h
theorem xe {P:Program} {c c':Cfg} {ob:List Prop} (h:qz P c=some (c',ob)):c'.st.pers=c.st.pers:=by
 unfold qz at h;split at h
 all_goals first
  | (cases h; done)
  | (cases h; rfl)
  | (split at h<;>first | (cases h; done) | (cases h; rfl) | skip)
 all_goals
  split at h
  ·rename_i hs; cases h; exact xd hs
  ·cases h
theorem jl {c c':Cfg} {s:St} {v:RV} (h:j5 c s v=some c'):c'.st.pers=s.pers:=by
 unfold j5 at h;split at h
 ·split at h
  ·split at h
   ·rename_i hp; cases h; exact J1 hp
   ·cases h
  ·cases h
 ·cases h
theorem qi {P:Program} {ops:Array Oper} {h0:List (Nat×Blk)} {r0:List (Nat×Row)} {o:Oper} {s s':St} {ob:List Prop} (h:Y8 P ops h0 r0 o s=some (s',ob)):s'.pers=s.pers:=by
 unfold Y8 at h;split at h
 ·split at h
  ·split at h
   ·rename_i hp; cases h; exact J1 hp
   ·cases h
  ·cases h
 ·split at h
  ·rename_i hp; cases h; exact J1 hp
  ·cases h
 ·split at h
  ·split at h
   ·rename_i hp; cases h; exact (J1 hp).trans rfl
   ·cases h
  ·cases h
 ·cases h
theorem uT {P:Program} {ops:Array Oper} {h0:List (Nat×Blk)} {r0:List (Nat×Row)} {d d':u7} {ob:List Prop} (h:ip P ops h0 r0 d=some (d',ob)):d'.st.pers=d.st.pers:=by
 unfold ip at h;split at h
 ·cases h
 ·split at h
  ·rename_i ht;cases h;obtain ⟨_,o,_,_,hs⟩:=X0 ht;exact qi hs
  ·split at h
   ·split at h
    ·split at h
     ·split at h
      ·rename_i hm;split at h
       ·rename_i hp; cases h; exact (J1 hp).trans (om hm)
       ·cases h
      ·cases h
     ·cases h
    ·cases h
   ·cases h
theorem L2 {P:Program} {ops:Array Oper} {h0:List (Nat×Blk)} {r0:List (Nat×Row)}:∀ (m:Nat) (d:u7),(V2 P ops h0 r0 m d).1.st.pers=d.st.pers
 | 0,_=>rfl
 | m+1,d=>by
  unfold V2;split
  ·rfl
  ·rename_i d' ob hs;exact (L2 m d').trans (uT hs)
theorem AM {P:Program} {ops:Array Oper} {L:Nat} {d:u7} {s:St} (h:mw P ops L d=some s):s.pers=d.st.pers:=by
 unfold mw at h;split at h
 ·cases h; rfl
 ·split at h
  ·split at h
   ·rename_i hs _ _; cases h; exact jk hs
   ·cases h
  ·cases h
 ·cases h
theorem iw {P:Program} {T:List (Ent P)} {ops:Array Oper} {k:List Item} {h0:List (Nat×Blk)} {r0:List (Nat×Row)} {L:Nat}:∀ {m:Nat} {d:u7} {c':Cfg} {ob:List Prop},ol P T ops k h0 r0 L m d=some (c',ob)->c'.st.pers=d.st.pers
 | 0,_,_,_,h=>by cases h
 | m+1,d,c',ob,h=>by
  unfold ol at h;split at h
  ·rename_i hs; cases h; exact AM hs
  ·split at h
   ·split at h
    ·split at h
     ·split at h
      ·rename_i hp;split at h;rename_i d' ob' F1;split at h
       ·rename_i hl;cases h;have eR:=J1 hp;exact ((iw hl).trans (by
         have h1:=congrArg (λx=>x.1.st.pers) F1;simp only [L2] at h1;exact h1.symm)).trans eR
       ·cases h
      ·cases h
     ·cases h
    ·split at h
     ·split at h
      ·rename_i hp;split at h;rename_i d' ob' F1;split at h
       ·rename_i hl;cases h;have eR:=J1 hp;exact ((iw hl).trans (by
         have h1:=congrArg (λx=>x.1.st.pers) F1;simp only [L2] at h1;exact h1.symm)).trans eR
       ·cases h
      ·cases h
     ·cases h
    ·cases h
   ·cases h
theorem xf {P:Program} {T:List (Ent P)} {c c':Cfg} {ob:List Prop} (h:uR P T c=some (c',ob)):c'.st.pers=c.st.pers:=by
 unfold uR at h;split at h
 ·unfold CO at h;split at h
  ·split at h;rename_i d ob' F1;split at h
   ·rename_i hl;cases h;exact (iw hl).trans (by
     have h1:=congrArg (λx=>x.1.st.pers) F1;simp only [L2] at h1;exact h1.symm)
   ·cases h
  ·cases h
 ·cases h
theorem dx {P:Program} {T:List (Ent P)} {c c':Cfg} {ob:List Prop} (h:uS P T c=some (c',ob)):c'.st.pers=c.st.pers:=by
 unfold uS at h;split at h
 ·rename_i hs; cases h; exact xe hs
 ·split at h
  ·split at h
   ·split at h
    ·rename_i ha; cases h; exact jl ha
    ·cases h
   ·cases h
  ·split at h
   ·split at h
    ·rename_i ha; cases h; exact (jl ha).trans rfl
    ·cases h
   ·cases h
  ·exact xf h
end
section
variable {C:Ctx}
theorem cE {T:List (Ent C.P)} {s:St} {f:FuncId} {xs:List CV} {v:RV} {ob:List Prop} (hc:ff T s.next f xs=some (v,ob)) (q8:∀ p∈ob,p) (hn:∀ e∈T,∀ q∈e.sp.need,q∈s.pers) :
  D6 C.P f=true/\wfR s.next v=true/\∀ ρ a w,Sat C ρ s a w->Calls C.P f (xs.map (a2a ρ)).toArray w (u6 (v.den ρ) w):=by
 unfold ff at hc;split at hc
 ·rename_i e he;obtain ⟨hm,rfl⟩:=fZ he;split at hc
  ·rename_i h1 h2;split at hc
   ·rename_i v' ob' qe;split at hc
    ·rename_i h3;cases hc;refine ⟨h1,h3,fun ρ a w hS=>e.sp.ok xs v ob qe q8 ρ w (λq hq=>?_) (λx hx y hy=>?_)⟩
     ·obtain ⟨p1,p2,p3⟩:=hS.pers q (hn e hm q hq);exact ⟨p1,p2,λk hk=>(p3 k hk).1⟩
     ·have VY:=a0y.1 h2 x hx;cases y with
      | ptr b off =>
       refine hS.lt b ?_;cases x with
       | one z=>rcases a0d.1 hy with rfl; exact Nat.blt_eq.mp VY
       | agg zs=>exact Nat.blt_eq.mp (a0y.1 VY _ hy)
      | _=>trivial
    ·cases hc
   ·cases hc
  ·cases hc
 ·cases hc
theorem AN {P:Program} {T:List (Ent P)} {n:Nat} {f:FuncId} {xs:List CV} {x:CV} {ob:List Prop} (eE:ff T n f xs=some (.v x,ob)):D6 P f=true/\wfR n (.v x)=true:=by
 unfold ff at eE;split at eE
 ·rename_i e he;obtain ⟨hm,rfl⟩:=fZ he;split at eE
  ·rename_i h1 h2;split at eE
   ·split at eE
    ·rename_i h3; cases eE; exact ⟨h1,h3⟩
    ·cases eE
   ·cases eE
  ·cases eE
 ·cases eE
theorem fg {T:List (Ent C.P)} {D:gP} {ops:Array Oper} {k:List Item} {L:Nat} (hD:D.ok) (e3:D.L=L) (hL:W9 ops L∨ops.size<=L) (D4:Region.noSelect ops=true) :
  ∀ {m:Nat} {d:u7} {c':Cfg} {ob:List Prop},ol C.P T ops k D.h0 D.r0 L m d=some (c',ob)->(∀ p∈ob,p)->(∀ e∈T,∀ q∈e.sp.need,q∈d.st.pers)->D.rows d.st->V C c'->VD C D ops k d
 | 0,_,_,_,h,_,_,_,_=>by cases h
 | m+1,d,c',ob,h,q8,hn,A9,hV=>by
  unfold ol at h;split at h
  ·rename_i s1 hs;cases h;exact VD.fin (by rw [e3]; exact hs) hV
  ·split at h
   ·rename_i i n hr hf;split at h
    ·rename_i f xs o hc ho;split at h
     ·rename_i v ob1 eE;split at h
      ·rename_i s' o9;split at h;rename_i d' ob2 F1;split at h
       ·rename_i c2 ob3 hl;cases h;obtain ⟨b1,b2,b3⟩:=cE (C:=C) eE (λp hp=>q8 p (a1w _ hp)) hn;obtain ⟨w1,w2⟩:=kM (W:=d.st.W) b2 rfl;refine VD.call i f xs v hr hf ho hc (S3 b1) o9 w1 w2 b3 ?_;have hW:=N8 o9;have J7:D.rows s':=⟨λr R hR=>by rw [show s'.rows=d.st.rows from congrArg WF.rows hW]; exact A9.1 r R hR,by rw [hW]; exact A9.2⟩;refine VD.runM hD (by rw [e3]; exact hL) D4 ops.size _ (by rw [F1]; exact λp hp=>q8 p (a1v _ (a1w _ hp))) J7 (λgV=>?_);have um:=L2 (P:=C.P) (ops:=ops) (h0:=D.h0) (r0:=D.r0) ops.size ⟨n,d.listed.setIfInBounds i true,s'⟩;rw [F1] at gV um ⊢;refine fg hD e3 hL D4 hl (λp hp=>q8 p (a1v _ (a1v _ hp))) (λe he q hq=>?_) gV hV;rw [um,J1 o9];exact hn e he q hq
       ·cases h
      ·cases h
     ·cases h
    ·rename_i g pol b f xs o hc ho;split at h
     ·rename_i x ob1 eE;split at h
      ·rename_i s' o9;split at h;rename_i d' ob2 F1;split at h
       ·rename_i c2 ob3 hl;cases h;have hW:=N8 o9;have J7:D.rows s':=⟨λr R hR=>by rw [show s'.rows=d.st.rows from congrArg WF.rows hW]; exact A9.1 r R hR,by rw [hW]; exact A9.2⟩;obtain ⟨b1,b2⟩:=AN eE;refine VD.callG i g pol b f xs x hr hf ho hc (S3 b1) o9 (nZ (W:=d.st.W) b2 rfl) (λhb=>(cE (C:=C) eE (aW (λp hp=>q8 p (a1w _ hp)) hb) hn).2.2)<|VD.runM hD (by rw [e3]; exact hL) D4 ops.size _ (by rw [F1]; exact λp hp=>q8 p (a1v _ (a1w _ hp))) J7 (λgV=>?_);have um:=L2 (P:=C.P) (ops:=ops) (h0:=D.h0) (r0:=D.r0) ops.size ⟨n,d.listed.setIfInBounds i true,s'⟩;rw [F1] at gV um ⊢;refine fg hD e3 hL D4 hl (λp hp=>q8 p (a1v _ (a1v _ hp))) (λe he q hq=>?_) gV hV;have eR:=J1 o9;rw [um,show s'.pers=d.st.pers from eR];exact hn e he q hq
       ·cases h
      ·cases h
     ·cases h
    ·cases h
   ·cases h
theorem uU {T:List (Ent C.P)} {c c':Cfg} {ob:List Prop} (h:uR C.P T c=some (c',ob)) (q8:∀ p∈ob,p) (hn:∀ e∈T,∀ q∈e.sp.need,q∈c.st.pers) (hV:V C c'):V C c:=by
 unfold uR at h;split at h
 ·rename_i ops k hc;generalize yX ops ops.size 0=L at h;unfold CO at h;split at h
  ·rename_i hm D4 hL;split at h;rename_i d ob1 F1;split at h
   ·rename_i c2 ob2 hl;cases h;have GS:W9 ops L∨ops.size<=L:=by
     rw [a3w] at hL;rcases hL with hL | hL
     ·exact .inl (eW hL)
     ·exact .inr (a0w hL)
    refine nO [] [] L ops k hc hm (λD hD h1 h2 h3 h4 _ A9 _ _=>?_) (by simp);rw [bg] at h1 h3;refine VD.runM hD (by rw [h4]; exact GS) D4 ops.size _ (by rw [h1,h3,F1]; exact λp hp=>q8 p (a1w _ hp)) A9 (λJ7=>?_);have um:=L2 (P:=C.P) (ops:=ops) (h0:=c.st.heap) (r0:=c.st.rows) ops.size ⟨ops.size,a4a ops.size false,c.st⟩;rw [h1,h3,F1] at J7 ⊢;rw [F1] at um;refine fg hD h4 GS D4 (by rw [h1,h3]; exact hl) (λp hp=>q8 p (a1v _ hp)) (λe he q hq=>?_) J7 hV;rw [um];exact hn e he q hq
   ·cases h
  ·cases h
 ·cases h
theorem ma {T:List (Ent C.P)} {c c':Cfg} {ob:List Prop} (h:uS C.P T c=some (c',ob)) (q8:∀ p∈ob,p) (hn:∀ e∈T,∀ q∈e.sp.need,q∈c.st.pers) (hV:V C c'):V C c:=by
 unfold uS at h;split at h
 ·rename_i r hs; cases h; exact eU hs q8 hV
 ·split at h
  ·rename_i f xs hc;split at h
   ·rename_i v ob1 eE;split at h
    ·rename_i c2 ha;cases h;obtain ⟨b1,b2,b3⟩:=cE (C:=C) eE q8 hn;obtain ⟨w1,w2⟩:=kM (W:=c.st.W) b2 rfl;refine su f xs v hc (S3 b1) (by rw [ha]; rfl) w1 w2 b3 ?_;have:u0 c c.st v=c':=by unfold u0; rw [ha]; rfl
     rw [this]; exact hV
    ·cases h
   ·cases h
  ·rename_i g pol b f xs hc;split at h
   ·rename_i x ob1 eE;split at h
    ·rename_i c2 ha;cases h;have:u0 c { c.st with gs:=M4 c.st.gs g } (.grd g pol b x)=c':=by unfold u0; rw [ha]; rfl
     obtain ⟨b1,b2⟩:D6 C.P f=true/\wfR c.st.next (.v x)=true:=by
      unfold ff at eE;split at eE
      ·rename_i e he;obtain ⟨hm,rfl⟩:=fZ he;split at eE
       ·rename_i h1 h2;split at eE
        ·split at eE
         ·rename_i h3; cases eE; exact ⟨h1,h3⟩
         ·cases eE
        ·cases eE
       ·cases eE
      ·cases eE
     refine uG g pol b f xs x hc (S3 b1) (by rw [ha]; rfl) (nZ (W:=c.st.W) b2 rfl) (λhb ρ a w hS=>?_) (by rw [this]; exact hV);exact (cE (C:=C) eE (aW q8 hb) hn).2.2 ρ a w hS
    ·cases h
   ·cases h
  ·exact uU h q8 hn hV
theorem X2 {T:List (Ent C.P)}:∀ (n:Nat) (c:Cfg),(∀ p∈(runT C.P T n c).2,p)->(∀ e∈T,∀ q∈e.sp.need,q∈c.st.pers)->V C (runT C.P T n c).1->V C c
 | 0,c,_,_,h=>h
 | n+1,c,q8,hn,h=>by
  unfold runT at q8 h;split at q8
  ·rename_i hs; rw [hs] at h; exact h
  ·rename_i c' hs;rw [hs] at h;exact ma hs (by simp) hn (X2 n c' q8 (λe he q hq=>by rw [dx hs]; exact hn e he q hq) h)
  ·rename_i c' ob E0 hs;rw [hs] at h;have h':V C (runT C.P T n c').1:=by
    revert h;split
    ·rename_i wz; cases wz
    ·rename_i c3 wz; cases wz; exact (E0 rfl).elim
    ·rename_i c3 ob3 _ wz; cases wz; exact id
   exact ma hs (λp hp=>q8 p (a1w _ hp)) hn (X2 n c' (λp hp=>q8 p (a1v _ hp)) (λe he q hq=>by rw [dx hs]; exact hn e he q hq) h')
theorem V.runT (T:List (Ent C.P)) (ob:List Prop) {c:Cfg} (hr:(SX.runT C.P T 1000 c).2=ob) (hn:ex T c.st.pers=ez T) (ho:B9 ob) (h:V C (SX.runT C.P T 1000 c).1):V C c :=
 X2 1000 c (hr▸U7 ho) (bj hn) h
end
theorem V.q {C:Ctx} {c:Cfg} (h:V C (SX.runT C.P [] 1000 c).1) (hr:(SX.runT C.P [] 1000 c).2=[]:=by kernel_rfl) (hn:ex ([]:List (Ent C.P)) c.st.pers=ez ([]:List (Ent C.P)):=by kernel_rfl):V C c:=V.runT [] [] hr hn trivial h
theorem V.t {C:Ctx} (T:List (Ent C.P)) (ob:List Prop) {c:Cfg} (ho:B9 ob) (h:V C (SX.runT C.P T 1000 c).1) (hr:(SX.runT C.P T 1000 c).2=ob:=by kernel_rfl) (hn:ex T c.st.pers=ez T:=by kernel_rfl):V C c:=V.runT T ob hr hn ho h
end Go.SX
end
section
namespace Go.SX
open Go
def fh (sl:List (Nat×RV)):List Nat->List SV
 | []=>[]
 | k::l=>match look sl k with
  | some v=>s7 v.svs (fh sl l)
  | none=>fh sl l
def jm (ks:List Nat) (pm:List Bool) (c:Cfg):Option St :=
 match lY c.st.heap (cA c.st.fx 0) (fh c.st.slots ks) with
 | (hs,rs)=>o8 ks hs rs pm c.st
section
variable {C:Ctx}
theorem j6 (ks:List Nat) (pm:List Bool) {ι:Type} (μ : ι->Nat) (st:ι->St) (pre:ι->Prop) (i:ι) {c:Cfg}
  (hp:jm ks pm c=some (st i)) (hi:pre i)
  (kj:∀ i,pre i->(∀ j,pre j -> μ j < μ i->V C ⟨(SX.iter c).todo,st j⟩)->V C ⟨(SX.iter c).todo,st i⟩):V C c:=by
 unfold jm at hp;split at hp;exact uC ks _ _ pm μ st pre i hp hi kj
theorem d9 (ks:List Nat) (pm:List Bool) {T:List Item} {s':St} {c:Cfg} (h:V C ⟨T,s'⟩) (hT:(SX.iter c).todo=T)
  (hp:jm ks pm c=some s'):V C c:=by
 unfold jm at hp;split at hp;exact dj ks _ _ pm h hT hp
theorem jn (ks:List Nat) (pm:List Bool) {T:List Item} {s':St} {c:Cfg} (h:V C ⟨T,s'⟩) (hT:c.todo=T) (hp:jm ks pm c=some s'):V C c:=by
 unfold jm at hp;split at hp;exact s5 ks _ _ pm h hT hp
def SV.froze (r:Nat):SV->SV
 | .row r' s n cap=>match a1m r r' with
  | true=>.val (.slice s n cap)
  | false=>.row r' s n cap
 | x=>x
def CV.froze (r:Nat):CV->CV
 | .one x=>.one (x.froze r)
 | .agg xs=>.agg (xs.map (SV.froze r))
def RV.froze (r:Nat):RV->RV
 | .v x=>.v (x.froze r)
 | .tup xs=>.tup (xs.map (CV.froze r))
 | .grd g pol c x=>.grd g pol c (x.froze r)
def xg {α:Type} (f:α->α):List (Nat×α)->List (Nat×α)
 | []=>[]
 | (k,v)::l=>(k,f v)::xg f l
def Row.lent (R:Row):Row:={ R with own:=false }
def St.froze (s:St) (r:Nat) (p:m6):St :=
 { s with slots:=xg (RV.froze r) s.slots,heap:=xg (λb=>⟨b.cells.map (SV.froze r),b.elem,b.rw⟩) s.heap,rows:=Q6 r s.rows,pers:=p::s.pers }
theorem M0 {α:Type} (f:α->α):∀ (l:List (Nat×α)) (i:Nat),look (xg f l) i=(look l i).map f
 | [],i=>rfl
 | (k,v)::l,i=>by
  simp only [xg,look];split
  ·rfl
  ·exact M0 f l i
theorem SV.froze_den {r:Nat} {ρ:Nat->Nat} (x:SV):(x.froze r).den ρ=x.den ρ:=by
 cases x with
 | row r' s n cap=>simp only [SV.froze]; split<;>rfl
 | _=>rfl
theorem CV.froze_den {r:Nat} {ρ:Nat->Nat} (x:CV):(x.froze r).den ρ=x.den ρ:=by
 cases x with
 | one x=>exact SV.froze_den x
 | agg xs=>simp only [CV.froze,a2a,a3q]; congr 2; exact a2g λx _=>SV.froze_den x
theorem RV.froze_den {r:Nat} {ρ:Nat->Nat} (x:RV):(x.froze r).den ρ=x.den ρ:=by
 cases x with
 | v x=>exact CV.froze_den x
 | tup xs=>simp only [RV.froze,RV.den,a3q]; congr 2; exact a2g λx _=>CV.froze_den x
 | grd g pol c x=>simp only [RV.froze,RV.den,CV.froze_den]
theorem SV.froze_wf {r:Nat} {W W':WF} (hW:W.le W') (x:SV) (h:x.wf W):(x.froze r).wf W':=by
 cases x with
 | row r' s n cap =>
  simp only [SV.froze];split
  ·trivial
  ·exact SV.wf_mono hW _ h
 | _=>exact SV.wf_mono hW _ h
theorem CV.froze_wf {r:Nat} {W W':WF} (hW:W.le W') (x:CV) (h:x.wf W):(x.froze r).wf W':=by
 cases x with
 | one x=>exact SV.froze_wf hW x h
 | agg xs=>intro y hy; obtain ⟨z,hz,rfl⟩:=a1d.1 hy; exact SV.froze_wf hW z (h z hz)
theorem RV.froze_wf {r:Nat} {W W':WF} (hW:W.le W') (x:RV) (h:x.wf W):(x.froze r).wf W':=by
 cases x with
 | v x=>exact CV.froze_wf hW x h
 | tup xs=>intro y hy; obtain ⟨z,hz,rfl⟩:=a1d.1 hy; exact CV.froze_wf hW z (h z hz)
 | grd g pol c x=>exact λhc=>CV.froze_wf hW x (h hc)
theorem V.freeze (r:Nat) (R:Row) {c:Cfg} (hR:look c.st.rows r=some R) (ho:(R.own&&R.obj.isNone)=true)
  (h:V C ⟨c.todo,c.st.froze r (P7 C.w0.heap.size C.S (e8 R.lent))⟩):V C c:=by
 intro ρ a w hS;rw [a0g] at ho;obtain ⟨ho,q8⟩:=ho;have q8:R.obj=none:=by simpa using q8
 obtain ⟨r1,r2,r3⟩:=hS.rows r R hR;have U3:∀ k,R.lent.uses k->R.uses k:=by
  rintro k ⟨ad,h1,h2,h3⟩;refine ⟨ad,h1,h2,.inl ho⟩
 have x7:R.lent.ok w:=⟨r2.len,r2.addr,(λe=>by cases e),(λo e=>by rw [show R.lent.obj=R.obj from rfl,q8] at e; cases e)⟩;have B0:c.st.W.le (c.st.froze r (P7 C.w0.heap.size C.S (e8 R.lent))).W:=⟨a0q _,a0q _,λq _ Q hQ=>(j4 hQ).2⟩;refine h ρ a w ⟨hS.n,?_,?_,?_,hS.inj,hS.lt,hS.defers,hS.chg,?_,?_,?_,hS.fix⟩
 ·intro i v hv;simp only [St.froze,M0] at hv;obtain ⟨u,hu,rfl⟩:=a1y.1 hv;obtain ⟨k1,k2⟩:=hS.slots i u hu;exact ⟨by rw [RV.froze_den]; exact k1,RV.froze_wf B0 u k2⟩
 ·intro i g pol b x hv;simp only [St.froze,M0] at hv ⊢;obtain ⟨u,hu,kz⟩:=a1y.1 hv;cases u with
  | grd g' pol' b' x' =>
   simp only [RV.froze,RV.grd.injEq] at kz;obtain ⟨rfl,rfl,rfl,rfl⟩:=kz;obtain ⟨k1,k2⟩:=hS.grds i _ _ _ _ hu;exact ⟨k1,by rw [k2]; rfl⟩
  | v x=>cases kz
  | tup x=>cases kz
 ·intro b blk hb;simp only [St.froze,M0] at hb;obtain ⟨u,hu,rfl⟩:=a1y.1 hb;obtain ⟨k1,k2,k3,k4⟩:=hS.heap b u hu;refine ⟨k1,?_,?_,k4⟩
  ·have:(u.cells.map (SV.froze r)).map (a4m ρ)=u.cells.map (a4m ρ):=by rw [a3q]; exact a2g λx _=>SV.froze_den x
   simp only [this]; exact k2
  ·intro x hx; obtain ⟨y,hy,rfl⟩:=a1d.1 hx; exact SV.froze_wf B0 y (k3 y hy)
 ·intro q Q hQ;obtain ⟨_,h2⟩:=j4 hQ;exact hS.rows q Q h2
 ·intro q q' Q Q' h1 h2;exact hS.rowsD q q' Q Q' (j4 h1).2 (j4 h2).2
 ·intro p hp;rcases a0k.1 hp with rfl | hp
  ·have Z8:∀ k,(e8 R.lent).D k->C.w0.heap.size<=k∨C.S k:=λk hk=>(r3 k (U3 k hk)).2.2 ho;refine ⟨⟨x7,Z8⟩,λw2 bY=>⟨x7.congr bY,Z8⟩,λk hk=>?_⟩;obtain ⟨q1,q2,q3⟩:=r3 k (U3 k hk);refine ⟨q1,q2,λq Q hQ NU hu=>?_⟩;obtain ⟨E0,h2⟩:=j4 hQ;exact hS.rowsD r q R Q hR h2 (λe=>E0 e.symm) ho k (U3 k hk) hu
  ·obtain ⟨p1,p2,p3⟩:=hS.pers p hp;exact ⟨p1,p2,λk hk=>⟨(p3 k hk).1,(p3 k hk).2.1,λq Q hQ=>(p3 k hk).2.2 q Q (j4 hQ).2⟩⟩
theorem qJ {ρ:Nat->Nat} {a:Act} {w:World} {s:St} {pi:List (Nat×Bool)} {qs:List m6} (hS:Sat C ρ s a w) (hq:bi pi s.pers=some (bB C.w0.heap.size C.S pi qs)) :
  ∀ q∈qs,q.φ w/\(∀ w',(∀ k,q.D k->w'.heap[k]?=w.heap[k]?)->q.φ w') /\
   ∀ k,q.D k->k<w.heap.size/\(∀ b,b<s.next->ρ b≠k)/\∀ r R,look s.rows r=some R->R.own=true->¬ R.uses k:=by
 intro q lM;rcases cD (n0:=C.w0.heap.size) (S:=C.S) (l:=pi) q lM with h1 | h1
 ·exact hS.pers q (O0 hq q h1)
 ·obtain ⟨p1,p2,p3⟩:=hS.pers _ (O0 hq _ h1);exact ⟨p1.1,λw' pU=>(p2 w' pU).1,p3⟩
theorem O3 (pi:List (Nat×Bool)) (qs:List m6) (p:m6) {c:Cfg} (hq:bi pi c.st.pers=some (bB C.w0.heap.size C.S pi qs)) (hD:∀ k,p.D k->∃ q∈qs,q.D k) (hφ:∀ w,(∀ q∈qs,q.φ w)->p.φ w)
  (F9:∀ w w',(∀ k,p.D k->w'.heap[k]?=w.heap[k]?)->p.φ w->p.φ w')
  (h:V C ⟨c.todo,{ c.st with pers:=p::c.st.pers }⟩):V C c:=by
 intro ρ a w hS;have fQ:=qJ hS hq;refine h ρ a w ⟨hS.n,hS.slots,hS.grds,hS.heap,hS.inj,hS.lt,hS.defers,hS.chg,hS.rows,hS.rowsD,?_,hS.fix⟩;intro p' ko;rcases a0k.1 ko with rfl | ko
 ·have h0:=hφ w (λq lM=>(fQ q lM).1);refine ⟨h0,λw' pU=>F9 w w' pU h0,λk hk=>?_⟩;obtain ⟨q,lM,eD⟩:=hD k hk;exact (fQ q lM).2.2 k eD
 ·exact hS.pers p' ko
def sB:List (Nat×Bool)->Bool
 | []=>true
 | (_,b)::l=>match b with
  | true=>sB l
  | false=>false
theorem uV {n0:Nat} {S:Nat->Prop}:∀ {l:List (Nat×Bool)} {qs:List m6},sB l=true->qs.length<=l.length->∀ q∈qs,P7 n0 S q∈bB n0 S l qs
 | [],qs,_,hl,q,hq=>by have:qs=[]:=List.eq_nil_of_length_eq_zero (by simpa using hl); subst this; simp at hq
 | (_,true)::l,[],_,_,q,hq=>by simp at hq
 | (_,true)::l,q0::qs,h,hl,q,hq=>by
  rcases a0k.1 hq with rfl | hq
  ·exact a0f ..
  ·exact a0e _ (uV (l:=l) (by simpa [sB] using h) (by simpa using hl) q hq)
 | (_,false)::l,_,h,_,_,_=>by cases h
theorem B3 (pi:List (Nat×Bool)) (qs:List m6) (p:m6) {c:Cfg} (hq:bi pi c.st.pers=some (bB C.w0.heap.size C.S pi qs)) (hb:(sB pi&&a5r qs.length pi.length)=true)
  (hD:∀ k,p.D k->∃ q∈qs,q.D k) (hφ:∀ w,(∀ q∈qs,q.φ w)->p.φ w)
  (F9:∀ w w',(∀ k,p.D k->w'.heap[k]?=w.heap[k]?)->p.φ w->p.φ w')
  (h:V C ⟨c.todo,{ c.st with pers:=P7 C.w0.heap.size C.S p::c.st.pers }⟩):V C c:=by
 intro ρ a w hS;rw [a0g] at hb;have fQ:=qJ hS hq;refine h ρ a w ⟨hS.n,hS.slots,hS.grds,hS.heap,hS.inj,hS.lt,hS.defers,hS.chg,hS.rows,hS.rowsD,?_,hS.fix⟩;intro p' ko;rcases a0k.1 ko with rfl | ko
 ·have h0:=hφ w (λq lM=>(fQ q lM).1);have Z8:∀ k,p.D k->C.w0.heap.size<=k∨C.S k:=by
   intro k hk;obtain ⟨q,lM,eD⟩:=hD k hk;have hm:=O0 hq _ (uV hb.1 (a0w hb.2) q lM);exact (hS.pers _ hm).1.2 k eD
  refine ⟨⟨h0,Z8⟩,λw' pU=>⟨F9 w w' pU h0,Z8⟩,λk hk=>?_⟩;obtain ⟨q,lM,eD⟩:=hD k hk;exact (fQ q lM).2.2 k eD
 ·exact hS.pers p' ko
theorem uW (R:Row):∀ w w':World,(∀ k,(e8 R).D k->w'.heap[k]?=w.heap[k]?)->(e8 R).φ w->(e8 R).φ w':=λ_ _ hw h=>Row.ok.congr h hw
end
end Go.SX
end
section
namespace Go.SX
open Go
def sC (b:Bool):SV->SV->Option SV
 | .int k m,.int k' n=>match nu k k' with
  | true=>some (.int k (cond b m n))
  | false=>none
 | .str l,.str m=>some (.str (cond b l m))
 | .val v,.val w=>some (.val (cond b v w))
 | x,y=>match bOf x,bOf y with
  | some p,some q=>some (.sb (cond b p q))
  | _,_=>none
def oo (b:Bool):List SV->List SV->Option (List SV)
 | [],[]=>some []
 | x::l,y::m=>match sC b x y,oo b l m with
  | some z,some r=>some (z::r)
  | _,_=>none
 | _,_=>none
def sD (b:Bool):CV->CV->Option CV
 | .one x,.one y=>match sC b x y with
  | some z=>some (.one z)
  | none=>none
 | .agg l,.agg m=>match oo b l m with
  | some r=>some (.agg r)
  | none=>none
 | _,_=>none
def jo (b:Bool):List CV->List CV->Option (List CV)
 | [],[]=>some []
 | x::l,y::m=>match sD b x y,jo b l m with
  | some z,some r=>some (z::r)
  | _,_=>none
 | _,_=>none
def xh (b:Bool):RV->RV->Option RV
 | .v x,.v y=>match sD b x y with
  | some z=>some (.v z)
  | none=>none
 | .tup l,.tup m=>match jo b l m with
  | some r=>some (.tup r)
  | none=>none
 | _,_=>none
theorem qK {b:Bool} {x y z:SV} (h:sC b x y=some z) (ρ:Nat->Nat):z.den ρ=cond b (x.den ρ) (y.den ρ):=by
 unfold sC at h;split at h
 ·split at h
  ·rename_i hk; have:=ij hk; subst this; cases h; cases b<;>rfl
  ·cases h
 ·cases h; cases b<;>rfl
 ·cases h; cases b<;>rfl
 ·split at h
  ·rename_i hp hq; cases h; rw [bH hp,bH hq]; cases b<;>rfl
  ·cases h
theorem qL {b:Bool} (ρ:Nat->Nat):∀ {l m r:List SV},oo b l m=some r->r.map (a4m ρ)=cond b (l.map (a4m ρ)) (m.map (a4m ρ))
 | [],[],r,h=>by simp only [oo,a0l] at h; subst h; cases b<;>rfl
 | x::l,y::m,r,h=>by
  simp only [oo] at h;split at h
  ·rename_i z r' hz hr;cases h;simp only [a3h,qK hz ρ,qL ρ hr];cases b<;>rfl
  ·cases h
 | [],_::_,_,h=>by cases h
 | _::_,[],_,h=>by cases h
theorem qM {b:Bool} {x y z:CV} (h:sD b x y=some z) (ρ:Nat->Nat):z.den ρ=cond b (x.den ρ) (y.den ρ):=by
 unfold sD at h;split at h
 ·split at h
  ·rename_i hz; cases h; exact qK hz ρ
  ·cases h
 ·split at h
  ·rename_i hz; cases h; simp only [a2a,qL ρ hz]; cases b<;>rfl
  ·cases h
 ·cases h
theorem oq {b:Bool} (ρ:Nat->Nat):∀ {l m r:List CV},jo b l m=some r->r.map (a2a ρ)=cond b (l.map (a2a ρ)) (m.map (a2a ρ))
 | [],[],r,h=>by simp only [jo,a0l] at h; subst h; cases b<;>rfl
 | x::l,y::m,r,h=>by
  simp only [jo] at h;split at h
  ·rename_i z r' hz hr;cases h;simp only [a3h,qM hz ρ,oq ρ hr];cases b<;>rfl
  ·cases h
 | [],_::_,_,h=>by cases h
 | _::_,[],_,h=>by cases h
theorem qN {b:Bool} {x y z:RV} (h:xh b x y=some z) (ρ:Nat->Nat):z.den ρ=cond b (x.den ρ) (y.den ρ):=by
 unfold xh at h;split at h
 ·split at h
  ·rename_i hz; cases h; exact qM hz ρ
  ·cases h
 ·split at h
  ·rename_i hz; cases h; simp only [RV.den,oq ρ hz]; cases b<;>rfl
  ·cases h
 ·cases h
def yY (c pol:Bool):List Prop->List Prop
 | []=>[]
 | p::l=>(c=pol->p)::yY c pol l
theorem kN {c pol:Bool}:∀ {l:List Prop},(∀ p∈yY c pol l,p)->c=pol->∀ p∈l,p
 | [],_,_,p,hp=>by simp at hp
 | q::l,h,e,p,hp=>by
  rcases a0k.1 hp with rfl | hp
  ·exact h _ (a0f ..) e
  ·exact kN (λp hp=>h p (a0e _ hp)) e p hp
def CP (c:Cfg):Bool :=
 match c.todo with
 | .inLoop _::_=>true
 | .code (.loop _)::_=>true
 | _=>false
def qO (P:Program) (f:FuncId) (T:List (Ent P)):Nat->Cfg->Option (RV×List Prop)
 | 0,_=>none
 | n+1,c=>match runT P T 1000 c with
  | (c',ob)=>match ew c'.todo with
   | true=>match jd P f c'.st with
    | some v=>some (v,ob)
    | none=>none
   | false=>match kH c' with
    | some (g,b)=>match qO P f T n (c'.know g true),qO P f T n (c'.know g false) with
     | some (v1,o1),some (v2,o2)=>match xh b v1 v2 with
      | some v=>some (v,ob++(yY b true o1++yY b false o2))
      | none=>none
     | _,_=>none
    | none=>match CP c' with
     | true=>match qO P f T n (iter c') with
      | some (v,o1)=>some (v,ob++o1)
      | none=>none
     | false=>none
theorem cF {P:Program} {T:List (Ent P)}:∀ (n:Nat) (c:Cfg),(runT P T n c).1.st.pers=c.st.pers
 | 0,_=>rfl
 | n+1,c=>by
  unfold runT;split
  ·rfl
  ·rename_i c' hs; exact (cF n c').trans (dx hs)
  ·rename_i c' ob _ hs; exact (cF n c').trans (dx hs)
section
variable {C:Ctx}
theorem bQ {T:List (Ent C.P)}:∀ {n:Nat} {c:Cfg} {v:RV} {ob:List Prop},qO C.P C.f T n c=some (v,ob)->(∀ p∈ob,p)->(∀ e∈T,∀ q∈e.sp.need,q∈c.st.pers) ->
  (∀ ρ w,Chg C.S C.w0 w->C.R (.returned (v.den ρ)) w)->C.round=none->V C c
 | 0,_,_,_,h,_,_,_,_=>by cases h
 | n+1,c,v,ob,h,q8,hn,hR,GB=>by
  unfold qO at h;split at h;rename_i c' ob1 F1;have VS:(runT C.P T 1000 c).1=c':=by rw [F1]
  have NM:(runT C.P T 1000 c).2=ob1:=by rw [F1]
  have hp:c'.st.pers=c.st.pers:=by rw [<- VS]; exact cF 1000 c
  have dc:∀ e∈T,∀ q∈e.sp.need,q∈c'.st.pers:=λe he q hq=>by rw [hp]; exact hn e he q hq
  have key:(∀ p∈ob1,p)->V C c'->V C c:=λho hV=>X2 1000 c (by rw [NM]; exact ho) hn (by rw [VS]; exact hV);split at h
  ·rename_i he;split at h
   ·rename_i u hu;cases h;exact key q8 (V.ret v (by unfold Hc; rw [GB]; exact hu) he (fun ρ a w hS=>hR ρ w hS.chg))
   ·cases h
  ·split at h
   ·rename_i g b Qr;split at h
    ·rename_i v1 o1 v2 o2 h1 h2;split at h
     ·rename_i u hm;cases h;refine key (λp hp=>q8 p (a1w _ hp)) (aY g b Qr (λhb=>?_) (λhb=>?_))
      ·refine bQ h1 (kN (λp hp=>q8 p (a1v _ (a1w _ hp))) hb) dc (fun ρ w hc=>?_) GB;have:=qN hm ρ;rw [hb] at this;rw [show v1.den ρ=v.den ρ from this.symm];exact hR ρ w hc
      ·refine bQ h2 (kN (λp hp=>q8 p (a1v _ (a1v _ hp))) hb) dc (fun ρ w hc=>?_) GB;have:=qN hm ρ;rw [hb] at this;rw [show v2.den ρ=v.den ρ from this.symm];exact hR ρ w hc
     ·cases h
    ·cases h
   ·split at h
    ·rename_i hl;split at h
     ·rename_i u o1 h1;cases h;refine key (λp hp=>q8 p (a1w _ hp)) (V.iter ?_);exact bQ h1 (λp hp=>q8 p (a1v _ hp)) (λe he q hq=>by rw [mH]; exact dc e he q hq) hR GB
     ·cases h
    ·cases h
end
def Ry (fn:Func) (xs:List CV) (wr:Bool) (ps:List m6):Cfg:=⟨[.code (I5 fn)],st0 fn.ntmps xs [] 0 [] 0 ps wr⟩
theorem ot {x:SV} (h:F2 x=true) (ρ ρ':Nat->Nat):x.den ρ=x.den ρ':=by cases x<;>first|rfl | cases h
theorem xi {l:List SV} (h:l.all F2=true) (ρ ρ':Nat->Nat):l.map (a4m ρ)=l.map (a4m ρ'):=a2g λx hx=>ot (a0y.1 h x hx) ρ ρ'
theorem dy {x:CV} (h:Q8 x=true) (ρ ρ':Nat->Nat):x.den ρ=x.den ρ':=by
 cases x with
 | one x=>exact ot h ρ ρ'
 | agg l=>simp only [a2a]; rw [xi h ρ ρ']
theorem fi {l:List CV} (h:l.all Q8=true) (ρ ρ':Nat->Nat):l.map (a2a ρ)=l.map (a2a ρ'):=a2g λx hx=>dy (a0y.1 h x hx) ρ ρ'
theorem ou {x:RV} (h:io x=true) (ρ ρ':Nat->Nat):x.den ρ=x.den ρ':=by
 cases x with
 | v x=>exact dy h ρ ρ'
 | tup l=>simp only [RV.den]; rw [fi h ρ ρ']
 | grd=>cases h
theorem xj {x:CV} (h:Q8 x=true):wfC 0 x=true:=by
 have hs:∀ y,F2 y=true->wfS 0 y=true:=λy hy=>by cases y<;>first|rfl | cases hy
 cases x with
 | one x=>exact hs x h
 | agg l=>exact a0y.2 λy hy=>hs y (a0y.1 h y hy)
def r6 {P:Program} {f:FuncId} {fn:Func} (hf:P.funcs[f]?=some fn) (wr:Bool) (T:List (Ent P)) (need:List m6) (hb:fn.body.isSome=true) (hn:ex T need=ez T):Con P where
 f:=f
 need:=need
 fn:=λxs=>match xs.all Q8,a5r xs.length fn.ntmps with
  | true,true=>match qO P f T 60 (Ry fn xs wr need) with
   | some (v,ob)=>match io v with
    | true=>some (v,ob)
    | false=>none
   | none=>none
  | _,_=>none
 ok:=by
  intro xs v ob h q8 ρ w S0 _;split at h
  ·rename_i h1 h2;split at h
   ·rename_i v' ob' he;split at h
    ·rename_i M3;cases h;rw [fi h1 ρ (λ_=>0)];exact z6 need S0 xs wr hf hb h2 (a0y.2 λx hx=>xj (a0y.1 h1 x hx))<|bQ (C:=⟨P,f,u6 (v.den ρ) w,λ_=>False,w,λ_=>0,none⟩) he q8 (bj hn) (fun ρ' w' hc=>by rw [ou M3 ρ' ρ]; exact ⟨rfl,hc⟩) rfl
    ·cases h
   ·cases h
  ·cases h
def R7 {P:Program} (f:FuncId) (need:List m6) (ys:List CV) (v:RV) (h:∀ ρ w,C9 need w->Calls P f (ys.map (a2a ρ)).toArray w (u6 (v.den ρ) w)):Con P where
 f:=f
 need:=need
 fn:=λxs=>some (v,[xs=ys])
 ok:=by
  intro xs v' ob h1 q8 ρ w S0 _;simp only [a0l,a1f] at h1;obtain ⟨rfl,rfl⟩:=h1;rw [q8 (xs=ys) (a0d.2 rfl)];exact h ρ w S0
def Con.e {P:Program} (s:Con P):Ent P:=⟨s,[]⟩
end Go.SX
end
section
namespace Go.SX
open Go
def JL (P:Program) (c:Cfg):Option (TypeId×List UInt8) :=
 match V1 c with
 | some (.convert src dst x)=>match P.underlying src,P.underlying dst,ev c.st none x with
  | some .string,some (.slice e),some (.one (.str l))=>match P.underlying e with
   | some (.int .u8)=>some (e,l)
   | _=>none
  | _,_,_=>none
 | _=>none
def bm (l:List UInt8) (g cap:Nat) (e:TypeId):Row:=d5 bsv 0 l (some ⟨g,0,none⟩) cap e 1 false
section
variable {C:Ctx}
theorem qP (e:TypeId) (l:List UInt8) {c:Cfg} (hc:JL C.P c=some (e,l))
  (I9:∀ g cap,(j5 c (c.st.more [bm l g cap e] []) (.v (.one (.row c.st.nr (some ⟨g,0,none⟩) l.length cap)))).isSome=true)
  (k:∀ g cap,V C (u0 c (c.st.more [bm l g cap e] []) (.v (.one (.row c.st.nr (some ⟨g,0,none⟩) l.length cap))))):V C c:=by
 unfold JL at hc;split at hc
 ·rename_i src dst x f7;split at hc
  ·rename_i e' l' hs hd hx;split at hc
   ·rename_i he;cases hc;refine lV f7 (fun ρ a w o ho hS=>?_);obtain ⟨e1,_⟩:=d7 hS.toP (j9 c.st) hx;have F1:=run_bytes_of_string w src dst e ⟨l.toArray⟩ hs hd he;have C8:(⟨l.toArray⟩:ByteArray).size=l.length:=by simp [ByteArray.size]
    rw [C8] at F1
    let cap:=grownCap w l.length 0 e
    let o':Obj:=.cells (bytesRow ⟨l.toArray⟩ cap) e ((bytesRow ⟨l.toArray⟩ cap).size,(bytesRow ⟨l.toArray⟩ cap).size+1)
    have pZ:Chg (λ_=>False) w w.drew:=⟨rfl,rfl,rfl,a0q _,λ_ _ _=>rfl⟩;have N5:Chg (λ_=>False) w (w.drew.alloc o'):=Chg.trans (S:=λ_=>False) (T:=λ_=>False) pZ (Chg.alloc _ _ _) (λ_ hi=>hi.elim);have ug:(w.drew.alloc o').heap[w.heap.size]?=some o':=by
     show (w.heap.push o')[w.heap.size]?=some o';simp
    have W1:∀ i x,l[i]?=some x->(w.drew.alloc o').cell? ⟨w.heap.size,i,none⟩=some (.int .u8 x.toNat):=by
     intro i x hi;rw [a4i ug];have WI:=(a2l.1 hi).1;rw [bytesRow,Array.getElem?_append_left (by simpa using WI)];simp [hi]
    have hR:(bm l w.heap.size cap e).ok (w.drew.alloc o'):=by
     refine ⟨λi hi=>⟨rfl,λy hy=>?_⟩,λhn=>⟨w.heap.size,0,rfl,λi j y hi hy=>?_⟩,(λh=>by cases h),(λo h=>by cases h)⟩
     ·simp only [bm,d5,bsv,a0d] at hy; subst hy; trivial
     ·have ao:i<l.length:=hi;cases j with
      | zero =>
       simp only [bm,d5,bsv,List.getElem?_cons_zero,a0l] at hy;subst hy;show (w.drew.alloc o').cell? ⟨w.heap.size,0+(i*1+0),none⟩=_;rw [show 0+(i*1+0)=i by omega,W1 i l[i] (by simp [ao])];simp [a3n,a4m,a0r,a0b ao]
      | succ j=>simp [bm,d5,bsv] at hy
    have NK:JK w (w.drew.alloc o') (F3 c.st.nr [bm l w.heap.size cap e]) []:=by
     refine ⟨λr R hr=>?_,λr r' R R' h1 h2 E0 ho=>?_,λp hp=>by cases hp⟩
     ·simp only [F3,look] at hr;split at hr
      ·cases hr;refine ⟨hR,?_⟩;rintro k ⟨ad,N6,rfl,_⟩;cases N6;exact ⟨a0q _,by show w.heap.size<(w.heap.push o').size; simp⟩
      ·cases hr
     ·simp only [F3,look] at h1;split at h1
      ·cases h1; cases ho
      ·cases h1
    refine ⟨ρ,.v (.one (.row c.st.nr (some ⟨w.heap.size,0,none⟩) l.length cap)),_,c.st.more [bm l w.heap.size cap e] [],?_,hS.more N5 NK,?_,by simp,_,x4 (I9 _ _),k _ _⟩
    ·unfold execOp;rw [ho];refine H1 ?_;rw [e1];exact F1
    ·refine ⟨by show c.st.nr<c.st.nr+1; omega,λR G8=>?_⟩;have:look (c.st.more [bm l w.heap.size cap e] []).W.rows c.st.nr=some (bm l w.heap.size cap e):=by
      show look (s7 (F3 c.st.nr [bm l w.heap.size cap e]) c.st.rows) c.st.nr=_;simp [F3,s7,look,a4h]
     rw [this] at G8;cases G8;exact ⟨rfl,rfl,rfl⟩
   ·cases hc
  ·cases hc
 ·cases hc
end
end Go.SX
end
section
namespace Go.SX
open Go
def KY (P:Program) (l:Nat) (args:Array Value) (w:World) (R:Value->World->Prop):Prop :=
 ∃ f tmps assign body,(Instr.yield l args).run P w=.ok (.round l f tmps assign body) w /\
  ∀ c cs,∃ v w',R v w'/\Steps P (lone (Frame.round l f tmps assign body .normal) (c::cs) w) (lone (c.finish v) cs w')
theorem Ok.op_yield {C:Ctx} {a:Act} {w:World} {ops:Array Oper} {i:Nat} {r:List Nat} {k:List Item} {o:Oper} (ho:ops[i]?=some o) (hw:Region.wanted o (yielded ops a.tmps)=true)
  {l:Nat} {f:FuncId} {tmps:Array Value} {assign body:Code} (hr:(execOp a.eval o).run C.P w=.ok (.round l f tmps assign body) w) {R:Value->World->Prop}
  (F9:∀ c cs,∃ v w',R v w'/\Steps C.P (lone (Frame.round l f tmps assign body .normal) (c::cs) w) (lone (c.finish v) cs w'))
  (h:∀ v w',R v w'->Ok C (.inRegion ops r::k) (a.put o.dst v) w'):Ok C (.inRegion ops (i::r)::k) a w:=by
 intro b hb hk qu cs gN;have hg:=stepGR_op (P:=C.P) (b:=b) (k:=k) (cs:=cs) (w:=w) (rest:=r) ho hw;rw [Oper.semAt_eq _ _ _ (jb hr (by simp))] at hg;obtain ⟨v,w2,hR,iR⟩:=F9 (b.atR a (.inRegion ops (i::r)::k)) cs;have cr:Go.step C.P (lone (b.atR a (.inRegion ops (i::r)::k)) cs w)=.next (lone (Frame.round l f tmps assign body .normal) (b.atR a (.inRegion ops (i::r)::k)::cs) w) :=
  step_lone_go (by rw [hg]; simp [stepG.apply,hr,Frame.atR])
 obtain ⟨e,w3,h1,h2⟩:=h v w2 hR b hb hk qu cs gN;have M7:(b.atR a (.inRegion ops (i::r)::k)).finish v=b.atR (a.put o.dst v) (.inRegion ops r::k):=by rw [Frame.finish_atR,ho]; rfl
 rw [M7] at iR;exact ⟨e,w3,h1,h2.of_steps (.head cr iR)⟩
structure Yd (P:Program) (l n:Nat) (enc:Nat->Array Value) (w0:World) where
 J:Nat->(Nat->Prop)->(Nat->Prop)->World->Prop
 Jx:(Nat->Prop)->(Nat->Prop)->World->Prop
 st:∀ i O Ow W W',J i O Ow W->(∀ k,O k->W'.heap[k]?=W.heap[k]?)->J i O Ow W'
 stx:∀ O Ow W W',Jx O Ow W->(∀ k,O k->W'.heap[k]?=W.heap[k]?)->Jx O Ow W'
 lt:∀ i O Ow W,J i O Ow W->∀ k,O k->k<W.heap.size
 ltx:∀ O Ow W,Jx O Ow W->∀ k,O k->k<W.heap.size
 own:∀ i O Ow W,J i O Ow W->∀ k,Ow k->O k
 y:∀ i O Ow W,i<n->J i O Ow W->W.os=w0.os->W.tape=w0.tape->W.output=w0.output->KY P l (enc i) W λv W'=>∃ O' Ow',Chg Ow W W'/\(∀ k,O' k->O k∨W.heap.size<=k)/\(∀ k,Ow' k->Ow k∨W.heap.size<=k) /\
  ((v=.bool true/\J (i+1) O' Ow' W')∨(v=.bool false/\Jx O' Ow' W'))
def jP {P:Program} {l n:Nat} {enc:Nat->Array Value} {w0:World} (Y:Yd P l n enc w0) (i:Nat) (O Ow:Nat->Prop) (ps:List m6):m6 :=
 ⟨O,λW=>Y.J i O Ow W/\∀ p∈ps,∀ k,p.D k->¬ Ow k⟩
def jX {P:Program} {l n:Nat} {enc:Nat->Array Value} {w0:World} (Y:Yd P l n enc w0) (O Ow:Nat->Prop):m6:=⟨O,λW=>Y.Jx O Ow W⟩
def yZ (c:Cfg):Option (Nat×List CV) :=
 match c.todo with
 | .inRegion ops (i::_)::_=>match ops[i]? with
  | some o=>match o.op with
   | .call cl=>match L7 c.st ops o.guard,cl.callee with
    | .yes,.value x=>match ev c.st none x,evs c.st none cl.args.toList with
     | some (.one (.val (.func (.yield l) fs cs))),some xs=>match fs.toList,cs.toList with
      | [],[]=>some (l,xs)
      | _,_=>none
     | _,_=>none
    | _,_=>none
   | _=>none
  | none=>none
 | _=>none
section
variable {C:Ctx}
theorem V.yield {l n:Nat} {enc:Nat->Array Value} (Y:Yd C.P l n enc C.w0) (i:Nat) (O Ow:Nat->Prop) (ps:List m6) (xs:List CV) {c:Cfg} (hc:yZ c=some (l,xs)) (hS:∀ k,C.S k)
  (hp:c.st.pers=jP Y i O Ow ps::ps) (r7:bf c.st.rows=true) (hi:i<n) (hx:∀ ρ,(xs.map (a2a ρ)).toArray=enc i)
  (I9:((j5 c c.st (.v (.one (.bool true)))).isSome&&(j5 c c.st (.v (.one (.bool false)))).isSome)=true)
  (k1:∀ O' Ow',V C (u0 c { c.st with pers:=jP Y (i+1) O' Ow' ps::ps } (.v (.one (.bool true)))))
  (k2:∀ O' Ow',V C (u0 c { c.st with pers:=jX Y O' Ow'::ps } (.v (.one (.bool false))))):V C c:=by
 intro ρ a w nq;rw [a0g] at I9;obtain ⟨todo,st⟩:=c;unfold yZ at hc;simp only at hc hp r7 I9 k1 k2 nq ⊢;split at hc
 case h_2=>cases hc
 rename_i ops idx r k;split at hc
 case h_2=>cases hc
 rename_i o ho;split at hc
 case h_2=>cases hc
 rename_i cl f7;split at hc
 case h_2=>cases hc
 rename_i x hg Gv;split at hc
 case h_2=>cases hc
 rename_i l' fs cs xs' Wk ns;split at hc
 case h_2=>cases hc
 rename_i GQ gN;cases hc;obtain ⟨e1,_⟩:=d7 nq.toP (j9 st) Wk;have Z9:cl.args.map a.eval=(xs.map (a2a ρ)).toArray:=by
  have:=(kI nq.toP (j9 st) ns).1;apply a3u;simpa using this
 rw [hx ρ] at Z9;have NB:fs=#[]:=by apply a3u; simpa using GQ
 have Vm:cs=#[]:=by apply a3u; simpa using gN
 subst NB Vm;obtain ⟨⟨p1,p2⟩,_,p3⟩:=nq.pers (jP Y i O Ow ps) (by rw [hp]; exact a0f ..);obtain ⟨f,tmps,assign,body,hy,F9⟩:=Y.y i O Ow w hi p1 nq.chg.os nq.chg.tape nq.chg.output;have hr:(execOp a.eval o).run C.P w=.ok (.round l f tmps assign body) w:=by
  obtain ⟨callee,args,argTypes⟩:=cl;simp only at Gv Z9;subst Gv;unfold execOp;rw [f7];simp only [resolve,e1,a2a,a4m,Deferred.ofValue,a1n,a2i,Result.andThen_ok,invoke,Z9];simpa using hy
 refine Ok.op_yield ho (D5 nq hg) hr F9 (λv W' hR=>?_);obtain ⟨O',Ow',N5,hO,Rn,Qs⟩:=hR
 -- what the function that is ranged over knows is as it was
 have QZ:∀ b,b<st.next->¬ Ow (ρ b):=λb hb hk=>(p3 _ (Y.own i O Ow w p1 _ hk)).2.1 b hb rfl;have U0:∀ k,k<w.heap.size->¬ Ow k->W'.heap[k]?=w.heap[k]?:=λk hk hn=>N5.block k hk hn;have W3:∀ q R,look st.rows q=some R->∀ k,R.uses k->¬ Ow k:=λq R hR k hk ky =>
  (p3 k (Y.own i O Ow w p1 k ky)).2.2 q R hR (aH r7 hR) hk
 have mB:∀ p':m6,(p'.φ W')->(∀ w2,(∀ k,p'.D k->w2.heap[k]?=W'.heap[k]?)->p'.φ w2)->(∀ k,p'.D k->k<W'.heap.size)->(∀ k,p'.D k->O' k) ->
   ∀ qs,(∀ q∈qs,q∈ps)->Sat C ρ { st with pers:=p'::qs } a W':=by
  intro p' q1 q2 q3 q4 qs UK;refine ⟨nq.n,nq.slots,nq.grds,?_,nq.inj,λb hb=>a1b (nq.lt b hb) N5.size,nq.defers,nq.chg.trans N5 (λk _=>.inr (hS k)),?_,nq.rowsD,?_,nq.fix⟩
  ·intro b blk hb;obtain ⟨k1,k2,k3,k4⟩:=nq.heap b blk hb;exact ⟨k1,(U0 _ (nq.lt b k1) (QZ b k1)).trans k2,k3,k4⟩
  ·intro q R hR;obtain ⟨k0,k1,k2⟩:=nq.rows q R hR;exact ⟨k0,k1.congr (λk hk=>U0 k (k2 k hk).1 (W3 q R hR k hk)),λk hk=>⟨a1b (k2 k hk).1 N5.size,(k2 k hk).2⟩⟩
  ·intro p rV;rcases a0k.1 rV with rfl | rV
   ·refine ⟨q1,q2,λk hD=>⟨q3 k hD,λb hb e=>?_,λq R hR ky hu=>?_⟩⟩
    ·rcases hO k (q4 k hD) with h | h
     ·exact (p3 k h).2.1 b hb e
     ·have:=nq.lt b hb; omega
    ·rcases hO k (q4 k hD) with h | h
     ·exact (p3 k h).2.2 q R hR ky hu
     ·have:=((nq.rows q R hR).2.2 k hu).1; omega
   ·have QB:=UK p rV;obtain ⟨r1,r2,r3⟩:=nq.pers p (by rw [hp]; exact a0e _ QB);have hk:∀ k,p.D k->W'.heap[k]?=w.heap[k]?:=λk hD=>U0 k (r3 k hD).1 (p2 p QB k hD);exact ⟨r2 _ hk,λw2 bY=>r2 w2 (λk hD=>(bY k hD).trans (hk k hD)),λk hD=>⟨a1b (r3 k hD).1 N5.size,(r3 k hD).2⟩⟩
 have wB:∀ (b:Bool) (s1:St),Sat C ρ s1 a W'->s1.n=st.n->s1.gs=st.gs->s1.slots=st.slots->v=.bool b->(j5 ⟨.inRegion ops (idx::r)::k,st⟩ st (.v (.one (.bool b)))).isSome=true ->
   V C (u0 ⟨.inRegion ops (idx::r)::k,st⟩ s1 (.v (.one (.bool b))))->Ok C (.inRegion ops r::k) (a.put o.dst v) W':=by
  intro b s1 h1 hn mu rT hv NG hV;subst hv;unfold u0 at hV;simp only [j5,ho] at NG hV;have o9:(s1.put o.dst (.v (.one (.bool b)))).isSome=(st.put o.dst (.v (.one (.bool b)))).isSome:=by
   unfold St.put;rw [hn,mu];split
   ·rfl
   ·split
    ·rfl
    ·split<;>rfl
  cases hs1:s1.put o.dst (.v (.one (.bool b))) with
  | none =>
   rw [hs1] at o9;cases rU:st.put o.dst (.v (.one (.bool b))) with
   | none=>rw [rU] at NG; cases NG
   | some s2=>rw [rU] at o9; cases o9
  | some s2 =>
   rw [hs1] at hV;exact hV ρ _ _ (h1.put hs1 trivial (λg pol b x e=>by cases e))
 rcases Qs with ⟨hv,hJ⟩ | ⟨hv,hJ⟩
 ·refine wB true _ (mB (jP Y (i+1) O' Ow' ps) ⟨hJ,λp rV k hD ky=>?_⟩ (λw2 bY=>⟨Y.st _ _ _ _ _ hJ bY,λp rV k hD ky=>?_⟩) (Y.lt _ _ _ _ hJ) (λk h=>h) ps (λq h=>h)) rfl rfl rfl hv I9.1 (k1 O' Ow')
  all_goals
   rcases Rn k ky with h | h
   ·exact p2 p rV k hD h
   ·have:=((nq.pers p (by rw [hp]; exact a0e _ rV)).2.2 k hD).1; omega
 ·exact wB false _ (mB (jX Y O' Ow') hJ (λw2 bY=>Y.stx _ _ _ _ hJ bY) (Y.ltx _ _ _ hJ) (λk h=>h) ps (λq h=>h)) rfl rfl rfl hv I9.2 (k2 O' Ow')
def za {P:Program} {l n:Nat} {enc:Nat->Array Value} {w:World} (Y:Yd P l n enc w) (e:Ending) (w':World):Prop :=
 (∃ v,e=.returned v)/\w'.os=w.os/\w'.tape=w.tape/\w'.output=w.output/\∃ O Ow,Y.J n O Ow w'∨Y.Jx O Ow w'
def AO (P:Program) (g:FuncId) (ys:List CV) (F:St) (n:Nat) (enc:Nat->Array Value):Prop :=
 ∀ (ρ:Nat->Nat) (w:World) (l:Nat) (Y:Yd P l n enc w) (O Ow:Nat->Prop),x6 ρ F w->Y.J 0 O Ow w ->
  (∀ k,O k->(∀ b,b<F.next->ρ b≠k)/\∀ r R,look F.rows r=some R->R.own=true->¬ R.uses k)->(∀ p∈F.pers,∀ k,p.D k->¬ Ow k) ->
  Calls P g (#[Value.func (.yield l) #[] #[]]++(ys.map (a2a ρ)).toArray) w (za Y)
def stI (n:Nat) (xs:List CV) (F:St) (p:m6) (wr:Bool):St :=
 { n:=n,slots:=wW xs 0,gs:=[],heap:=F.heap,next:=F.next,rows:=F.rows,nr:=F.nr,pers:=p::F.pers,wr:=wr,fx:=F.next }
theorem AO.mk {P:Program} {g:FuncId} {fn:Func} {ys:List CV} {F:St} {n:Nat} {enc:Nat->Array Value} (wr:Bool) (hf:P.funcs[g]?=some fn)
  (hb:(fn.body.isSome&&a5r (ys.length+1) fn.ntmps)=true) (hw:uL F ys=some ys)
  (h:∀ ρ w l (Y:Yd P l n enc w) O Ow,V ⟨P,g,za Y,λ_=>True,w,ρ,none⟩ ⟨[.code (I5 fn)],stI fn.ntmps (.one (.val (.func (.yield l) #[] #[]))::ys) F (jP Y 0 O Ow F.pers) wr⟩):AO P g ys F n enc:=by
 intro ρ w l Y O Ow hF hJ hO Rn;rw [a0g] at hb;have Z9:(#[Value.func (.yield l) #[] #[]]++(ys.map (a2a ρ)).toArray)=((.one (.val (.func (.yield l) #[] #[]))::ys:List CV).map (a2a ρ)).toArray:=by
  apply a3u; simp [a2a,a4m]
 rw [Z9];refine aZ (λ_=>True) ρ ρ _ (stI fn.ntmps (.one (.val (.func (.yield l) #[] #[]))::ys) F (jP Y 0 O Ow F.pers) wr) hf hb.1 (by simpa using hb.2) (λa h1 h2 h3=>?_) (h ρ w l Y O Ow);have iQ:∀ x∈(.one (.val (.func (.yield l) #[] #[]))::ys:List CV),x.wf F.W:=by
  intro x hx;rcases a0k.1 hx with rfl | hx
  ·trivial
  ·exact mO hw x hx
 refine ⟨h1,?_,?_,?_,hF.inj,hF.lt,h2,Chg.refl _ _,?_,hF.rowsD,?_,λb hb=>⟨hb,rfl⟩⟩
 ·intro i v hv;obtain ⟨x,rfl,_,hx⟩:=K0 _ 0 i v hv;exact ⟨h3 i x (by simpa using hx),iQ x (a0v hx)⟩
 ·intro i g pol c x hv;obtain ⟨y,e,_⟩:=K0 _ 0 i _ hv;cases e
 ·intro b blk hb;obtain ⟨k1,k2,k3⟩:=hF.heap b blk hb;exact ⟨k1,k2,k3,λ_=>.inr trivial⟩
 ·intro r R hR;obtain ⟨k1,k2,k3⟩:=hF.rows r R hR;exact ⟨k1,k2,λk hk=>⟨(k3 k hk).1,(k3 k hk).2,λ_=>.inr trivial⟩⟩
 ·intro p hp;rcases a0k.1 hp with rfl | hp
  ·exact ⟨⟨hJ,Rn⟩,λw2 bY=>⟨Y.st _ _ _ _ _ hJ bY,Rn⟩,λk hD=>⟨Y.lt _ _ _ _ hJ k hD,(hO k hD).1,(hO k hD).2⟩⟩
  ·exact hF.pers p hp
theorem qQ {P:Program} {g:FuncId} {l n:Nat} {enc:Nat->Array Value} {w:World} {base:Nat->Nat} (Y:Yd P l n enc w) (i:Nat) (hi:i=n) (O Ow:Nat->Prop) (ps:List m6) (v:RV) {c:Cfg} (hr:jd P g c.st=some v) (he:ew c.todo=true)
  (hp:c.st.pers=jP Y i O Ow ps::ps):V ⟨P,g,za Y,λ_=>True,w,base,none⟩ c:=by
 subst hi;refine V.ret v hr he (fun ρ a w' hS=>?_);obtain ⟨⟨p1,_⟩,_⟩:=hS.pers (jP Y i O Ow ps) (by rw [hp]; exact a0f ..);exact ⟨⟨_,rfl⟩,hS.chg.os,hS.chg.tape,hS.chg.output,O,Ow,.inl p1⟩
theorem qR {P:Program} {g:FuncId} {l n:Nat} {enc:Nat->Array Value} {w:World} {base:Nat->Nat} (Y:Yd P l n enc w) (O Ow:Nat->Prop) (ps:List m6) (v:RV) {c:Cfg} (hr:jd P g c.st=some v) (he:ew c.todo=true)
  (hp:c.st.pers=jX Y O Ow::ps):V ⟨P,g,za Y,λ_=>True,w,base,none⟩ c:=by
 refine V.ret v hr he (fun ρ a w' hS=>?_);obtain ⟨p1,_⟩:=hS.pers (jX Y O Ow) (by rw [hp]; exact a0f ..);exact ⟨⟨_,rfl⟩,hS.chg.os,hS.chg.tape,hS.chg.output,O,Ow,.inr p1⟩
end
end Go.SX
end
section
namespace Go.SX
open Go
section
variable {P:Program}
def KZ (f:FuncId) (need:List m6) (g:Int->RV×List Prop) (ok:∀ n ρ w,(∀ p∈(g n).2,p)->C9 need w->Calls P f #[.int .i64 n] w (u6 ((g n).1.den ρ) w)):Con P where
 f:=f
 need:=need
 fn:=λxs=>match xs with
  | [.one (.int .i64 n)]=>some (g n)
  | _=>none
 ok:=by
  intro xs v ob h q8 ρ w hp wA; clear wA;split at h
  ·rename_i n;have e:=a2h h;have:=ok n ρ w (by rw [e]; exact q8) hp;rw [e] at this;exact this
  ·cases h
def ix (f:FuncId) (need:List m6) (g:List UInt8->RV×List Prop) (ok:∀ s ρ w,(∀ p∈(g s).2,p)->C9 need w->Calls P f #[.string ⟨s.toArray⟩] w (u6 ((g s).1.den ρ) w)):Con P where
 f:=f
 need:=need
 fn:=λxs=>match xs with
  | [.one (.str s)]=>some (g s)
  | _=>none
 ok:=by
  intro xs v ob h q8 ρ w hp wA; clear wA;split at h
  ·rename_i s;have e:=a2h h;have:=ok s ρ w (by rw [e]; exact q8) hp;rw [e] at this;exact this
  ·cases h
def sF (f:FuncId) (need:List m6) (g:List UInt8->List UInt8->RV×List Prop) (ok:∀ s t ρ w,(∀ p∈(g s t).2,p)->C9 need w->Calls P f #[.string ⟨s.toArray⟩,.string ⟨t.toArray⟩] w (u6 ((g s t).1.den ρ) w)):Con P where
 f:=f
 need:=need
 fn:=λxs=>match xs with
  | [.one (.str s),.one (.str t)]=>some (g s t)
  | _=>none
 ok:=by
  intro xs v ob h q8 ρ w hp wA; clear wA;split at h
  ·rename_i s t;have e:=a2h h;have:=ok s t ρ w (by rw [e]; exact q8) hp;rw [e] at this;exact this
  ·cases h
def Con.as (c:Con P) (g:List CV->Option (RV×List Prop)) (h:∀ xs v ob,g xs=some (v,ob)->(∀ p∈ob,p)->∃ v' ob',c.fn xs=some (v',ob')/\(∀ p∈ob',p)/\∀ ρ,v'.den ρ=v.den ρ):Con P where
 f:=c.f
 need:=c.need
 fn:=g
 ok:=by
  intro xs v ob hg q8 ρ w hp e9;obtain ⟨v',ob',h1,h2,h3⟩:=h xs v ob hg q8;have:=c.ok xs v' ob' h1 h2 ρ w hp e9;rw [h3 ρ] at this;exact this
end
end Go.SX
end
section
namespace Go.SX
open Go
def ow (ρ:Nat->Nat) (s:St) (k:Nat):Prop:=(∃ b,b<s.next/\ρ b=k)∨(∃ r R,look s.rows r=some R/\R.uses k)∨∃ p∈s.pers,p.D k
def asW (w0 W:World):World:={ w0 with heap:=W.heap }
section
variable {C:Ctx} {ρ:Nat->Nat} {s:St} {a:Act} {w w':World}
theorem iy {w w':World} {k:Nat} (hk:k<w.heap.size) (h:w'.heap[k]?=w.heap[k]?):k<w'.heap.size:=by
 rcases Nat.lt_or_ge k w'.heap.size with h1 | h1
 ·exact h1
 ·rw [a4u h1,Array.getElem?_eq_getElem hk] at h; cases h
theorem Sat.move (h:Sat C ρ s a w) (hO:∀ k,(ow ρ s k∨(k<C.w0.heap.size/\¬ C.S k))->w'.heap[k]?=w.heap[k]?) (C8:C.w0.heap.size<=w'.heap.size)
  (h1:w'.os=C.w0.os) (h2:w'.tape=C.w0.tape) (h3:w'.output=C.w0.output):Sat C ρ s a w':=by
 have hb:∀ b,b<s.next->w'.heap[ρ b]?=w.heap[ρ b]?:=λb hb=>hO _ (.inl (.inl ⟨b,hb,rfl⟩));have hr:∀ r R,look s.rows r=some R->∀ k,R.uses k->w'.heap[k]?=w.heap[k]?:=λr R hR k hk=>hO _ (.inl (.inr (.inl ⟨r,R,hR,hk⟩)));have hp:∀ p∈s.pers,∀ k,p.D k->w'.heap[k]?=w.heap[k]?:=λp hp k hk=>hO _ (.inl (.inr (.inr ⟨p,hp,hk⟩)));refine ⟨h.n,h.slots,h.grds,?_,h.inj,λb B8=>iy (h.lt b B8) (hb b B8),h.defers,⟨h1,h2,h3,C8,λk hk hn=>(hO k (.inr ⟨hk,hn⟩)).trans (h.chg.block k hk hn)⟩,?_,h.rowsD,?_,h.fix⟩
 ·intro b blk Gm;obtain ⟨k1,k2,k3,k4⟩:=h.heap b blk Gm;exact ⟨k1,(hb b k1).trans k2,k3,k4⟩
 ·intro r R hR;obtain ⟨k0,k1,k2⟩:=h.rows r R hR;exact ⟨k0,k1.congr (hr r R hR),λk hk=>⟨iy (k2 k hk).1 (hr r R hR k hk),(k2 k hk).2⟩⟩
 ·intro p rV;obtain ⟨q1,q2,q3⟩:=h.pers p rV;exact ⟨q2 _ (hp p rV),λw2 bY=>q2 w2 (λk hD=>(bY k hD).trans (hp p rV k hD)),λk hD=>⟨iy (q3 k hD).1 (hp p rV k hD),(q3 k hD).2⟩⟩
theorem Sat.toAs (h:Sat C ρ s a w):Sat C ρ s a (asW C.w0 w):=h.move (λ_ _=>rfl) h.chg.size rfl rfl rfl
end
def t6 (q:Loop) (jump:Option Code):Loop:={ q with state:=if jump.isNone then .ready else .done,pending:=jump }
def Hp (l:Nat) (q:Loop):Row:=G3 l (.loop q)
def La (r:Nat):Row:=G3 r (.deferred (some []))
def q6 (s:St) (l r:Nat) (q:Loop):St:={ s with rows:=s7 s.rows [(s.nr,La r),(s.nr+1,Hp l q)],nr:=s.nr+2 }
def zb {ι:Type} (pre:Nat->ι->Prop) (prex:Code->ι->Prop) (i:Nat):Option Code->ι->Prop
 | none,x=>pre (i+1) x
 | some c,x=>prex c x
def fj {ι:Type} (sx:ι->St) (pre:Nat->ι->Prop) (prex:Code->ι->Prop) (l r:Nat) (q:Loop) (i:Nat) (s:St) (ρ:Nat->Nat) (W:World) (e:Ending) (W':World):Prop :=
 ∃ (jump:Option Code) (x:ι) (ρ':Nat->Nat),e=.returned (.bool jump.isNone)/\zb pre prex i jump x /\
  x6 ρ' (q6 (sx x) l r (t6 q jump)) W'/\(∀ b,b<s.next->ρ' b=ρ b)/\(∀ j v,look (sx x).slots j=some v->v.wf (q6 (sx x) l r (t6 q jump)).W)/\Chg (n6 ρ s) W W' /\
  (∀ k,ow ρ' (q6 (sx x) l r (t6 q jump)) k->(ow ρ s k∨n6 ρ s k)∨W.heap.size<=k) /\
  (∀ k,n6 ρ' (q6 (sx x) l r (t6 q jump)) k->n6 ρ s k∨W.heap.size<=k)
def zc:List (Tmp×CV)->List (Nat×RV)->List (Nat×RV)
 | [],sl=>sl
 | (t,v)::l,sl=>zc l (upd sl t (.v v))
def uX (n:Nat):List (Tmp×CV)->Bool
 | []=>true
 | (t,v)::l=>match a4t t n,Q8 v with
  | true,true=>uX n l
  | _,_=>false
def mP (s:St) (ps:List (Tmp×CV)):St:={ s with slots:=zc ps s.slots,fx:=s.next }
section
variable {C:Ctx}
theorem qS {ρ:Nat->Nat} {s:St} {a:Act} {w:World} (h:Sat C ρ s a w) {k:Nat} (hk:n6 ρ s k):ow ρ s k:=by
 rcases hk with ⟨b,blk,h1,_,h3⟩ | ⟨r,R,h1,_,h3⟩
 ·exact .inl ⟨b,(h.heap b blk h1).1,h3⟩
 ·exact .inr (.inl ⟨r,R,h1,h3⟩)
theorem CQ {ρ:Nat->Nat} {s:St} {a:Act} {w:World} (h:Sat C ρ s a w) {k:Nat} (hk:ow ρ s k):k<w.heap.size:=by
 rcases hk with ⟨b,h1,rfl⟩ | ⟨r,R,h1,h2⟩ | ⟨p,h1,h2⟩
 ·exact h.lt b h1
 ·exact ((h.rows r R h1).2.2 k h2).1
 ·exact ((h.pers p h1).2.2 k h2).1
theorem qT {ρ:Nat->Nat} {s:St} {a:Act} {w:World} (h:Sat C ρ s a w) {k:Nat} (hk:n6 ρ s k):C.w0.heap.size<=k∨C.S k:=by
 rcases hk with ⟨b,blk,h1,h2,rfl⟩ | ⟨r,R,h1,h2,h3⟩
 ·exact (h.heap b blk h1).2.2.2 h2
 ·exact ((h.rows r R h1).2.2 k h3).2.2 h2
theorem gZ {ρ:Nat->Nat} (n:Nat) (W:WF):∀ (ps:List (Tmp×CV)) (sl:List (Nat×RV)) (tmps:Array Value),uX n ps=true->tmps.size=n ->
  (∀ i v,look sl i=some v->tmps[i]?=some (v.den ρ)/\v.wf W) ->
  ∀ i v,look (zc ps sl) i=some v->(ps.foldl (λtm (t,x)=>tm.setIfInBounds t (x.den ρ)) tmps)[i]?=some (v.den ρ)/\v.wf W
 | [],sl,tmps,_,_,h,i,v,hv=>h i v hv
 | (t,x)::ps,sl,tmps,x7,C8,h,i,v,hv=>by
  simp only [uX] at x7;split at x7
  ·rename_i h1 h2;refine gZ n W ps (upd sl t (.v x)) (tmps.setIfInBounds t (x.den ρ)) x7 (by simpa using C8) (λj u hu=>?_) i v hv;rw [s8] at hu;have ht:t<tmps.size:=by rw [C8]; exact X1 h1
   by_cases e:t=j
   ·subst e;rw [if_pos rfl] at hu;cases hu;exact ⟨by simp [ht]; rfl,cB h2 W⟩
   ·rw [if_neg e] at hu;obtain ⟨k1,k2⟩:=h j u hu;exact ⟨by rw [Array.getElem?_setIfInBounds_ne e]; exact k1,k2⟩
  ·cases x7
theorem qU {g:Nat} {pol c:Bool} {x:CV}:∀ (ps:List (Tmp×CV)) (sl:List (Nat×RV)) (i:Nat),look (zc ps sl) i=some (.grd g pol c x)->look sl i=some (.grd g pol c x)
 | [],sl,i,h=>h
 | (t,v)::ps,sl,i,h=>by
  have:=qU ps _ i h;rw [s8] at this;split at this
  ·cases this
  ·exact this
theorem CR {ρ:Nat->Nat} {s:St} {a:Act} {w0 W:World} (hS:Sat C ρ s a w0) (hh:W.heap=w0.heap) (hg:s.gs=[]) (hd:s.defs=[]) (ps:List (Tmp×CV)) (S0:uX s.n ps=true) (R:Ending->World->Prop) (l:Nat)
  {tmps:Array Value} (ht:tmps=ps.foldl (λtm (t,x)=>tm.setIfInBounds t (x.den ρ)) a.tmps) :
  Sat ⟨C.P,C.f,R,n6 ρ s,W,ρ,some l⟩ ρ (mP s ps) ⟨tmps,[]⟩ W:=by
 have rT:=gZ (ρ:=ρ) s.n s.W ps s.slots a.tmps S0 hS.n hS.slots;have QF:∀ (l:List (Tmp×CV)) (t:Array Value),(l.foldl (λtm (t,x)=>tm.setIfInBounds t (x.den ρ)) t).size=t.size:=by
  intro l
  induction l with
  | nil=>intro t; rfl
  | cons p l ih=>intro t; simp only [List.foldl_cons]; rw [ih]; simp
 have GQ:=hS.toF;refine ⟨?_,?_,?_,?_,hS.inj,λb hb=>by rw [hh]; exact hS.lt b hb,?_,Chg.refl _ _,?_,hS.rowsD,?_,λb hb=>⟨hb,rfl⟩⟩
 ·show tmps.size=s.n;rw [ht,QF]; exact hS.n
 ·intro i v hv;subst ht;exact rT i v hv
 ·intro i g pol c x hv;have:=qU ps s.slots i hv;have:=(hS.grds i g pol c x this).1;rw [hg] at this; cases this
 ·intro b blk hb;obtain ⟨k1,k2,k3,_⟩:=hS.heap b blk hb;exact ⟨k1,by rw [hh]; exact k2,k3,λA9=>.inr (.inl ⟨b,blk,hb,A9,rfl⟩)⟩
 ·exact hd.symm
 ·intro r R' hR;obtain ⟨k0,k1,k2⟩:=hS.rows r R' hR;exact ⟨k0,k1.congr (λk _=>by rw [hh]),λk hk=>⟨by rw [hh]; exact (k2 k hk).1,(k2 k hk).2.1,λho=>.inr (.inr ⟨r,R',hR,ho,hk⟩)⟩⟩
 ·intro p hp;obtain ⟨q1,q2,q3⟩:=hS.pers p hp;exact ⟨q2 _ (λk _=>by rw [hh]),λw2 bY=>q2 w2 (λk hD=>by rw [bY k hD,hh]),λk hD=>⟨by rw [hh]; exact (q3 k hD).1,(q3 k hD).2⟩⟩
theorem Sat.rowsEq {ρ:Nat->Nat} {s:St} {a:Act} {w:World} (h:Sat C ρ s a w) (rows:List (Nat×Row)) (he:∀ r,look rows r=look s.rows r):Sat C ρ { s with rows:=rows } a w:=by
 have B0:s.W.le ({ s with rows:=rows }:St).W:=⟨a0q _,a0q _,λr _ R hR=>by
  have G8:look rows r=some R:=hR;rw [he r] at G8; exact G8⟩
 refine ⟨h.n,λi v hv=>⟨(h.slots i v hv).1,RV.wf_mono B0 v (h.slots i v hv).2⟩,h.grds,?_,h.inj,h.lt,h.defers,h.chg,?_,?_,?_,h.fix⟩
 ·intro b blk hb;obtain ⟨k1,k2,k3,k4⟩:=h.heap b blk hb;exact ⟨k1,k2,λx hx=>SV.wf_mono B0 x (k3 x hx),k4⟩
 ·intro r R hR;have G8:look rows r=some R:=hR;rw [he r] at G8;exact h.rows r R G8
 ·intro r r' R R' h1 h2;have mE:look rows r=some R:=h1;have pS:look rows r'=some R':=h2;rw [he r] at mE;rw [he r'] at pS;exact h.rowsD r r' R R' mE pS
 ·intro p hp;obtain ⟨q1,q2,q3⟩:=h.pers p hp;refine ⟨q1,q2,λk hk=>⟨(q3 k hk).1,(q3 k hk).2.1,λr R hR=>?_⟩⟩;have G8:look rows r=some R:=hR;rw [he r] at G8;exact (q3 k hk).2.2 r R G8
theorem Sat.setDefs {ρ:Nat->Nat} {s:St} {a:Act} {w:World} (h:Sat C ρ s a w) (ds:List Deferred):Sat C ρ { s with defs:=ds } { a with defers:=ds } w :=
 ⟨h.n,h.slots,h.grds,h.heap,h.inj,h.lt,rfl,h.chg,h.rows,h.rowsD,h.pers,h.fix⟩
theorem qV {α:Type}:∀ {l:List (Nat×α)} {i:Nat},(∀ v,look l i≠some v)->look l i=none
 | l,i,h=>by cases e:look l i with
  | none=>rfl
  | some v=>exact absurd e (h v)
theorem bo {α:Type}:∀ (l m:List (Nat×α)) (i:Nat),look (s7 l m) i=match look l i with | some v=>some v | none=>look m i
 | [],m,i=>rfl
 | (k,v)::l,m,i=>by
  simp only [s7,look];split
  ·rfl
  ·exact bo l m i
theorem X3 {s:St} (e9:∀ i R,look s.rows i=some R->i<s.nr) (l r:Nat) (q:Loop) :
  (∀ i,look (q6 s l r q).rows i=look ((s.addObj r (.deferred (some []))).addObj l (.loop q)).rows i)/\look (q6 s l r q).rows s.nr=some (La r)/\look (q6 s l r q).rows (s.nr+1)=some (Hp l q):=by
 have h0:look s.rows s.nr=none:=qV (λv hv=>by have:=e9 _ _ hv; omega);have h1:look s.rows (s.nr+1)=none:=qV (λv hv=>by have:=e9 _ _ hv; omega);have e1:a1m (s.nr+1) s.nr=false:=by cases e:a1m (s.nr+1) s.nr with | true=>have:=(d6 _ _).1 e; omega | false=>rfl
 have e2:a1m s.nr (s.nr+1)=false:=by cases e:a1m s.nr (s.nr+1) with | true=>have:=(d6 _ _).1 e; omega | false=>rfl
 refine ⟨λi=>?_,?_,?_⟩
 ·simp only [q6,bo,St.addObj,look];cases hi:look s.rows i with
  | some R =>
   have:=e9 i R hi;have f1:a1m (s.nr+1) i=false:=by cases e:a1m (s.nr+1) i with | true=>have:=(d6 _ _).1 e; omega | false=>rfl
   have f2:a1m s.nr i=false:=by cases e:a1m s.nr i with | true=>have:=(d6 _ _).1 e; omega | false=>rfl
   rw [f1,f2]
  | none =>
   cases f2:a1m s.nr i with
   | true =>
    have:=(d6 _ _).1 f2;subst this;rw [e1]; rfl
   | false=>rfl
 ·simp only [q6,bo,h0,look,a4h]
 ·simp only [q6,bo,h1,look,e2,a4h]
theorem Sat.putL {ρ:Nat->Nat} {s:St} {fx:Nat} {a:Act} {w:World} (e9:∀ i R,look s.rows i=some R->i<s.nr) {l r:Nat} {q:Loop} (h:Sat C ρ { q6 s l r q with fx:=fx } a w) (q':Loop) :
  Sat C ρ { q6 s l r q' with fx:=fx } a (w.putObj l (.loop q')):=by
 obtain ⟨_,k2,k3⟩:=X3 e9 l r q;obtain ⟨_,k2',k3'⟩:=X3 e9 l r q';have h1:=h.setObj k3 (.loop q');have h2:=h1.rowsEq (q6 s l r q').rows (λi=>?_)
 ·exact h2
 ·simp only [St.setObj,s8];by_cases e:s.nr+1=i
  ·subst e; rw [if_pos rfl,k3']; rfl
  ·rw [if_neg e];simp only [q6,bo];cases look s.rows i with
   | some R=>rfl
   | none =>
    simp only [look];cases f2:a1m s.nr i with
    | true=>rfl
    | false =>
     cases f1:a1m (s.nr+1) i with
     | true=>have:=(d6 _ _).1 f1; exact absurd this e
     | false=>rfl
theorem V.beginRound (i l:Nat) (q:Loop) {c:Cfg} {k:List Item} (ht:c.todo=.beginRound::k) (hr:C.round=some l) (hi:look c.st.rows i=some (Hp l q)) (hq:q.state=.ready)
  (h:V C ⟨k,c.st.setObj i l (.loop { q with state:=.busy })⟩):V C c:=by
 intro ρ a w hS;rw [ht];obtain ⟨_,x7,_⟩:=hS.rows i _ hi;have hw:w.heap[l]?=some (.loop q):=by
  obtain ⟨g,h1,h2⟩:=x7.obj _ rfl;cases h1;exact h2
 exact Ok.of_step (λb cs qu _=>stepR_beginRound (qu.trans hr) (run_beginRound hw hq))<|h ρ a _ (hS.setObj hi _)
def CS:List Item->Option (Option Code)
 | []=>some none
 | .code .ret::_=>some (some .ret)
 | .code (.exit id)::k=>match exitTo id k with
  | none=>some (some (.exit id))
  | some _=>none
 | _=>none
def iz (n:Nat):List (Nat×Row)->Bool
 | []=>true
 | (k,_)::l=>match a4t k n with
  | true=>iz n l
  | false=>false
theorem aJ {n:Nat}:∀ {l:List (Nat×Row)},iz n l=true->∀ i R,look l i=some R->i<n
 | (k,Q)::l,h,i,R,hl=>by
  simp only [iz] at h;simp only [look] at hl;split at h
  ·rename_i hk;split at hl
   ·rename_i e;have:=(d6 _ _).1 e;subst this;exact X1 hk
   ·exact aJ h i R hl
  ·cases h
def JM (ks:List Nat) (m:Nat) (pm:List Bool) (c:Cfg):Option St :=
 match lY c.st.heap (cA c.st.fx 0) (fh c.st.slots ks) with
 | (hs,rs)=>o8 ks hs (s7 rs [m,m+1]) pm c.st
theorem E3 {P:Program} {f:FuncId} {ι:Type} {sx:ι->St} {pre:Nat->ι->Prop} {prex:Code->ι->Prop} {l r i:Nat} {q:Loop} {s:St} {ρ0:Nat->Nat} {W:World}
  (ks:List Nat) (pm:List Bool) (jump:Option Code) (x:ι) {c:Cfg} (ht:CS c.todo=some jump)
  (hp:JM ks (sx x).nr pm c=some { q6 (sx x) l r { q with state:=.busy,pending:=none } with fx:=s.next })
  (hr:(bf (sx x).rows&&iz (sx x).nr (sx x).rows)=true) (hn:(sx x).next=s.next) (S0:(sx x).pers=s.pers)
  (Y4:zb pre prex i jump x) :
  V ⟨P,f,fj sx pre prex l r q i s ρ0 W,n6 ρ0 s,W,ρ0,some l⟩ c:=by
 intro ρ a w hS;rw [a0g] at hr;obtain ⟨R4,QW⟩:=hr;have e9:=aJ QW;unfold JM at hp;split at hp;have mB:=hS.pick hp;generalize (λi=>ρ (a0r _ i 0))=ρ' at mB;have KB:=mB.putL (q:={ q with state:=.busy,pending:=none }) e9 (t6 q jump);have hw:w.heap[l]?=some (.loop { q with state:=.busy,pending:=none }):=by
  obtain ⟨_,x7,_⟩:=mB.rows _ _ (X3 e9 l r _).2.2;obtain ⟨g,h1,h2⟩:=x7.obj _ rfl;cases h1;exact h2
 have aB:=run_endRound (P:=P) jump hw;have hR:fj sx pre prex l r q i s ρ0 W (.returned (.bool jump.isNone)) (w.putObj l (.loop (t6 q jump))):=by
  have hF:=KB.toF;refine ⟨jump,x,ρ',rfl,Y4,⟨hF.heap,hF.inj,hF.lt,hF.rows,hF.rowsD,hF.pers⟩,λb hb=>(KB.fix b hb).2,λj v hv=>(KB.slots j v hv).2,KB.chg,?_,?_⟩
  ·rintro k (⟨b,h1,h2⟩ | ⟨q',R,h1,h2⟩ | ⟨p,h1,h2⟩)
   ·have hb:b<s.next:=by rw [<- hn]; exact h1
    exact .inl (.inl (.inl ⟨b,hb,by rw [<- h2]; exact ((KB.fix b hb).2).symm⟩))
   ·have ho:R.own=true:=by
     simp only [q6,bo] at h1;cases e:look (sx x).rows q' with
     | some R'=>rw [e] at h1; cases h1; exact aH R4 e
     | none =>
      rw [e] at h1;simp only [look] at h1;split at h1
      ·cases h1; rfl
      ·split at h1
       ·cases h1; rfl
       ·cases h1
    rcases ((KB.rows q' R h1).2.2 k h2).2.2 ho with h | h
    ·exact .inr h
    ·exact .inl (.inr h)
   ·exact .inl (.inl (.inr (.inr ⟨p,by rw [<- S0]; exact h1,h2⟩)))
  ·rintro k (⟨b,blk,h1,h2,rfl⟩ | ⟨q',R,h1,h2,h3⟩)
   ·exact ((KB.heap b blk h1).2.2.2 h2).symm
   ·exact (((KB.rows q' R h1).2.2 k h3).2.2 h2).symm
 obtain ⟨todo,st⟩:=c;intro b hb hk qu cs gN;cases cs with
 | nil=>exact absurd rfl (gN rfl)
 | cons c0 cs =>
  refine ⟨_,_,hR,c0,cs,_,rfl,rfl,.one ?_⟩;simp only at ht ⊢;unfold CS at ht;split at ht
  ·cases ht; exact stepR_round_end qu hk aB
  ·cases ht; exact stepR_round_ret qu hk aB
  ·rename_i id k _;cases he:exitTo id k with
   | none=>rw [he] at ht; cases ht; exact stepR_round_exit qu hk he aB
   | some k'=>rw [he] at ht; cases ht
  ·cases ht
theorem Steps.tail {P:Program} {m m1 m':Machine} (h:Steps P m m') (h1:Go.step P m=.next m1) (E0:m≠m'):Steps P m1 m':=by
 obtain ⟨n,hn⟩:=h;cases n with
 | zero=>simp [runN] at hn; exact absurd hn E0
 | succ n=>simp [runN,h1] at hn; exact ⟨n,hn⟩
theorem iA (i r:Nat) {c:Cfg} (he:ew c.todo=true) (hr:C.round=none) (J8:∀ e w,C.R e w->∃ v,e=.returned v) (hd:c.st.defs=[⟨.collected r,#[]⟩]) (hi:look c.st.rows i=some (La r))
  (h:V C ⟨c.todo,{ c.st.setObj i r (.deferred none) with defs:=[] }⟩):V C c:=by
 intro ρ a w hS b hb hk qu cs gN;have hw:w.heap[r]?=some (.deferred (some [])):=by
  obtain ⟨_,x7,_⟩:=hS.rows i _ hi;obtain ⟨g,h1,h2⟩:=x7.obj _ rfl;cases h1;exact h2
 have mB:=(hS.setObj hi (.deferred none)).setDefs [];obtain ⟨e,w',h1,h2⟩:=h ρ _ _ mB b hb hk qu cs gN;obtain ⟨v,rfl⟩:=J8 _ _ h1;refine ⟨_,w',h1,?_⟩;unfold Fin at h2 ⊢;rw [hr] at h2 ⊢;obtain ⟨fr,k1,k2,k3⟩:=h2;refine ⟨fr,?_,k2,k3⟩;have GC:b.roundOf=none:=qu.trans hr;obtain ⟨todo,st⟩:=c;have F9:∀ a w,Go.step C.P (lone (b.atR a todo) cs w)=.next (lone { b.atR a todo with mode:=.returning } cs w):=by
  intro a w;simp only at he;unfold ew at he;split at he
  ·exact stepR_end GC
  ·exact stepR_ret GC
  ·cases he
 have k1':Steps C.P _ _:=Steps.tail k1 (F9 _ _) (λe=>by
  have h0:=k3.1;have h2:(b.atR { a with defers:=[] } todo)=fr:=by simp [lone] at e; exact e.2
  rw [<- h2] at h0;cases h0)
 have s2:=step_collected (P:=C.P) (fr:={ b.atR a todo with mode:=.returning }) (cs:=cs) (w:=w) (d:=⟨.collected r,#[]⟩) (ds:=[]) (by simp) (by show a.defers=_; rw [hS.defers]; exact hd) rfl (run_takeDeferred hw);exact Steps.trans (.one (F9 a w)) (Steps.trans (.one s2) k1')
end
end Go.SX
end
section
namespace Go.SX
open Go
structure zd {ι:Type} (sx:ι->St) (sl:List (Nat×RV)) (n nx fx:Nat) (ps:List m6):Prop where
 slots:∀ x,(sx x).slots=sl
 n:∀ x,(sx x).n=n
 next:∀ x,(sx x).next=nx
 fx:∀ x,(sx x).fx=fx
 pers:∀ x,(sx x).pers=ps
 gs:∀ x,(sx x).gs=[]
 defs:∀ x,(sx x).defs=[]
 keys:∀ x,iz (sx x).nr (sx x).rows=true
def xk (c:Cfg) (g:Operand):Option (FuncId×List CV×(List (Nat×Blk)×Nat×List (Nat×Row)×Nat)) :=
 match fU c.st none (.value g) with
 | some (f,caps)=>match lY c.st.heap [] (qI caps) with
  | (hs,rs)=>match wV hs rs caps,o8 [] hs rs [] c.st with
   | some ys,some s'=>some (f,ys,r8 s')
   | _,_=>none
 | none=>none
def qW (l:List Nat):List Nat->Bool
 | []=>false
 | b::m=>match p5 l b with
  | true=>true
  | false=>qW l m
theorem CT {l m:List Nat} (h:qW l m=false):∀ b∈m,b ∉ l:=by
 induction m with
 | nil=>intro b hb; simp at hb
 | cons c m ih =>
  intro b hb hl;simp only [qW] at h;split at h
  ·cases h
  ·rename_i hn;rcases a0k.1 hb with rfl | hb
   ·rw [(w9 l b).2 hl] at hn; cases hn
   ·exact ih h b hb hl
def apart (ks:List Nat) (c:Cfg) (g:Operand):Bool :=
 match fU c.st none (.value g) with
 | some (_,caps)=>match qW (lY c.st.heap [] (qI caps)).1 (lY c.st.heap (cA c.st.fx 0) (fh c.st.slots ks)).1 with
  | true=>false
  | false=>true
 | none=>false
def oz (s:St) (l r:Nat) (q:Loop):St:={ q6 s l r q with defs:=[⟨.collected r,#[]⟩] }
section
variable {C:Ctx}
theorem fj.out {ι:Type} {sx:ι->St} {sl:List (Nat×RV)} {n nx fx:Nat} {ps:List m6} (eF:zd sx sl n nx fx ps) {x x':ι} {l r:Nat} {q:Loop} {jump:Option Code} {ρ ρ':Nat->Nat} {a:Act} {W W':World}
  (hS:Sat C ρ (q6 (sx x) l r (t6 q none)) a (asW C.w0 W)) (hF:x6 ρ' (q6 (sx x') l r (t6 q jump)) W') (hρ:∀ b,b<(q6 (sx x) l r (t6 q none)).next->ρ' b=ρ b)
  (iQ:∀ j v,look (sx x').slots j=some v->v.wf (q6 (sx x') l r (t6 q jump)).W) (N5:Chg (n6 ρ (q6 (sx x) l r (t6 q none))) W W')
  (ht:∀ k,n6 ρ' (q6 (sx x') l r (t6 q jump)) k->n6 ρ (q6 (sx x) l r (t6 q none)) k∨W.heap.size<=k):Sat C ρ' (q6 (sx x') l r (t6 q jump)) a (asW C.w0 W'):=by
 have uf:∀ k,n6 ρ' (q6 (sx x') l r (t6 q jump)) k->C.w0.heap.size<=k∨C.S k:=by
  intro k hk;rcases ht k hk with h | h
  ·exact qT hS h
  ·have:C.w0.heap.size<=W.heap.size:=hS.chg.size;exact .inl (a0n this h)
 have Gs:∀ x,(q6 (sx x) l r (t6 q none)).next=nx:=λx=>eF.next x;have NW:∀ x,(q6 (sx x) l r (t6 q jump)).next=nx:=λx=>eF.next x;have KK:∀ i v,look (sx x').slots i=some v->look (q6 (sx x) l r (t6 q none)).slots i=some v:=λi v hv=>by
  show look (sx x).slots i=some v;rw [eF.slots] at hv ⊢; exact hv
 refine ⟨hS.n.trans ((eF.n x).trans (eF.n x').symm),?_,?_,?_,hF.inj,hF.lt,?_,⟨rfl,rfl,rfl,a0n hS.chg.size N5.size,?_⟩,?_,hF.rowsD,λp hp=>⟨(hF.pers p hp).2.1 _ (λ_ _=>rfl),(hF.pers p hp).2⟩,?_⟩
 ·intro i v hv;obtain ⟨k1,k2⟩:=hS.slots i v (KK i v hv);refine ⟨?_,iQ i v hv⟩;rw [RV.den_congr (W:=(q6 (sx x) l r (t6 q none)).W) (ρ:=ρ) (ρ':=ρ') hρ v k2];exact k1
 ·intro i g pol b y hv;have h1:=(hS.grds i g pol b y (KK i _ hv)).1;rw [show (q6 (sx x) l r (t6 q none)).gs=[] from eF.gs x] at h1;cases h1
 ·intro b blk hb;obtain ⟨k1,k2,k3⟩:=hF.heap b blk hb;exact ⟨k1,k2,k3,λA9=>uf _ (.inl ⟨b,blk,hb,A9,rfl⟩)⟩
 ·exact hS.defers.trans ((eF.defs x).trans (eF.defs x').symm)
 ·intro k hk Wh;have h1:W'.heap[k]?=W.heap[k]?:=N5.block k (a1b hk hS.chg.size) (λaC=>(qT hS aC).elim (λh=>by omega) Wh);show W'.heap[k]?=_;rw [h1];exact hS.chg.block k hk Wh
 ·intro r' R hR;obtain ⟨k1,k2,k3⟩:=hF.rows r' R hR;exact ⟨k1,k2.congr (λ_ _=>rfl),λk hk=>⟨(k3 k hk).1,(k3 k hk).2,λho=>uf _ (.inr ⟨r',R,hR,ho,hk⟩)⟩⟩
 ·intro b hb;have B8:b<(q6 (sx x) l r (t6 q none)).fx:=by
   show b<(sx x).fx;rw [eF.fx];have:b<(sx x').fx:=hb;rw [eF.fx] at this; exact this
  obtain ⟨h1,h2⟩:=hS.fix b B8;refine ⟨?_,(hρ b h1).trans h2⟩;rw [NW];rw [Gs] at h1;exact h1
theorem CU {s:St} (hk:iz s.nr s.rows=true) {l r:Nat} {q:Loop} {ρ:Nat->Nat} {a:Act} {W:World} (hS:Sat C ρ (q6 s l r q) a (asW C.w0 W)):W.heap[l]?=some (.loop q):=by
 obtain ⟨_,x7,_⟩:=hS.rows _ _ (X3 (aJ hk) l r q).2.2;obtain ⟨g,h1,h2⟩:=x7.obj _ rfl;cases h1;exact h2
theorem JN {s:St} (hk:iz s.nr s.rows=true) {l r:Nat} {q:Loop} {ρ:Nat->Nat} {a:Act} {W W':World} (hS:Sat C ρ (q6 s l r q) a (asW C.w0 W)) (hl:C.w0.heap.size<=l)
  (hO:∀ k,(ow ρ (q6 s l r q) k∨(k<C.w0.heap.size/\¬ C.S k))->W'.heap[k]?=W.heap[k]?):C.w0.heap.size<=W'.heap.size:=by
 have h1:=hO l (.inl (.inr (.inl ⟨_,_,(X3 (aJ hk) l r q).2.2,s9.2 rfl⟩)));have h2:=CU hk hS;rw [h2] at h1;have:=(Array.getElem?_eq_some_iff.1 h1).1;omega
def Rz {ι:Type} (C:Ctx) (sx:ι->St) (sl:List (Nat×RV)) (n nx fx:Nat) (ps:List m6) (eF:zd sx sl n nx fx ps) (pre:Nat->ι->Prop) (prex:Code->ι->Prop) (N:Nat) (enc:Nat->List CV) (encV:Nat->Array Value)
  (henc:∀ i ρ,((enc i).map (a2a ρ)).toArray=encV i) (psT:Array Tmp) (C8:∀ i,(enc i).length=psT.size) (M3:∀ i,uX n (psT.toList.zip (enc i))=true) (a:Act) (l r:Nat) (q:Loop) (hq:q.fn=C.f/\q.params=psT/\q.tmps=a.tmps) (hl:C.w0.heap.size<=l) (w1:World)
  (hround:∀ i x ρ W,i<N->pre i x->V ⟨C.P,C.f,fj sx pre prex l r q i (q6 (sx x) l r (t6 q none)) ρ W,n6 ρ (q6 (sx x) l r (t6 q none)),W,ρ,some l⟩
   ⟨[.code q.assign,.beginRound,.code q.body],mP (q6 (sx x) l r (t6 q none)) (psT.toList.zip (enc i))⟩):Yd C.P l N encV w1 where
 J:=λi O Ow W=>∃ x ρ,pre i x/\Sat C ρ (q6 (sx x) l r (t6 q none)) a (asW C.w0 W)/\(∀ k,O k↔(ow ρ (q6 (sx x) l r (t6 q none)) k∨(k<C.w0.heap.size/\¬ C.S k)))/\∀ k,Ow k↔n6 ρ (q6 (sx x) l r (t6 q none)) k
 Jx:=λO Ow W=>∃ cd x ρ,prex cd x/\Sat C ρ (q6 (sx x) l r (t6 q (some cd))) a (asW C.w0 W)/\(∀ k,O k↔(ow ρ (q6 (sx x) l r (t6 q (some cd))) k∨(k<C.w0.heap.size/\¬ C.S k)))/\∀ k,Ow k↔n6 ρ (q6 (sx x) l r (t6 q (some cd))) k
 st:=by
  rintro i O Ow W W' ⟨x,ρ,h1,h2,h3,h4⟩ hO;exact ⟨x,ρ,h1,h2.move (λk hk=>hO k ((h3 k).2 hk)) (JN (eF.keys x) h2 hl (λk hk=>hO k ((h3 k).2 hk))) rfl rfl rfl,h3,h4⟩
 stx:=by
  rintro O Ow W W' ⟨cd,x,ρ,h1,h2,h3,h4⟩ hO;exact ⟨cd,x,ρ,h1,h2.move (λk hk=>hO k ((h3 k).2 hk)) (JN (eF.keys x) h2 hl (λk hk=>hO k ((h3 k).2 hk))) rfl rfl rfl,h3,h4⟩
 lt:=by
  rintro i O Ow W ⟨x,ρ,h1,h2,h3,h4⟩ k hk;rcases (h3 k).1 hk with h | h
  ·exact CQ h2 h
  ·exact a1b h.1 h2.chg.size
 ltx:=by
  rintro O Ow W ⟨cd,x,ρ,h1,h2,h3,h4⟩ k hk;rcases (h3 k).1 hk with h | h
  ·exact CQ h2 h
  ·exact a1b h.1 h2.chg.size
 own:=by
  rintro i O Ow W ⟨x,ρ,h1,h2,h3,h4⟩ k hk;exact (h3 k).2 (.inl (qS h2 ((h4 k).1 hk)))
 y:=by
  rintro i O Ow W hi ⟨x,ρ,h1,h2,h3,h4⟩ _ _ _;obtain ⟨WO,GU,Xe⟩:=hq;have hw:W.heap[l]?=some (.loop (t6 q none)):=CU (eF.keys x) h2;have mu:(q6 (sx x) l r (t6 q none)).gs=[]:=eF.gs x;have Xa:(q6 (sx x) l r (t6 q none)).defs=[]:=eF.defs x;refine ⟨C.f,((psT.zip (encV i)).foldl (λtmps (t,a)=>tmps.setIfInBounds t a) a.tmps),q.assign,q.body,?_,λc cs=>?_⟩
  ·have:=run_yield (P:=C.P) (args:=encV i) hw (by show _=q.params.size; rw [<- henc i id,GU,<- C8 i]; simp);rw [this];show Result.ok (Next.round l q.fn ((q.params.zip (encV i)).foldl _ q.tmps) q.assign q.body) W=_;rw [WO,GU,Xe]
  ·have hS:=CR (W:=W) h2 rfl mu Xa (psT.toList.zip (enc i)) (by show uX (sx x).n _=true; rw [eF.n]; exact M3 i)
    (fj sx pre prex l r q i (q6 (sx x) l r (t6 q none)) ρ W) l (tmps:=(psT.zip (encV i)).foldl (λtmps (t,a)=>tmps.setIfInBounds t a) a.tmps) (by
     rw [<- henc i ρ,<- Array.foldl_toList,Array.toList_zip,List.zip_map_right,List.foldl_map]; rfl)
   obtain ⟨e,W',hR,c',cs',v,gN,he,F9⟩:=hround i x ρ W hi h1 ρ _ _ hS { (default:Frame) with fn:=C.f,kind:=.normal,roundOf:=some l } rfl rfl rfl (c::cs) (by simp);obtain ⟨jump,x',ρ',Gw,Y4,hF,hρ,iQ,N5,VK,VO⟩:=hR;cases gN;have hv:v=.bool jump.isNone:=by rw [he] at Gw; injection Gw
   have uh:=fj.out eF h2 hF hρ iQ N5 VO;refine ⟨v,W',⟨λk=>ow ρ' (q6 (sx x') l r (t6 q jump)) k∨(k<C.w0.heap.size/\¬ C.S k),n6 ρ' (q6 (sx x') l r (t6 q jump)),⟨N5.os,N5.tape,N5.output,N5.size,λk hk hn=>N5.block k hk (λh=>hn ((h4 k).2 h))⟩,?_,?_,?_⟩,?_⟩
   ·rintro k (h | h)
    ·rcases VK k h with (h | h) | h
     ·exact .inl ((h3 k).2 (.inl h))
     ·exact .inl ((h3 k).2 (.inl (qS h2 h)))
     ·exact .inr h
    ·exact .inl ((h3 k).2 (.inr h))
   ·intro k h;rcases VO k h with h | h
    ·exact .inl ((h4 k).2 h)
    ·exact .inr h
   ·cases jump with
    | none=>exact .inl ⟨hv,x',ρ',Y4,uh,λk=>Iff.rfl,λk=>Iff.rfl⟩
    | some cd=>exact .inr ⟨hv,cd,x',ρ',Y4,uh,λk=>Iff.rfl,λk=>Iff.rfl⟩
   ·have co:Frame.round l C.f ((psT.zip (encV i)).foldl (λtmps (t,a)=>tmps.setIfInBounds t a) a.tmps) q.assign q.body .normal =
      ({ (default:Frame) with fn:=C.f,kind:=.normal,roundOf:=some l }:Frame).atR ⟨(psT.zip (encV i)).foldl (λtmps (t,a)=>tmps.setIfInBounds t a) a.tmps,[]⟩ [.code q.assign,.beginRound,.code q.body]:=by
     simp [Frame.round,Frame.atR]
    rw [co];exact F9
theorem kO {s s':St} {ks hs rs:List Nat} {pm:List Bool} (G0:o8 ks hs rs pm s=some s') {b:Nat} (hb:b<s'.next):hs.getD b 0∈hs/\∃ blk,look s.heap (hs.getD b 0)=some blk:=by
 unfold o8 at G0;split at G0
 case h_2=>cases G0
 rename_i sl eR rows _ _ _ rW _;have N6:=a2h G0;have n8:b<hs.length:=by rw [<- N6] at hb; exact hb
 have gT:hs.getD b 0∈hs:=by simp [a0r,a0b n8]
 refine ⟨gT,?_⟩;have:∀ (l:List Nat) (i0:Nat) (r:List (Nat×Blk)),H2 hs rs s.heap l i0=some r->∀ b∈l,∃ blk,look s.heap b=some blk:=by
  intro l
  induction l with
  | nil=>intro i0 r _ b hb; simp at hb
  | cons d l ih =>
   intro i0 r hr b hb;simp only [H2] at hr;split at hr
   ·rename_i blk hc;split at hr
    ·split at hr
     ·rename_i r' eQ;rcases a0k.1 hb with rfl | hb
      ·exact ⟨blk,hc⟩
      ·exact ih _ _ eQ b hb
     ·cases hr
    ·cases hr
   ·cases hr
 exact this hs 0 eR rW _ gT
theorem dz {ρ:Nat->Nat} {s s':St} {a:Act} {w:World} (hS:Sat C ρ s a w) {ks hs rs:List Nat} {pm:List Bool} (G0:o8 ks hs rs pm s=some s') (b:Nat) (hb:b<s'.next):hs.getD b 0<s.next:=by
 obtain ⟨_,blk,pV⟩:=kO G0 hb;exact (hS.heap _ blk pV).1
theorem CW {s s':St} {ks hs rs:List Nat} {pm:List Bool} (G0:o8 ks hs rs pm s=some s') {r:Nat} {R:Row} (hR:look s'.rows r=some R):∃ r2,look s.rows r2=some R:=by
 unfold o8 at G0;split at G0
 case h_2=>cases G0
 rename_i sl eR rows _ _ _ _ r7;have N6:=a2h G0;rw [<- N6] at hR;obtain ⟨r2,_,_,h3⟩:=p7 r7 r R hR;exact ⟨r2,h3⟩
theorem CX {s s':St} {ks hs rs:List Nat} {pm:List Bool} (G0:o8 ks hs rs pm s=some s') {b:Nat} {blk:Blk} (hb:look s'.heap b=some blk):∃ blk0,look s.heap (hs.getD b 0)=some blk0/\blk.rw=blk0.rw:=by
 unfold o8 at G0;split at G0
 case h_2=>cases G0
 rename_i sl eR rows _ _ _ rW _;have N6:=a2h G0;rw [<- N6] at hb;obtain ⟨b0,blk0,_,h2,h3,_,_,h6⟩:=K9 rW b blk hb;simp only [a3e] at h2;exact ⟨blk0,by simp [a0r,h2,h3],h6⟩
theorem AP {s s':St} {ks hs rs:List Nat} {pm:List Bool} (G0:o8 ks hs rs pm s=some s') {p:m6} (hp:p∈s'.pers):p∈s.pers:=by
 unfold o8 at G0;split at G0
 case h_2=>cases G0
 have N6:=a2h G0;rw [<- N6] at hp;exact aE _ _ _ hp
theorem Sat.fragAt {ρ:Nat->Nat} {s s' F:St} {a:Act} {w:World} (hS:Sat C ρ s a w) {hs rs:List Nat} (G0:o8 [] hs rs [] s=some s') (co:r8 s'=r8 F) (pi:List (Nat×Bool))
  (kw:bi pi s.pers=some (bB C.w0.heap.size C.S pi F.pers)):x6 (λi=>ρ (hs.getD i 0)) F w:=by
 have JG:=(hS.pick G0).toF;have JF:s'.next=F.next:=by simp only [r8,a1f] at co; exact co.2.1
 refine JG.withPers co (λq hq=>?_);have fQ:∀ q'∈s.pers,q'.φ w/\(∀ w',(∀ k,q'.D k->w'.heap[k]?=w.heap[k]?)->q'.φ w') /\
   ∀ k,q'.D k->k<w.heap.size/\(∀ b,b<F.next->ρ (hs.getD b 0)≠k)/\∀ r R,look F.rows r=some R->R.own=true->¬ R.uses k:=by
  intro q' lM;obtain ⟨p1,p2,p3⟩:=hS.pers q' lM;refine ⟨p1,p2,λk hD=>⟨(p3 k hD).1,λb B8=>?_,λr R hR ho kz=>?_⟩⟩
  ·exact (p3 k hD).2.1 _ (dz hS G0 _ (by rw [JF]; exact B8))
  ·unfold o8 at G0;split at G0
   case h_2=>cases G0
   rename_i sl eR rows _ _ _ _ r7;have N6:=a2h G0;have G8:look s'.rows r=some R:=by
    simp only [r8,a1f] at co; rw [co.2.2.1]; exact hR
   rw [<- N6] at G8;obtain ⟨r2,_,_,h3⟩:=p7 r7 r R G8;exact (p3 k hD).2.2 r2 R h3 ho kz
 rcases cD (n0:=C.w0.heap.size) (S:=C.S) (l:=pi) q hq with h1 | h1
 ·exact fQ q (O0 kw q h1)
 ·obtain ⟨p1,p2,p3⟩:=fQ _ (O0 kw _ h1);exact ⟨p1.1,λw' pU=>(p2 w' pU).1,p3⟩
theorem uY:∀ {l:List (Nat×Blk)} {b:Nat} {blk:Blk},uN l=true->look l b=some blk->blk.rw=true
 | (k,q)::l,b,blk,h,hl=>by
  simp only [uN] at h;split at h
  ·rename_i hq;simp only [look] at hl;split at hl
   ·cases hl; exact hq
   ·exact uY h hl
  ·cases h
theorem CY {ι:Type} (sx:ι->St) {sl:List (Nat×RV)} {n nx fx:Nat} {ps:List m6} (eF:zd sx sl n nx fx ps) (pre:Nat->ι->Prop) (prex:Code->ι->Prop) {N:Nat} (enc:Nat->List CV) {encV:Nat->Array Value}
  (henc:∀ i ρ,((enc i).map (a2a ρ)).toArray=encV i) (x0:ι) (ks:List Nat) (pm:List Bool) (pi:List (Nat×Bool)) {g:Operand} {psT:Array Tmp} {asg body:Code} {k:List Item} {c:Cfg} {gf:FuncId} {ys:List CV} {F:St}
  (ht:c.todo=.code (.rangeFunc g psT asg body)::k) (hr:C.round=none) (hp:jm ks pm c=some (sx x0)) (Y4:pre 0 x0) (hit:AO C.P gf ys F N encV) (Jv:D6 C.P gf=true)
  (hF:xk c g=some (gf,ys,r8 F)) (JG:(apart ks c g&&(F.rows.isEmpty&&(uN F.heap&&nU F.next F.heap)))=true) (kw:bi pi c.st.pers=some (bB C.w0.heap.size C.S pi F.pers))
  (C8:∀ i,(enc i).length=psT.size) (M3:∀ i,uX n (psT.toList.zip (enc i))=true)
  (hround:∀ i x ρ W l r q,i<N->pre i x->V ⟨C.P,C.f,fj sx pre prex l r q i (q6 (sx x) l r (t6 q none)) ρ W,n6 ρ (q6 (sx x) l r (t6 q none)),W,ρ,some l⟩
   ⟨[.code asg,.beginRound,.code body],mP (q6 (sx x) l r (t6 q none)) (psT.toList.zip (enc i))⟩)
  (aB:∀ x l r q,pre N x->V C ⟨k,oz (sx x) l r q⟩) (hjump:∀ cd x l r q,prex cd x->V C ⟨.code cd::k,oz (sx x) l r q⟩):V C c:=by
 intro ρ a w hS b hb hk qu cs gN;obtain ⟨todo,st⟩:=c;simp only at ht hS;subst ht;simp only [a0g] at JG;obtain ⟨GX,UG,UJ,QI⟩:=JG
 -- the function
 unfold xk at hF;unfold apart at GX;split at hF
 case h_2=>cases hF
 rename_i f caps Gv;rw [Gv] at GX;simp only at GX;split at hF;rename_i hs rs wC;split at hF
 case h_2=>cases hF
 rename_i ys1 s' yz G0;simp only [a0l,a1f] at hF;obtain ⟨rfl,rfl,co⟩:=hF
 -- the loop's own side
 unfold jm at hp;rw [wC] at GX;split at hp;rename_i KE rsO QD;rw [QD] at GX;simp only at GX;have QK:qW hs KE=false:=by
  cases e:qW hs KE with
  | true=>rw [e] at GX; cases GX
  | false=>rfl
 have hO:=hS.pick hp;have ha:a.defers=[]:=hO.defers.trans (eF.defs x0)
 -- the two objects
 let q0:Loop:={ state:=.ready,pending:=none,fn:=C.f,tmps:=a.tmps,params:=psT,assign:=asg,body:=body,defers:=w.heap.size }
 have Vp:(w.alloc (.deferred (some []))).heap.size=w.heap.size+1:=World.size_alloc _ _;have UM:=(hO.newObj (.deferred (some []))).newObj (.loop q0);rw [Vp] at UM;have wA:=aJ (eF.keys x0);have UU:Sat C (λi=>ρ (KE.getD i 0)) (q6 (sx x0) (w.heap.size+1) w.heap.size (t6 q0 none)) a ((w.alloc (.deferred (some []))).alloc (.loop q0)):=UM.rowsEq _ (X3 wA (w.heap.size+1) w.heap.size q0).1;have mB:=(hS.below (Chg.alloc _ w (.deferred (some [])))).below (Chg.alloc _ (w.alloc (.deferred (some []))) (.loop q0));generalize Jl:(w.alloc (.deferred (some []))).alloc (.loop q0)=w1 at UU mB UM;have hl:C.w0.heap.size<=w.heap.size+1:=a0n hS.chg.size (a4l _)
 let Y:=Rz C sx sl n nx fx ps eF pre prex N enc encV henc psT C8 M3 a (w.heap.size+1) w.heap.size q0 ⟨rfl,rfl,rfl⟩ hl w1 (λi x ρ W=>hround i x ρ W _ _ q0)
 have Qw:=mB.fragAt G0 co pi kw;have JF:s'.next=F.next:=by simp only [r8,a1f] at co; exact co.2.1
 have Xc:s'.heap=F.heap:=by simp only [r8,a1f] at co; exact co.1
 have hρlt:∀ b,b<F.next->ρ (hs.getD b 0)<w.heap.size:=λb hb=>hS.lt _ (dz hS G0 b (by rw [JF]; exact hb));have E0:∀ b',b'<(sx x0).next->∀ b,b<F.next->ρ (hs.getD b 0)≠ρ (KE.getD b' 0):=by
  intro b' B8 b hb e;have h1:=kO hp B8;have h2:=kO G0 (b:=b) (by rw [JF]; exact hb);have:=hS.inj _ _ (dz hS G0 b (by rw [JF]; exact hb)) (dz hS hp b' B8) e;exact CT QK _ h1.1 (this▸h2.1)
 have KC:∀ q' R,look (q6 (sx x0) (w.heap.size+1) w.heap.size (t6 q0 none)).rows q'=some R->(∃ r2,look st.rows r2=some R)∨∀ k,R.uses k->w.heap.size<=k:=by
  intro q' R h1;simp only [q6,bo] at h1;cases e:look (sx x0).rows q' with
  | some R'=>rw [e] at h1; cases h1; exact .inl (CW hp e)
  | none =>
   rw [e] at h1;simp only [look] at h1;split at h1
   ·cases h1; exact .inr (λk hk=>Nat.le_of_eq (s9.1 hk))
   ·split at h1
    ·cases h1; exact .inr (λk hk=>by have:=s9.1 hk; omega)
    ·cases h1
 have NP:∀ k,(ow (λi=>ρ (KE.getD i 0)) (q6 (sx x0) (w.heap.size+1) w.heap.size (t6 q0 none)) k∨(k<C.w0.heap.size/\¬ C.S k))->∀ b,b<F.next->ρ (hs.getD b 0)≠k:=by
  rintro k ((⟨b',h1,rfl⟩ | ⟨q',R,h1,h2⟩ | ⟨p,h1,h2⟩) | ⟨h1,h2⟩) b hb
  ·exact E0 b' h1 b hb
  ·rcases KC q' R h1 with ⟨r2,hR⟩ | h
   ·exact ((hS.rows r2 R hR).2.2 k h2).2.1 _ (dz hS G0 b (by rw [JF]; exact hb))
   ·have:=h k h2; have:=hρlt b hb; omega
  ·exact ((hS.pers p (AP hp h1)).2.2 k h2).2.1 _ (dz hS G0 b (by rw [JF]; exact hb))
  ·intro e;obtain ⟨blk,ug⟩:=dt QI hb;have A9:=uY UJ ug;rw [<- Xc] at ug;obtain ⟨blk0,ie,Q5⟩:=CX G0 ug;rcases (hS.heap _ blk0 ie).2.2.2 (by rw [<- Q5]; exact A9) with h | h
   ·omega
   ·rw [e] at h; exact h2 h
 have WC:∀ p∈F.pers,∀ k,p.D k->¬ n6 (λi=>ρ (KE.getD i 0)) (q6 (sx x0) (w.heap.size+1) w.heap.size (t6 q0 none)) k:=by
  intro p WL k hD aC;have Rl:k<w.heap.size/\(∀ b,b<st.next->ρ b≠k)/\∀ r R,look st.rows r=some R->R.own=true->¬ R.uses k:=by
   rcases cD (n0:=C.w0.heap.size) (S:=C.S) (l:=pi) p WL with h1 | h1
   ·exact (hS.pers p (O0 kw p h1)).2.2 k hD
   ·exact (hS.pers _ (O0 kw _ h1)).2.2 k hD
  rcases aC with ⟨b,blk,h1,_,h3⟩ | ⟨q',R,h1,h2,h3⟩
  ·exact Rl.2.1 _ (dz hS hp b (UU.heap b blk h1).1) h3
  ·rcases KC q' R h1 with ⟨r2,hR⟩ | h
   ·exact Rl.2.2 r2 R hR h2 h3
   ·have:=h k h3; omega
 have yG:=hit (λi=>ρ (hs.getD i 0)) w1 (w.heap.size+1) Y
  (λk=>ow (λi=>ρ (KE.getD i 0)) (q6 (sx x0) (w.heap.size+1) w.heap.size (t6 q0 none)) k∨(k<C.w0.heap.size/\¬ C.S k)) (n6 (λi=>ρ (KE.getD i 0)) (q6 (sx x0) (w.heap.size+1) w.heap.size (t6 q0 none)))
  Qw ⟨x0,_,Y4,UU.toAs,λk=>Iff.rfl,λk=>Iff.rfl⟩ (λk hk=>⟨NP k hk,λr R hR=>by
   have:F.rows=[]:=List.isEmpty_iff.1 UG;rw [this] at hR; cases hR⟩) WC
 -- the call
 have Cq:evs st none (rangeCall g (w.heap.size+1)).args.toList=some [.one (.val (.func (.yield (w.heap.size+1)) #[] #[]))]:=rfl;have cY:=G5 (cl:=rangeCall g (w.heap.size+1)) (t:=0) (P:=C.P) mB.toP (j9 st) Gv Cq (S3 Jv);have Qv:ys1.map (a2a (λi=>ρ (hs.getD i 0)))=caps.map (a2a ρ):=by
  unfold o8 at G0;split at G0
  case h_2=>cases G0
  rename_i sl eR rows _ _ _ _ r7;have yL:bL rs st.W ⟨hs.length,rs.length,rows⟩:=by
   intro r' r R hr hl;obtain ⟨r2,_,h2,h3⟩:=p7 r7 r' R hl;simp only [a3e] at h2;rw [hr] at h2;cases h2;exact h3
  exact (fV (ρ:=ρ) (W:=st.W) (W':=⟨hs.length,rs.length,rows⟩) rfl rfl yL yz).1
 have Z9:(([.one (.val (.func (.yield (w.heap.size+1)) #[] #[]))]++caps:List CV).map (a2a ρ)).toArray=#[Value.func (.yield (w.heap.size+1)) #[] #[]]++(ys1.map (a2a (λi=>ρ (hs.getD i 0)))).toArray:=by
  rw [Qv];apply a3u;simp [a2a,a4m]
 rw [Z9,a1n] at cY;cases iT:(resolve a.eval (rangeCall g (w.heap.size+1)) 0).run C.P w1 with
 | halt x w2=>rw [iT] at cY; cases cY
 | ok d w2 =>
  rw [iT] at cY;simp only [Result.andThen_ok] at cY;have he:(Instr.enterLoop b.fn a.tmps psT asg body b.roundOf).run C.P w=.ok (w.heap.size+1,[{ target:=.collected w.heap.size,args:=#[] }]) w1:=by
   rw [qu,hr,hb,<- Jl];exact run_enterLoop_outer C.f a.tmps psT asg body
  have cr:=stepR_rangeFunc (P:=C.P) (b:=b) (a:=a) (k:=k) (cs:=cs) (w:=w) he iT cY;obtain ⟨e,w3,fr,hR,iR,qe,yH⟩:=yG (b.atR { a with defers:=[{ target:=.collected w.heap.size,args:=#[] }]++a.defers } (.inRangeFunc (w.heap.size+1)::k)::cs);obtain ⟨⟨v,rfl⟩,hos,htp,hout,O',Ow',hJ⟩:=hR;rw [ha] at iR cr;have sback:Steps C.P (lone (b.atR a (.code (.rangeFunc g psT asg body)::k)) cs w) (lone (b.atR { a with defers:=[{ target:=.collected w.heap.size,args:=#[] }] } (.endRangeFunc (w.heap.size+1)::k)) cs w3):=by
   refine .head cr (Steps.trans iR (.one ?_));rw [<- finish_atR_inRangeFunc (w.heap.size+1) v]; exact step_leave_returned yH
  have Gt:w1.os=C.w0.os/\w1.tape=C.w0.tape/\w1.output=C.w0.output:=⟨mB.chg.os,mB.chg.tape,mB.chg.output⟩;have wB:∀ (x:ι) (ρ3:Nat->Nat) (jump:Option Code) ,Sat C ρ3 (q6 (sx x) (w.heap.size+1) w.heap.size (t6 q0 jump)) a (asW C.w0 w3) ->
    (∀ q,V C ⟨(jump.map Item.code).toList++k,oz (sx x) (w.heap.size+1) w.heap.size q⟩)->∃ e w',C.R e w'/\Fin C (lone (b.atR a (.code (.rangeFunc g psT asg body)::k)) cs w) cs e w':=by
   intro x ρ3 jump Vq hV;have WA:=CU (eF.keys x) Vq;have QR:(t6 q0 jump).state≠.busy:=by
    cases jump with
    | none=>intro h; cases h
    | some _=>intro h; cases h
   have Qu:=run_endLoop (P:=C.P) WA QR;have Wl:Sat C ρ3 (q6 (sx x) (w.heap.size+1) w.heap.size (t6 q0 jump)) a w3:=Vq.move (λ_ _=>rfl) Vq.chg.size (hos.trans Gt.1) (htp.trans Gt.2.1) (hout.trans Gt.2.2);have WK:=Sat.putL (fx:=(sx x).fx) (aJ (eF.keys x)) Wl { t6 q0 jump with state:=.exhausted };have WU:=WK.setDefs [{ target:=.collected w.heap.size,args:=#[] }];obtain ⟨e,w',h1,h2⟩:=hV _ ρ3 _ _ WU b hb hk qu cs gN;exact ⟨e,w',h1,h2.of_steps (Steps.trans sback (.one (stepR_endRangeFunc Qu)))⟩
  rcases hJ with ⟨x,ρ3,h1,h2,_⟩ | ⟨cd,x,ρ3,h1,h2,_⟩
  ·exact wB x ρ3 none h2 (λq=>aB x _ _ q h1)
  ·exact wB x ρ3 (some cd) h2 (λq=>hjump cd x _ _ q h1)
end
end Go.SX
end
section
namespace Go.SX
open Go
section
variable {C:Ctx}
theorem H6 {α:Type} (f:α->List SV) (d:α) (b j:Nat) (blk:Blk) (e:TypeId) (sz:Nat) {c:Cfg} (hb:look c.st.heap b=some blk) (hj:blk.cells[j]?=some (.val (.slice none 0 0)))
  (h:V C ⟨c.todo,{ c.st with heap:=upd c.st.heap b { blk with cells:=blk.cells.set j (.row c.st.nr none 0 0) },rows:=(c.st.nr,d5 f d [] none 0 e sz true)::c.st.rows,nr:=c.st.nr+1 }⟩):V C c:=by
 intro ρ a w hS;have h1:=hS.nilRow e sz (λi=>f (([]:List α).getD i d));refine h ρ a w ⟨h1.n,h1.slots,h1.grds,?_,h1.inj,h1.lt,h1.defers,h1.chg,h1.rows,h1.rowsD,h1.pers,h1.fix⟩;intro b' blk' B8;simp only [s8] at B8;by_cases e':b=b'
 ·subst e';rw [if_pos rfl] at B8;cases B8;obtain ⟨k1,k2,k3,k4⟩:=h1.heap b blk hb;refine ⟨k1,?_,?_,k4⟩
  ·rw [k2];have:(blk.cells.set j (.row c.st.nr none 0 0)).map (a4m ρ)=blk.cells.map (a4m ρ):=by
    rw [List.map_set];apply List.ext_getElem?;intro i;rw [List.getElem?_set];split
    ·rename_i e1;subst e1;split
     ·rw [a2t,hj]; rfl
     ·rename_i e9;rw [a6e (by omega)]
    ·rfl
   rw [this]
  ·intro x hx;rcases List.mem_or_eq_of_mem_set hx with hx|rfl
   ·exact k3 x hx
   ·refine ⟨a3p _,λR hR=>?_⟩;simp only [St.W,look,a4h] at hR;cases hR;exact ⟨rfl,rfl,rfl⟩
 ·rw [if_neg e'] at B8;exact h1.heap b' blk' B8
end
def Oc (c:Cfg):Bool:=match c.todo with
 | .code (.rangeFunc _ _ _ _)::_=>true
 | _=>false
def rfG (c:Cfg):Operand:=match c.todo with
 | .code (.rangeFunc g _ _ _)::_=>g
 | _=>.tmp 0
def Lb (c:Cfg):Array Tmp:=match c.todo with
 | .code (.rangeFunc _ ps _ _)::_=>ps
 | _=>#[]
def Od (c:Cfg):Code:=match c.todo with
 | .code (.rangeFunc _ _ asg _)::_=>asg
 | _=>.ret
def Lc (c:Cfg):Code:=match c.todo with
 | .code (.rangeFunc _ _ _ body)::_=>body
 | _=>.ret
def rfK (c:Cfg):List Item:=match c.todo with
 | .code (.rangeFunc _ _ _ _)::k=>k
 | _=>[]
section
variable {C:Ctx}
theorem gh {ι:Type} (sx:ι->St) {sl:List (Nat×RV)} {n nx fx:Nat} {ps:List m6} (eF:zd sx sl n nx fx ps) (pre:Nat->ι->Prop) (prex:Code->ι->Prop) {N:Nat} (enc:Nat->List CV) {encV:Nat->Array Value}
  (henc:∀ i ρ,((enc i).map (a2a ρ)).toArray=encV i) (x0:ι) (ks:List Nat) (pm:List Bool) (pi:List (Nat×Bool)) {c:Cfg} {gf:FuncId} {ys:List CV} {F:St} (hit:AO C.P gf ys F N encV)
  (ht:(Oc c&&(C.round.isNone&&D6 C.P gf))=true) (hp:jm ks pm c=some (sx x0)) (Y4:pre 0 x0)
  (hF:xk c (rfG c)=some (gf,ys,r8 F)) (JG:(apart ks c (rfG c)&&(F.rows.isEmpty&&(uN F.heap&&nU F.next F.heap)))=true) (kw:bi pi c.st.pers=some (bB C.w0.heap.size C.S pi F.pers))
  (C8:∀ i,a1m (enc i).length (Lb c).size=true) (M3:∀ i,uX n ((Lb c).toList.zip (enc i))=true)
  (hround:∀ i x ρ W l r q,i<N->pre i x->V ⟨C.P,C.f,fj sx pre prex l r q i (q6 (sx x) l r (t6 q none)) ρ W,n6 ρ (q6 (sx x) l r (t6 q none)),W,ρ,some l⟩
   ⟨[.code (Od c),.beginRound,.code (Lc c)],mP (q6 (sx x) l r (t6 q none)) ((Lb c).toList.zip (enc i))⟩)
  (aB:∀ x l r q,pre N x->V C ⟨rfK c,oz (sx x) l r q⟩) (hjump:∀ cd x l r q,prex cd x->V C ⟨.code cd::rfK c,oz (sx x) l r q⟩):V C c:=by
 obtain ⟨NR,Jo,WB⟩:=sw ht;have hr:C.round=none:=by simpa using Jo
 obtain ⟨todo,st⟩:=c;unfold Oc at NR;split at NR
 ·rename_i g ps asg body k he;simp only at he;subst he;exact CY sx eF pre prex enc henc x0 ks pm pi rfl hr hp Y4 hit WB hF JG kw (λi=>(d6 _ _).1 (C8 i)) M3 hround aB hjump
 ·cases NR
end
def Oe (c:Cfg):Bool:=match c.todo with
 | .beginRound::_=>true
 | _=>false
def Of (c:Cfg):List Item:=match c.todo with
 | _::k=>k
 | []=>[]
theorem mQ {C:Ctx} (i l:Nat) (q:Loop) {c:Cfg} (ht:Oe c=true) (hr:C.round=some l) (hi:look c.st.rows i=some (Hp l q)) (hq:q.state=.ready)
  (h:V C ⟨Of c,c.st.setObj i l (.loop { q with state:=.busy })⟩):V C c:=by
 obtain ⟨todo,st⟩:=c;unfold Oe at ht;split at ht
 ·rename_i k he;simp only at he;subst he;exact V.beginRound i l q rfl hr hi hq h
 ·cases ht
theorem jp {C:Ctx} (t:Nat) (u u':CV) {c:Cfg} (hl:look c.st.slots t=some (.v u)) (hg:(!p5 c.st.gs t&&Q8 u')=true) (hd:∀ ρ,u'.den ρ=u.den ρ) (h:V C ⟨c.todo,{ c.st with slots:=upd c.st.slots t (.v u') }⟩):V C c:=by
 intro ρ a w hS;rw [a0g] at hg;have Xk:p5 c.st.gs t=false:=by simpa using hg.1
 refine h ρ a w ⟨hS.n,?_,?_,hS.heap,hS.inj,hS.lt,hS.defers,hS.chg,hS.rows,hS.rowsD,hS.pers,hS.fix⟩
 ·intro j v hv;simp only [s8] at hv;by_cases e:t=j
  ·rw [if_pos e] at hv;cases hv;subst e;refine ⟨?_,cB hg.2 _⟩;rw [(hS.slots t _ hl).1];show some (u.den ρ)=some (u'.den ρ);rw [hd]
  ·rw [if_neg e] at hv;exact hS.slots j v hv
 ·intro j g pol b x hv;simp only [s8] at hv ⊢;by_cases e:t=j
  ·rw [if_pos e] at hv; cases hv
  ·rw [if_neg e] at hv;obtain ⟨k1,k2⟩:=hS.grds j g pol b x hv;refine ⟨k1,?_⟩;rw [if_neg (λe2=>by rw [<- e2,Xk] at k1; cases k1)];exact k2
def z7 (l:List UInt8):List SV:=[.str l]
theorem V.s {C:Ctx} (t:Nat) (u u':CV) {c:Cfg} (hd:∀ ρ,u'.den ρ=u.den ρ) (h:V C ⟨c.todo,{ c.st with slots:=upd c.st.slots t (.v u') }⟩) (hl:look c.st.slots t=some (.v u):=by kernel_rfl) (hg:(!p5 c.st.gs t&&Q8 u')=true:=by kernel_rfl):V C c:=jp t u u' hl hg hd h
theorem V.sb {C:Ctx} (t:Nat) (b:Bool) {c:Cfg} (h:V C ⟨c.todo,{ c.st with slots:=upd c.st.slots t (.v (.one (.sb b))) }⟩) (hl:look c.st.slots t=some (.v (.one (.bool b))):=by kernel_rfl) (hg:(!p5 c.st.gs t&&Q8 (.one (.sb b)))=true:=by kernel_rfl):V C c:=jp t (.one (.bool b)) (.one (.sb b)) hl hg (λ_=>rfl) h
theorem V.up {C:Ctx} (t i:Nat) {c:Cfg} (hi:i<4000000000000000000) (h:V C ⟨c.todo,{ c.st with slots:=upd c.st.slots t (.v (.one (.int .i64 ((i+1:Nat):Int)))) }⟩) (hl:look c.st.slots t=some (.v (.one (.int .i64 (a0h.wrap ((i:Int)+1))))):=by kernel_rfl) (hg:(!p5 c.st.gs t&&Q8 (.one (.int .i64 ((i+1:Nat):Int))))=true:=by kernel_rfl):V C c :=
  jp t (.one (.int .i64 (a0h.wrap ((i:Int)+1)))) (.one (.int .i64 ((i+1:Nat):Int))) hl hg (λ_=>by
    rw [show a0h.wrap ((i:Int)+1)=((i+1:Nat):Int) by
      simp [IntKind.wrap,IntKind.bits,IntKind.signed];omega]) h
end Go.SX
end
section
namespace Go.SX
open Go
def CZ (c:Cfg):Option (Nat×Bool) :=
 match kH c with
 | some x=>some x
 | none=>match c.todo with
  | .inRegion ops (i::_)::_=>match ops[i]? with
   | some o=>match o.guard with
    | some (j,_)=>match (ops[j]?).bind (·.dst) with
     | some t=>match look c.st.slots t with
      | some (.grd g _ _ _)=>match look c.st.slots g with
       | some (.v (.one (.sb b)))=>some (g,b)
       | _=>none
      | _=>none
     | none=>none
    | none=>none
   | none=>none
  | _=>none
theorem oA {c:Cfg} {g:Nat} {b:Bool} (h:CZ c=some (g,b)):look c.st.slots g=some (.v (.one (.sb b))):=by
 unfold CZ at h;split at h
 ·rename_i x hx;cases h;exact lT hx
 ·split at h
  ·split at h
   ·split at h
    ·split at h
     ·split at h
      ·split at h
       ·rename_i hl;cases h;exact hl
       ·cases h
      ·cases h
     ·cases h
    ·cases h
   ·cases h
  ·cases h
def runC (P:Program) (T:List (Ent P)):Nat->Cfg->Cfg×List Prop
 | 0,c=>(c,[])
 | n+1,c=>match runT P T 1000 c with
  | (c1,ob)=>match CZ c1 with
   | some (g,b)=>match b with
    | true=>match runC P T n (c1.know g true) with
     | (c2,ob2)=>(c2,ob++ob2)
    | false=>match runC P T n (c1.know g false) with
     | (c2,ob2)=>(c2,ob++ob2)
   | none=>match CP c1 with
    | true=>match runC P T n (iter c1) with
     | (c2,ob2)=>(c2,ob++ob2)
    | false=>(c1,ob)
section
variable {C:Ctx}
theorem dB {T:List (Ent C.P)}:∀ (n:Nat) (c:Cfg),(∀ p∈(runC C.P T n c).2,p)->(∀ e∈T,∀ q∈e.sp.need,q∈c.st.pers)->V C (runC C.P T n c).1->V C c
 | 0,c,_,_,h=>h
 | n+1,c,q8,hn,h=>by
  unfold runC at q8 h;have eR:=cF (P:=C.P) (T:=T) 1000 c;have Cd:=X2 (C:=C) (T:=T) 1000 c;generalize SX.runT C.P T 1000 c=r at q8 h eR Cd;obtain ⟨c1,ob⟩:=r;simp only at q8 h eR Cd;have dc:∀ e∈T,∀ q∈e.sp.need,q∈c1.st.pers:=λe he q hq=>by rw [eR]; exact hn e he q hq
  split at q8
  ·rename_i g b hc;rw [hc] at h;cases b with
   | true =>
    simp only at q8 h;exact Cd (λp hp=>q8 p (a1w _ hp)) hn (jc g true true (oA hc) rfl (dB n _ (λp hp=>q8 p (a1v _ hp)) dc h))
   | false =>
    simp only at q8 h;exact Cd (λp hp=>q8 p (a1w _ hp)) hn (jc g false false (oA hc) rfl (dB n _ (λp hp=>q8 p (a1v _ hp)) dc h))
  ·rename_i hc;rw [hc] at h;simp only at h;split at q8
   ·rename_i hl;rw [hl] at h;simp only at q8 h;exact Cd (λp hp=>q8 p (a1w _ hp)) hn (V.iter (dB n _ (λp hp=>q8 p (a1v _ hp)) (λe he q hq=>by rw [mH]; exact dc e he q hq) h))
   ·rename_i hl;rw [hl] at h;simp only at q8 h;exact Cd q8 hn h
theorem V.runC (T:List (Ent C.P)) (n:Nat) (ob:List Prop) {c:Cfg} (hr:(SX.runC C.P T n c).2=ob) (hn:ex T c.st.pers=ez T) (ho:B9 ob) (h:V C (SX.runC C.P T n c).1):V C c :=
 dB n c (hr▸U7 ho) (bj hn) h
end
theorem d8 {α:Type} {P:Program} {f:FuncId} {ys:List CV} {F:St} {p:α->Prop} {v:α->RV} {F':α->St} (S0:∀ x,(F' x).pers=[])
  (h:∀ ρ w,x6 ρ F w->Calls P f (ys.map (a2a ρ)).toArray w (V0 ρ F p v F' w)):CallsK P f ys F p v F':=by
 intro ρ w hF;refine (h ρ w hF).mono ?_;rintro e w' ⟨x,hp,he,k1,k2,k3,k4,k5,k6,k7⟩;exact ⟨x,ρ,hp,he,λ_ _=>rfl,Nat.le_of_eq k2.symm,λb h1 h2=>absurd (Nat.lt_of_le_of_lt h1 (k2▸h2)) (Nat.lt_irrefl _),k1,k3,k4,k5,λb blk _ hb A9=>k6 b blk hb A9,k7,λq hq=>by rw [S0 x] at hq; cases hq⟩
theorem l6 {C:Ctx} (T:List (Ent C.P)) (n:Nat) (ob:List Prop) {c:Cfg} (ho:B9 ob) (h:V C (SX.runC C.P T n c).1) (hr:(SX.runC C.P T n c).2=ob:=by kernel_rfl) (hn:ex T c.st.pers=ez T:=by kernel_rfl):V C c:=V.runC T n ob hr hn ho h
end Go.SX
end
section
namespace Go.SX
open Go
def G1 (c:Cfg):Array Oper:=match ce c with
 | some (ops,_)=>ops
 | none=>#[]
def dK (c:Cfg):List Item:=match ce c with
 | some (_,k)=>k
 | none=>[]
def VX (C:Ctx) (T TR:List Nat) (L:Nat) (c0:Cfg) (d:u7):Prop :=
 ∀ D:gP,D.ok->D.h0=I6 T c0.st.heap->D.n0=c0.st.next->D.r0=I6 TR c0.st.rows->D.L=L->D.nr0=c0.st.nr->D.w0=c0.st.rows->(W9 (G1 c0) L∨(G1 c0).size<=L)->Region.noSelect (G1 c0)=true ->
  (∀ b∈T,b<c0.st.next->D.TS (D.ρ0 b))->(∀ r∈TR,∀ R,look c0.st.rows r=some R->∀ k,R.uses k->D.TS k)->(∀ q Q,look c0.st.rows q=some Q->q<c0.st.nr)->D.rows d.st->VD C D (G1 c0) (dK c0) d
def JO (c:Cfg):u7:=⟨(G1 c).size,a4a (G1 c).size false,c.st⟩
def uZ (rows:List (Nat×Row)):List Nat->Bool
 | []=>true
 | r::l=>match look rows r with
  | some R=>match R.own with
   | true=>uZ rows l
   | false=>false
  | none=>uZ rows l
theorem oB {rows:List (Nat×Row)}:∀ {l:List Nat},uZ rows l=true->∀ r∈l,∀ R,look rows r=some R->R.own=true
 | [],_,r,hr,_,_=>by simp at hr
 | q::l,h,r,hr,R,hR=>by
  simp only [uZ] at h;split at h
  ·rename_i Q hQ;split at h
   ·rename_i ho;rcases a0k.1 hr with rfl | hr
    ·rw [hQ] at hR; cases hR; exact ho
    ·exact oB h r hr R hR
   ·cases h
  ·rename_i hQ;rcases a0k.1 hr with rfl | hr
   ·rw [hQ] at hR; cases hR
   ·exact oB h r hr R hR
def Da (P:Program) (L:Nat) (c:Cfg):Bool :=
 match ce c with
 | some (ops,_)=>P.follows .mixedOrders&&(Region.noSelect ops&&(jf ops L||a5r ops.size L))
 | none=>false
def qX (P:Program) (T:List (Ent P)) (ops:Array Oper) (h0:List (Nat×Blk)) (r0:List (Nat×Row)):Nat->u7->u7×List Prop
 | 0,d=>(d,[])
 | m+1,d=>match Region.ready .any ops d.listed,d.fuel with
  | [i],n+1=>match callD ops i d.st,ops[i]? with
   | some (none,f,xs),some o=>match ff T d.st.next f xs with
    | some (v,ob)=>match d.st.put o.dst v with
     | some s'=>match V2 P ops h0 r0 ops.size ⟨n,d.listed.setIfInBounds i true,s'⟩ with
      | (d',ob')=>match qX P T ops h0 r0 m d' with
       | (d2,ob2)=>(d2,ob++(ob'++ob2))
     | none=>(d,[])
    | none=>(d,[])
   | _,_=>(d,[])
  | _,_=>(d,[])
def runX (P:Program) (E:List (Ent P)) (T TR:List Nat) (c0:Cfg) (d:u7):u7×List Prop :=
 match V2 P (G1 c0) (I6 T c0.st.heap) (I6 TR c0.st.rows) (G1 c0).size d with
 | (d1,ob1)=>match qX P E (G1 c0) (I6 T c0.st.heap) (I6 TR c0.st.rows) 50 d1 with
  | (d2,ob2)=>(d2,ob1++ob2)
def iB (c0:Cfg) (d:u7):Option (Nat×Oper) :=
 match Region.ready .any (G1 c0) d.listed,d.fuel with
 | [i],_+1=>match (G1 c0)[i]? with
  | some o=>some (i,o)
  | none=>none
 | _,_=>none
theorem dC {c0:Cfg} {d:u7} {i:Nat} {o:Oper} (h:iB c0 d=some (i,o)):Region.ready .any (G1 c0) d.listed=[i]/\(∃ n,d.fuel=n+1)/\(G1 c0)[i]?=some o:=by
 unfold iB at h;split at h
 ·rename_i hr hf;split at h
  ·rename_i ho;simp only [a0l,a1f] at h;obtain ⟨rfl,rfl⟩:=h;exact ⟨hr,⟨_,hf⟩,ho⟩
  ·cases h
 ·cases h
def AQ (P:Program) (c0:Cfg) (d:u7):Option App :=
 match iB c0 d with
 | some (_,o)=>match L7 d.st (G1 c0) o.guard,fa o with
  | .yes,some cl=>AH P d.st cl
  | _,_=>none
 | none=>none
def va (c0:Cfg) (d:u7) (r:Nat) (R:Row):Option u7 :=
 match iB c0 d with
 | some (i,o)=>match (d.st.rowTo r R).put o.dst (.v (.one (.row d.st.nr R.s R.n R.cap))) with
  | some s'=>some ⟨d.fuel - 1,d.listed.setIfInBounds i true,s'⟩
  | none=>none
 | none=>none
def qY (c0:Cfg) (d:u7) (r:Nat) (R:Row):u7:=(va c0 d r R).getD d
def atX (c0:Cfg) (d:u7):Cfg:=⟨[.inRegion (G1 c0) (Region.ready .any (G1 c0) d.listed)],d.st⟩
def xm (n:Nat) (T hs:List Nat):List (Nat×Blk)->Bool
 | []=>true
 | (b,blk)::l=>match blk.rw with
  | true=>match p5 T (hs.getD b 0),a4t (hs.getD b 0) n with
   | true,true=>xm n T hs l
   | _,_=>false
  | false=>xm n T hs l
theorem mR {n:Nat} {T hs:List Nat}:∀ {l:List (Nat×Blk)} {b:Nat} {blk:Blk},xm n T hs l=true->look l b=some blk->blk.rw=true->hs.getD b 0∈T/\hs.getD b 0<n
 | (q,x)::l,b,blk,h,hl,hw=>by
  simp only [xm] at h;simp only [look] at hl;split at hl
  ·rename_i e;have:=(d6 _ _).1 e;subst this;cases hl;rw [hw] at h;simp only at h;split at h
   ·rename_i h1 h2; exact ⟨(w9 _ _).1 h1,X1 h2⟩
   ·cases h
  ·split at h
   ·split at h
    ·exact mR h hl hw
    ·cases h
   ·exact mR h hl hw
def oC (n0:Nat) (S:Nat->Prop) (c0:Cfg) (d:u7) (F':St) (v:RV):u7 :=
 match iB c0 d with
 | some (i,_)=>⟨d.fuel - 1,d.listed.setIfInBounds i true,(bP n0 S (atX c0 d) F' v).st⟩
 | none=>d
theorem O4 {α:Type} {r q:Nat} (h:q≠r):∀ (l:List (Nat×α)),look (Q6 r l) q=look l q
 | []=>rfl
 | (j,u)::l=>by
  simp only [Q6];cases hb:a1m j r with
  | true =>
   simp only [look];have hj:=(d6 _ _).1 hb;have:a1m j q=false:=by
    cases e:a1m j q with
    | true=>have:=(d6 _ _).1 e; omega
    | false=>rfl
   rw [this];exact O4 h l
  | false =>
   simp only [look];split
   ·rfl
   ·exact O4 h l
theorem dD {α:Type}:∀ (l:List (Nat×α)),H4 [] l=l
 | []=>rfl
 | (k,v)::l=>by simp only [H4,p5,dD l]
theorem H7 {nr:Nat} {rows:List (Nat×Row)} {q:Nat} (hq:q<nr):∀ (l:List (Nat×Row)),look (G9 nr rows l) q=look rows q
 | []=>rfl
 | (r,R)::l=>by
  simp only [G9,look];have:a1m (nr+r) q=false:=by
   cases e:a1m (nr+r) q with
   | true=>have:=(d6 _ _).1 e; omega
   | false=>rfl
  rw [this];exact H7 hq l
section
variable {C:Ctx} {T TR:List Nat} {L:Nat} {c0:Cfg} {d:u7}
theorem p9 (T TR:List Nat) (L:Nat) {c:Cfg} (hc:(Da C.P L c&&uZ c.st.rows TR)=true) (h:VX C T TR L c (JO c)):V C c:=by
 rw [a0g] at hc;obtain ⟨hc,R4⟩:=hc;intro ρ a w hS;have e9:∀ q Q,look c.st.rows q=some Q->q<c.st.nr:=λq Q h=>(hS.rows q Q h).1;revert ρ a w;unfold Da at hc;split at hc
 case h_2=>cases hc
 rename_i ops k hd;obtain ⟨h1,h2,h3⟩:=sw hc;have e1:G1 c=ops:=by unfold G1; rw [hd]
 have e2:dK c=k:=by unfold dK; rw [hd]
 have hL:W9 ops L∨ops.size<=L:=by
  rw [a3w] at h3;rcases h3 with h | h
  ·exact .inl (eW h)
  ·exact .inr (a0w h)
 refine nO T TR L ops k hd h1 (λD hD a1 a2 a3 a4 a5 A9 aT aTR=>?_) (oB R4);have:=h D hD a1 a2 a3 a4 a5.1 a5.2 (by rw [e1]; exact hL) (by rw [e1]; exact h2) aT aTR e9 A9;unfold JO at this;rw [e1,e2] at this;exact this
theorem mb {E:List (Ent C.P)} {D:gP} {ops:Array Oper} {k:List Item} (hD:D.ok) (hL:W9 ops D.L∨ops.size<=D.L) (D4:Region.noSelect ops=true) :
  ∀ (m:Nat) (d:u7),(∀ p∈(qX C.P E ops D.h0 D.r0 m d).2,p)->(∀ e∈E,∀ q∈e.sp.need,q∈d.st.pers)->D.rows d.st ->
   (D.rows (qX C.P E ops D.h0 D.r0 m d).1.st->VD C D ops k (qX C.P E ops D.h0 D.r0 m d).1)->VD C D ops k d
 | 0,d,_,_,A9,h=>h A9
 | m+1,d,q8,hn,A9,h=>by
  unfold qX at q8 h;split at q8
  case h_2=>exact (by
   rename_i J8;split at h
   ·rename_i i n hr hf; exact absurd hf (J8 i n hr)
   ·exact h A9)
  rename_i i n hr hf;rw [hr,hf] at h;simp only at h;split at q8
  case h_2=>exact (by
   rename_i J8;split at h
   ·rename_i f xs o hc ho; exact absurd ho (J8 f xs o hc)
   ·exact h A9)
  rename_i f xs o hc ho;rw [hc,ho] at h;simp only at h;split at q8
  case h_2=>exact (by
   rename_i eE; rw [eE] at h; exact h A9)
  rename_i v ob1 eE;rw [eE] at h;simp only at h;split at q8
  case h_2=>exact (by
   rename_i o9; rw [o9] at h; exact h A9)
  rename_i s' o9;rw [o9] at h;simp only at h q8;have um:=L2 (P:=C.P) (ops:=ops) (h0:=D.h0) (r0:=D.r0) ops.size ⟨n,d.listed.setIfInBounds i true,s'⟩;obtain ⟨b1,b2,b3⟩:=cE (C:=C) eE (λp hp=>q8 p (a1w _ hp)) hn;obtain ⟨w1,w2⟩:=kM (W:=d.st.W) b2 rfl;refine VD.call i f xs v hr hf ho hc (S3 b1) o9 w1 w2 b3 ?_;have hW:=N8 o9;have J7:D.rows s':=⟨λr R hR=>by rw [show s'.rows=d.st.rows from congrArg WF.rows hW]; exact A9.1 r R hR,by rw [hW]; exact A9.2⟩;refine VD.runM hD hL D4 ops.size _ (λp hp=>q8 p (a1v _ (a1w _ hp))) J7 λgV=>mb hD hL D4 m _ (λp hp=>q8 p (a1v _ (a1v _ hp))) (λe he q hq=>?_) gV h;rw [um,J1 o9];exact hn e he q hq
theorem VX.run (E:List (Ent C.P)) (ob:List Prop) (hr:(SX.runX C.P E T TR c0 d).2=ob) (hn:ex E d.st.pers=ez E) (ho:B9 ob) (h:VX C T TR L c0 (SX.runX C.P E T TR c0 d).1):VX C T TR L c0 d:=by
 intro D hD a1 a2 a3 a4 a5 a6 hL D4 aT aTR e9 A9;have q8:=hr▸U7 ho;unfold SX.runX at q8 h;rw [<- a1,<- a3] at q8 h;have um:=L2 (P:=C.P) (ops:=G1 c0) (h0:=D.h0) (r0:=D.r0) (G1 c0).size d;refine VD.runM hD (by rw [a4]; exact hL) D4 (G1 c0).size d (λp hp=>q8 p (a1w _ hp)) A9 λGl=>mb hD (by rw [a4]; exact hL) D4 50 _ (λp hp=>q8 p (a1v _ hp)) (λe he q hq=>?_) Gl (λJ7=>?_)
 ·rw [um]; exact bj hn e he q hq
 ·exact h D hD a1 a2 a3 a4 a5 a6 hL D4 aT aTR e9 J7
theorem VX.fin (s1:St) (hs:mw C.P (G1 c0) L d=some s1) (h:V C ⟨dK c0,s1⟩):VX C T TR L c0 d :=
 λ_ _ _ _ _ a4 _ _ _ _ _ _ _ _=>VD.fin (by rw [a4]; exact hs) h
theorem o7 (hs:(mw C.P (G1 c0) L d).isSome=true) (h:V C ⟨dK c0,(mw C.P (G1 c0) L d).getD d.st⟩):VX C T TR L c0 d:=by
 obtain ⟨s1,h1⟩:=a2o.1 hs;rw [h1] at h;exact VX.fin s1 h1 h
theorem VX.push {α:Type} (f:α->List SV) (dl:α) (l:List α) (x:α) (r:Nat) (q:Option Addr) (cap:Nat) (e:TypeId) (sz:Nat) (xs:List SV) (bytes:Nat)
  (hA:(AQ C.P c0 d).map fW=some (r,d5 f dl l q cap e sz true,1,xs,bytes)) (hr:p5 TR r=true) (fT:look c0.st.rows r=some (d5 f dl l q cap e sz true)) (hb:(l.length+1)*bytes<=140737488355328) (hx:f x=xs)
  (I9:∀ q cap,(va c0 d r (d5 f dl (l++[x]) q cap e sz true)).isSome=true)
  (k:∀ q cap,VX C T TR L c0 (qY c0 d r (d5 f dl (l++[x]) q cap e sz true))):VX C T TR L c0 d:=by
 intro D hD a1 a2 a3 a4 a5 a6 hL D4 aT aTR e9 A9;cases da:AQ C.P c0 d with
 | none=>rw [da] at hA; cases hA
 | some A =>
  rw [da] at hA;simp only [a2u,fW,a0l,a1f] at hA;obtain ⟨e1,e2,e3,e4,e5⟩:=hA;have n8:(l++[x]).length=l.length+1:=by simp
  have W3:∀ q cap,A.R.next q A.m cap (λi=>f ((l++[x]).getD i dl))=d5 f dl (l++[x]) q cap e sz true:=by
   intro q cap;rw [e2,e3];simp only [Row.next,d5,n8]
  have hn:A.R.n+A.m=(l++[x]).length:=by rw [e2,e3,n8]; rfl
  unfold AQ at da;split at da
  case h_2=>cases da
  rename_i i o U2;split at da
  case h_2=>cases da
  rename_i cl hg U4;obtain ⟨C3,⟨n,hf⟩,ho⟩:=dC U2;have tail:∀ q cap,∃ s',(d.st.rowTo r (d5 f dl (l++[x]) q cap e sz true)).put o.dst (.v (.one (.row d.st.nr q (l++[x]).length cap)))=some s' /\
    qY c0 d r (d5 f dl (l++[x]) q cap e sz true)=⟨n,d.listed.setIfInBounds i true,s'⟩:=by
   intro q cap;have h1:=I9 q cap;unfold qY;unfold va at h1 ⊢;rw [U2] at h1 ⊢;simp only at h1 ⊢;split at h1
   ·rename_i s' N6;refine ⟨s',N6,?_⟩;simp only [a1e,hf,a3x]
   ·cases h1
  refine VD.append i A (λi=>f ((l++[x]).getD i dl)) C3 hf ho hg U4 da (by rw [hn,e5,n8]; exact hb) ?_ ?_ (λk hk=>aTR r ((w9 _ _).1 hr) _ fT k (by rw [e2] at hk; exact hk)) (λq cap=>?_) (λq cap s' N6=>?_)
  ·intro i hi;rw [e2] at hi ⊢;have ao:i<l.length:=hi;show f ((l++[x]).getD i dl)=f (l.getD i dl);rw [aG _ _ _ _ ao]
  ·intro i hi;rw [e3] at hi;have:i=0:=by omega
   subst this;rw [e4,<- hx,e2];show f ((l++[x]).getD (l.length+0) dl)=f x;simp
  ·obtain ⟨s',N6,_⟩:=tail q cap;rw [e1,W3,hn,N6]; rfl
  ·obtain ⟨s2,rU,Vt⟩:=tail q cap;rw [e1,W3,hn,rU] at N6;cases N6;have hW:=N8 rU;have J7:D.rows (d.st.rowTo r (d5 f dl (l++[x]) q cap e sz true)):=by
    refine ⟨λq' Q hQ=>?_,A9.2.trans' (eY _ r _)⟩;have h1:=A9.1 q' Q hQ;rw [a3] at hQ;obtain ⟨E0,hw⟩:=y5 hQ;have uj:q'<d.st.nr:=a1b (e9 q' Q hw) (by rw [<- a5]; exact A9.2.nr);show look ((d.st.nr,_)::Q6 r d.st.rows) q'=some Q;simp only [look];have B8:a1m d.st.nr q'=false:=by
     cases hb:a1m d.st.nr q' with
     | true=>have:=(d6 _ _).1 hb; omega
     | false=>rfl
    rw [B8];simp only;rw [O4 (λe=>E0 (by rw [e]; exact (w9 _ _).1 hr))];exact h1
   have gV:D.rows s':=⟨λr R hR=>by rw [show s'.rows=_ from congrArg WF.rows hW]; exact J7.1 r R hR,by rw [hW]; exact J7.2⟩;have:=k q cap;rw [Vt] at this;exact this D hD a1 a2 a3 a4 a5 a6 hL D4 aT aTR e9 gV
theorem VX.callK {α:Type} {f:FuncId} {ys:List CV} {F:St} {p:α->Prop} {v:α->RV} {F':α->St} (pi:List (Nat×Bool)) (hk:CallsK C.P f ys F p v F')
  (hb:(D6 C.P f&&((iB c0 d).isSome&&(F.rows.isEmpty&&xm c0.st.next T (fe (atX c0 d)).1 F.heap)))=true) (hc:aq (atX c0 d)=some (f,ys,r8 F)) (kw:bi pi d.st.pers=some (bB C.w0.heap.size C.S pi F.pers))
  (hu:∀ x,okK (atX c0 d) (F' x) (v x)=true) (k:∀ x,p x->VX C T TR L c0 (oC C.w0.heap.size C.S c0 d (F' x) (v x))):VX C T TR L c0 d:=by
 intro D hD a1 a2 a3 a4 a5 a6 hL D4 aT aTR e9 A9 ρ a w hS hρ ib N5 U4 C8;simp only [a0g] at hb;obtain ⟨bG,U2,yv,yw⟩:=hb;obtain ⟨⟨i,o⟩,U2⟩:=a2o.1 U2;obtain ⟨C3,⟨n,hf⟩,ho⟩:=dC U2;have yv:F.rows=[]:=List.isEmpty_iff.1 yv;have Ns:atX c0 d=⟨[.inRegion (G1 c0) [i]],d.st⟩:=by unfold atX; rw [C3]
 rw [Ns] at hc yw hu;unfold aq at hc;split at hc
 case h_2=>cases hc
 rename_i f1 xs F6;split at hc;rename_i hs rs wC;split at hc
 case h_2=>cases hc
 rename_i ys1 s' yz G0;simp only [a0l,a1f] at hc;obtain ⟨rfl,rfl,co⟩:=hc;have hh:fe ⟨[.inRegion (G1 c0) [i]],d.st⟩=(hs,rs):=by unfold fe; rw [F6]; exact wC
 rw [hh] at yw;have R5:o8 [] hs rs [] d.st=some s':=G0;have Qw:=hS.fragAt R5 co pi kw;have Cd:rs=[]:=by
  have h1:s'.rows=F.rows:=by simp only [r8,a1f] at co; exact co.2.2.1
  have h2:s'.nr=rs.length:=by
   unfold o8 at R5;split at R5
   case h_2=>cases R5
   rw [<- a2h R5]
  cases rs with
  | nil=>rfl
  | cons r0 rs' =>
   exfalso;unfold o8 at R5;split at R5
   case h_2=>cases R5
   rename_i _ _ rows _ _ _ _ r7;have h3:=a2h R5;rw [<- h3,yv] at h1;have h4:rows=[]:=h1;simp only [cv] at r7;split at r7
   ·split at r7
    ·rename_i R _ q hq;simp only [a0l] at r7;rw [h4] at r7; cases r7
    ·cases r7
   ·cases r7
 subst Cd;have qr:xs.map (a2a ρ)=ys1.map (a2a (λi=>ρ (hs.getD i 0))):=by
  have cq:=R5;unfold o8 at cq;split at cq
  case h_2=>cases cq
  rename_i sl eR rows _ _ _ _ r7;have yL:bL [] d.st.W ⟨hs.length,([]:List Nat).length,rows⟩:=by
   intro r' r R hr hl;obtain ⟨r2,_,h2,h3⟩:=p7 r7 r' R hl;simp only [a3e] at h2;rw [hr] at h2;cases h2;exact h3
  exact ((fV (ρ:=ρ) (W:=d.st.W) (W':=⟨hs.length,([]:List Nat).length,rows⟩) rfl rfl yL yz).1).symm
 have hi:i∈Region.ready .any (G1 c0) d.listed:=by rw [C3]; simp
 rw [hf];refine E2 C3 (by simp) (λj hj=>?_);have:j=i:=by simpa using hj
 subst this;unfold I4 at F6;simp only [ho] at F6;split at F6
 case h_2=>cases F6
 rename_i cl f7;split at F6
 case h_3=>cases F6
 case h_2=>split at F6<;>cases F6
 rename_i hg;split at F6
 case h_2=>cases F6
 rename_i f' caps zs h1 h2;simp only [a0l,a1f,true_and] at F6;obtain ⟨rfl,rfl⟩:=F6;have F1:=G5 (t:=o.type) hS.toP (j9 d.st) h1 h2 (S3 bG);unfold wpOp;simp only [ho,D5 hS hg,if_true];refine .inl ?_;unfold Oper.wp execOp;rw [f7];simp only;rw [F1,qr];refine (hk _ w Qw).mono ?_;rintro e w2 ⟨x,ρ',hp,rfl,k1,k2,k3,k4,k5,k6,k7,k8,k9,k10⟩;have Gq:=hu x;unfold okK at Gq;rw [hh] at Gq;obtain ⟨u1,u2,u3⟩:=sw Gq;have Gp:(o8 [] hs [] [] d.st).map r8=some (r8 F):=by rw [R5]; exact congrArg some co
 obtain ⟨ρ1,b1,b2,b3,b4⟩:=hS.bringK1 (F':=F' x) Gp u1 k1 k2 k3 k4 k5 k7 k8 k9 k10;have fR:Chg D.TS D.ws w2:=N5.trans k7 (λm hm=>.inr (by
  rcases hm with ⟨b,blk,q1,q2,q3⟩ | ⟨r,R,q1,_⟩
  ·obtain ⟨t1,t2⟩:=mR yw q1 q2;have:=aT _ t1 t2;rw [<- hρ _ (by rw [a2]; exact t2)] at this;rw [<- q3]; exact this
  ·rw [yv] at q1; cases q1))
 have F9:∃ s2,(d.st.bringK hs [] C.w0.heap.size C.S (F' x)).put o.dst ((v x).bring (H5 hs d.st.next (F' x).next) d.st.nr)=some s2:=by
  have h3:=iv d.st hs [] C.w0.heap.size 0 C.S (λ_=>False) (F' x) o.dst ((v x).bring (H5 hs d.st.next (F' x).next) d.st.nr);unfold j5 at u3;simp only [ho] at u3;cases hq:(d.st.bringK hs [] C.w0.heap.size C.S (F' x)).put o.dst ((v x).bring (H5 hs d.st.next (F' x).next) d.st.nr) with
  | some s2=>exact ⟨s2,rfl⟩
  | none =>
   rw [hq] at h3;cases GU:(d.st.bringK hs [] 0 (λ_=>False) (F' x)).put o.dst ((v x).bring (H5 hs d.st.next (F' x).next) d.st.nr) with
   | none=>rw [GU] at u3; cases u3
   | some s2=>rw [GU] at h3; cases h3
 obtain ⟨s2,rU⟩:=F9;have UR:oC C.w0.heap.size C.S c0 d (F' x) (v x)=⟨n,d.listed.setIfInBounds j true,s2⟩:=by
  unfold oC;rw [U2];simp only [hf,a3x];unfold bP;rw [Ns,hh];unfold u0 j5;simp only [ho,rU,a1e]
 have Gn:(v x).den ρ'=((v x).bring (H5 hs d.st.next (F' x).next) d.st.nr).den ρ1:=by
  rw [RV.bring_den,RV.den_congr (W:=(F' x).W) (ρ:=ρ') b2 _ k6]
 have Cb:∀ g pol b y,(v x).bring (H5 hs d.st.next (F' x).next) d.st.nr≠.grd g pol b y:=by
  intro g pol b y e;cases hvx:v x with
  | grd=>rw [hvx] at u2; cases u2
  | v=>rw [hvx] at e; cases e
  | tup=>rw [hvx] at e; cases e
 have B0:d.st.W.le (d.st.bringK hs [] C.w0.heap.size C.S (F' x)).W:=by
  refine ⟨a0m _ _,a0m _ _,λq hq R hR=>?_⟩;have h5:look (G9 d.st.nr (H4 [] d.st.rows) (F' x).rows) q=some R:=hR;have lM:q<d.st.nr:=hq;rw [H7 lM,dD] at h5;exact h5
 have hW:=N8 rU;have J7:D.rows s2:=by
  refine ⟨λq R hR=>?_,by rw [hW]; exact A9.2.trans' B0⟩;rw [show s2.rows=_ from congrArg WF.rows hW];have h5:=A9.1 q R hR;rw [a3] at hR;have h6:=e9 q R (y5 hR).2;have h7:q<d.st.nr:=a1b h6 (by rw [<- a5]; exact A9.2.nr);show look (G9 d.st.nr (H4 [] d.st.rows) (F' x).rows) q=some R;rw [H7 h7,dD];exact h5
 have JD:=k x hp;rw [UR] at JD;rw [Gn];refine ⟨λ_=>fR,JD D hD a1 a2 a3 a4 a5 a6 hL D4 aT aTR e9 J7 ρ1 _ w2 (b1.put rU (b3 _ k6) (λg pol b y e=>absurd e (Cb g pol b y))) (λb hb=>(b4 b (by omega)).trans (hρ b hb)) ?_ fR (U4.set hi) (by simpa using C8)⟩;show D.n0<=s2.next;rw [J9 rU];exact a0n ib (a0m _ _)
theorem L9 (t g:Nat) (cells:List SV) (e:TypeId) (rest:List m6) {c:Cfg} (hl:look c.st.slots t=some (.v (.one (.val (.pointer (some ⟨g,0,none⟩)))))) (hg:p5 c.st.gs t=false) (hp:c.st.pers=r9 g cells e::rest)
  (M3:cells.all F2=true) (r7:bf c.st.rows=true) (NP:∀ w,(r9 g cells e).φ w->(∀ p∈rest,p.φ w)->∀ p∈rest,¬ p.D g)
  (h:V C ⟨c.todo,{ c.st with slots:=upd c.st.slots t (.v (.one (.ptr c.st.next 0))),heap:=(c.st.next,⟨cells,e,false⟩)::c.st.heap,next:=c.st.next+1,pers:=rest }⟩):V C c:=by
 intro ρ a w hS;obtain ⟨p1,_,p3⟩:=hS.pers (r9 g cells e) (by rw [hp]; simp);obtain ⟨q1,q2,q3⟩:=p3 g rfl;have Xi:∀ p∈rest,¬ p.D g:=NP w p1 (λp ko=>(hS.pers p (by rw [hp]; exact a0e _ ko)).1);have wK:∀ x∈cells,x.plain:=λx hx=>P6 (a0y.1 M3 x hx)
 let ρ':Nat->Nat:=λi=>if i=c.st.next then g else ρ i
 have hρ:∀ b,b<c.st.next->ρ' b=ρ b:=λb hb=>if_neg (by omega);have hρn:ρ' c.st.next=g:=if_pos rfl;have B0:c.st.W.le ⟨c.st.next+1,c.st.nr,c.st.rows⟩:=⟨a4l _,a0q _,λ_ _ _ h=>h⟩;refine h ρ' a w ⟨hS.n,?_,?_,?_,?_,?_,hS.defers,hS.chg,?_,?_,?_,λb hb=>?_⟩
 ·intro i v hv;simp only [s8] at hv;by_cases e':t=i
  ·subst e';rw [if_pos rfl] at hv;cases hv;refine ⟨?_,a3p _⟩;rw [(hS.slots t _ hl).1];show some (Value.pointer (some ⟨g,0,none⟩))=some (.pointer (some ⟨ρ' c.st.next,0,none⟩));rw [hρn]
  ·rw [if_neg e'] at hv;obtain ⟨k1,k2⟩:=hS.slots i v hv;exact ⟨by rw [k1,RV.den_congr (W:=c.st.W) hρ v k2],RV.wf_mono B0 v k2⟩
 ·intro i g' pol b x hv;simp only [s8] at hv ⊢;by_cases e':t=i
  ·rw [if_pos e'] at hv; cases hv
  ·rw [if_neg e'] at hv;obtain ⟨k1,k2⟩:=hS.grds i g' pol b x hv;refine ⟨k1,?_⟩;rw [if_neg (λe2=>?_)]
   ·exact k2
   ·rw [<- e2,hg] at k1; cases k1
 ·intro b blk hb;simp only [look] at hb;split at hb
  ·rename_i e';cases hb;have:=(d6 _ _).1 e';subst this;refine ⟨a3p _,?_,λx hx=>N7 (wK x hx) _,λhh=>by cases hh⟩;rw [hρn];have:cells.map (a4m ρ')=cells.map a3n:=a2g λx hx=>J0 (wK x hx) _;simp only [this];exact p1
  ·obtain ⟨k1,k2,k3,k4⟩:=hS.heap b blk hb;refine ⟨Nat.lt_succ_of_lt k1,?_,λx hx=>SV.wf_mono B0 x (k3 x hx),?_⟩
   ·rw [hρ b k1,x8 (W:=c.st.W) hρ _ k3]; exact k2
   ·rw [hρ b k1]; exact k4
 ·intro b d hb hd he;have B8:b<c.st.next+1:=hb;have NQ:d<c.st.next+1:=hd;by_cases e1:b=c.st.next<;>by_cases e2:d=c.st.next
  ·omega
  ·subst e1; rw [hρn,hρ d (by omega)] at he; exact absurd he.symm (q2 d (by omega))
  ·subst e2; rw [hρn,hρ b (by omega)] at he; exact absurd he (q2 b (by omega))
  ·rw [hρ b (by omega),hρ d (by omega)] at he; exact hS.inj b d (by omega) (by omega) he
 ·intro b hb;have B8:b<c.st.next+1:=hb;by_cases e1:b=c.st.next
  ·subst e1; rw [hρn]; exact q1
  ·rw [hρ b (by omega)]; exact hS.lt b (by omega)
 ·intro r R hR;obtain ⟨k0,k1,k2⟩:=hS.rows r R hR;refine ⟨k0,k1,λk hk=>⟨(k2 k hk).1,λb hb=>?_,(k2 k hk).2.2⟩⟩;have B8:b<c.st.next+1:=hb;by_cases e1:b=c.st.next
  ·subst e1; rw [hρn]; intro e2; rw [<- e2] at hk; exact q3 r R hR (aH r7 hR) hk
  ·rw [hρ b (by omega)]; exact (k2 k hk).2.1 b (by omega)
 ·exact hS.rowsD
 ·intro p ko;obtain ⟨r1,r2,r3⟩:=hS.pers p (by rw [hp]; exact a0e _ ko);refine ⟨r1,r2,λk hD=>⟨(r3 k hD).1,λb hb=>?_,(r3 k hD).2.2⟩⟩;have B8:b<c.st.next+1:=hb;by_cases e1:b=c.st.next
  ·subst e1; rw [hρn]; intro e2; rw [<- e2] at hD; exact Xi p ko hD
  ·rw [hρ b (by omega)]; exact (r3 k hD).2.1 b (by omega)
 ·obtain ⟨k1,k2⟩:=hS.fix b hb;exact ⟨Nat.lt_succ_of_lt k1,by rw [hρ b k1]; exact k2⟩
theorem j3 (b j:Nat) (blk:Blk) (x x':SV) {c:Cfg} (hb:look c.st.heap b=some blk) (hj:blk.cells[j]?=some x) (M3:F2 x'=true) (hd:∀ ρ,x'.den ρ=x.den ρ)
  (h:V C ⟨c.todo,{ c.st with heap:=upd c.st.heap b { blk with cells:=blk.cells.set j x' } }⟩):V C c:=by
 intro ρ a w hS;refine h ρ a w ⟨hS.n,hS.slots,hS.grds,?_,hS.inj,hS.lt,hS.defers,hS.chg,hS.rows,hS.rowsD,hS.pers,hS.fix⟩;intro b' blk' B8;simp only [s8] at B8;by_cases e':b=b'
 ·subst e';rw [if_pos rfl] at B8;cases B8;obtain ⟨k1,k2,k3,k4⟩:=hS.heap b blk hb;refine ⟨k1,?_,?_,k4⟩
  ·rw [k2];have:(blk.cells.set j x').map (a4m ρ)=blk.cells.map (a4m ρ):=by
    rw [List.map_set];apply List.ext_getElem?;intro i;rw [List.getElem?_set];split
    ·rename_i e1;subst e1;split
     ·rw [a2t,hj,hd]; rfl
     ·rename_i e9;rw [a6e (by omega)]
    ·rfl
   rw [this]
  ·intro y hy;rcases List.mem_or_eq_of_mem_set hy with hy|rfl
   ·exact k3 y hy
   ·exact N7 (P6 M3) _
 ·rw [if_neg e'] at B8;exact hS.heap b' blk' B8
theorem aK {g g':Nat} {cells cells':List SV} {e e':TypeId} (he:e≠e') (w:World) (h1:(r9 g cells e).φ w) (h2:(r9 g' cells' e').φ w):¬ (r9 g' cells' e').D g:=by
 intro hd;have NQ:g=g':=hd;subst NQ;have mE:w.heap[g]?=some (.cells (cells.map a3n).toArray e (0,0)):=h1;have pS:w.heap[g]?=some (.cells (cells'.map a3n).toArray e' (0,0)):=h2;rw [mE] at pS;simp only [a0l,Obj.cells.injEq] at pS;exact he pS.2.1
end
end Go.SX
end
section
namespace Go.SX
open Go
def xo (P:Program) (E:List (Ent P)) (c0:Cfg) (d:u7) (i:Nat):Option (u7×List Prop) :=
 match callD (G1 c0) i d.st,(G1 c0)[i]? with
 | some (none,f,xs),some o=>match ff E d.st.next f xs with
  | some (v,ob)=>match d.st.put o.dst v with
   | some s'=>some (⟨d.fuel - 1,d.listed.setIfInBounds i true,s'⟩,ob)
   | none=>none
  | none=>none
 | _,_=>none
def vb (P:Program) (c0:Cfg) (d:u7) (i:Nat):Option u7 :=
 match (G1 c0)[i]? with
 | some o=>match L7 d.st (G1 c0) o.guard,gW P d.st none o.op with
  | .yes,some (v,s1)=>match s1.put o.dst v with
   | some s'=>some ⟨d.fuel - 1,d.listed.setIfInBounds i true,s'⟩
   | none=>none
  | _,_=>none
 | none=>none
def Db (P:Program) (E:List (Ent P)) (c0:Cfg) (d:u7) (i:Nat):u7:=((xo P E c0 d i).map (·.1)).getD d
def AR (P:Program) (c0:Cfg) (d:u7) (i:Nat):u7:=(vb P c0 d i).getD d
section
variable {C:Ctx} {T TR:List Nat} {L:Nat} {c0:Cfg} {d:u7}
theorem kP (E:List (Ent C.P)) (ob:List Prop) (i j:Nat) (hr:Region.ready .any (G1 c0) d.listed=[i,j]) (hf:a4t 0 d.fuel=true) (hc:(xo C.P E c0 d i).map (·.2)=some ob) (hm:(vb C.P c0 d j).isSome=true) (hn:ex E d.st.pers=ez E) (ho:B9 ob)
  (h1:VX C T TR L c0 (Db C.P E c0 d i)) (h2:VX C T TR L c0 (AR C.P c0 d j)):VX C T TR L c0 d:=by
 intro D hD a1 a2 a3 a4 a5 a6 hL D4 aT aTR e9 A9 ρ a w hS hρ ib N5 U4 C8;obtain ⟨n,dc⟩:∃ n,d.fuel=n+1:=⟨d.fuel - 1,by have:=X1 hf; omega⟩;have C3:∀ m,m∈Region.ready .any (G1 c0) d.listed↔m=i∨m=j:=by intro m; rw [hr]; simp
 rw [dc];refine E2 hr (by simp) (λm fS=>?_);rcases a0k.1 fS with rfl | fS
 ·-- the call
  obtain ⟨⟨d1,ob'⟩,iS,rfl⟩:=a1y.1 hc;have hY:Db C.P E c0 d m=d1:=by unfold Db; rw [iS]; rfl
  rw [hY] at h1;unfold xo at iS;split at iS
  case h_2=>cases iS
  rename_i f xs o uq f7;split at iS
  case h_2=>cases iS
  rename_i v ob2 eE;split at iS
  case h_2=>cases iS
  rename_i s' o9;cases iS;obtain ⟨b1,b2,b3⟩:=cE (C:=C) eE (U7 ho) (bj hn);obtain ⟨w1,w2⟩:=kM (W:=d.st.W) b2 rfl;have hW:=N8 o9;have J7:D.rows s':=⟨λr R hR=>by rw [show s'.rows=d.st.rows from congrArg WF.rows hW]; exact A9.1 r R hR,by rw [hW]; exact A9.2⟩;unfold callD I4 at uq;simp only [f7] at uq;split at uq
  case h_2=>cases uq
  rename_i cl Vh;split at uq
  case h_3=>cases uq
  case h_2=>split at uq<;>cases uq
  rename_i hg;split at uq
  case h_2=>cases uq
  rename_i f' caps ys q1 q2;simp only [a0l,a1f,true_and] at uq;obtain ⟨rfl,rfl⟩:=uq;have F1:=G5 (t:=o.type) hS.toP (j9 d.st) q1 q2 (S3 b1);unfold wpOp;simp only [f7,D5 hS hg,if_true];refine .inl ?_;unfold Oper.wp execOp;rw [Vh];simp only;rw [F1];refine (b3 ρ a w hS).mono ?_;rintro e w2' ⟨rfl,hcw⟩;have fR:Chg D.TS D.ws w2':=N5.trans hcw (λi hi=>hi.elim);have:=h1 D hD a1 a2 a3 a4 a5 a6 hL D4 aT aTR e9 J7 ρ _ w2' ((hS.below hcw).put o9 w1 (λg pol c x e=>absurd e (w2 g pol c x))) hρ (by show D.n0<=s'.next; rw [J9 o9]; exact ib) fR (U4.set ((C3 m).2 (.inl rfl))) (by simpa using C8);simp only [dc,a3x] at this;exact ⟨λ_=>fR,this⟩
 ·-- the new block
  have UX:m=j:=by simpa using fS
  subst UX;obtain ⟨d2,N4⟩:=a2o.1 hm;have hY:AR C.P c0 d m=d2:=by unfold AR; rw [N4]; rfl
  rw [hY] at h2;unfold vb at N4;split at N4
  case h_2=>cases N4
  rename_i o f7;split at N4
  case h_2=>cases N4
  rename_i v s1 hg gT;split at N4
  case h_2=>cases N4
  rename_i s' o9;cases N4;obtain ⟨k1,k2,k3⟩:=iq gT;obtain ⟨ρ',w2,e1,e2,e3,e4,e5,e6,e7⟩:=bK hS (j9 d.st) o gT;have fR:Chg D.TS D.ws w2:=N5.trans e7 (λi hi=>hi.elim);have hW:=N8 o9;have J7:D.rows s':=by
   refine ⟨λr R hR=>?_,?_⟩
   ·rw [show s'.rows=s1.rows from congrArg WF.rows hW,k1]; exact A9.1 r R hR
   ·rw [hW];exact A9.2.trans' ⟨k3,Nat.le_of_eq k2.symm,λr _ R hR=>by
     have G8:look s1.rows r=some R:=hR;rw [k1] at G8; exact G8⟩
  unfold wpOp;simp only [f7,D5 hS hg,if_true];refine .inl ?_;unfold Oper.wp;rw [e1];have:=h2 D hD a1 a2 a3 a4 a5 a6 hL D4 aT aTR e9 J7 ρ' _ w2 (e2.put o9 e3 (λg pol c x e=>absurd e (e4 g pol c x))) (λb hb=>(e5 b (by omega)).trans (hρ b hb)) (by show D.n0<=s'.next; rw [J9 o9]; omega) fR (U4.set ((C3 m).2 (.inr rfl))) (by simpa using C8);simp only [dc,a3x] at this;exact ⟨λ_=>fR,this⟩
theorem mS (t kt et:TypeId) (kd:TypeDesc) (g:Nat) (kv:CV) (ok:Bool) (key:Value) (y:Option Value) (z:Value) (u:RV) {c:Cfg} (hc:CD c=some (t,g,kv,ok))
  (ht:C.P.underlying t=some (.map kt et)) (hk:C.P.underlying kt=some kd) (Cf:du kd=true)
  (hb:∀ ρ a w,Sat C ρ c.st a w->∃ es clock x,w.heap[g]?=some (.map es clock)/\Instr.findNow kd key es.toList 0=some x/\x.map (·.2)=y)
  (Nr:∀ ρ,kv.den ρ=key) (hz:y=none->∀ w,(zeroValue et).run C.P w=.ok z w)
  (hu:∀ ρ,u.den ρ=cond ok (.tuple #[y.getD z,.bool y.isSome]) (y.getD z)) (huw:u.wf c.st.W) (Cb:∀ g pol b y,u≠.grd g pol b y)
  (I9:(j5 c c.st u).isSome=true) (k:V C (u0 c c.st u)):V C c:=by
 unfold CD at hc;split at hc
 ·rename_i t' m k' ok' f7;split at hc
  ·rename_i g' kv' hm eD;cases hc;refine lV f7 (fun ρ a w o ho hS=>⟨ρ,u,w,c.st,?_,hS,huw,Cb,_,x4 I9,k⟩);obtain ⟨e1,_⟩:=d7 hS.toP (j9 c.st) hm;obtain ⟨e2,_⟩:=d7 hS.toP (j9 c.st) eD;obtain ⟨es,clock,x,b1,b2,rfl⟩:=hb ρ a w hS;unfold execOp;rw [ho];refine H1 ?_;rw [e1,e2,Nr,hu];have:=wX ht hk Cf b1 b2 (z:=z) (λe=>hz (by rw [e]; rfl) w) ok;rw [show (x.map (·.2)).isSome=x.isSome by cases x<;>rfl];exact this
  ·cases hc
 ·cases hc
end
end Go.SX
end
section
namespace Go.SX
open Go
def ck (g:Nat->Nat):List (List SV×TypeId)->Nat->List m6
 | [],_=>[]
 | (cells,e)::l,i=>r9 (g i) cells e::ck g l (i+1)
def AS:List (List SV×TypeId)->Nat->List (Nat×Blk)
 | [],_=>[]
 | (cells,e)::l,i=>(i,⟨cells,e,true⟩)::AS l (i+1)
theorem jq {g:Nat->Nat}:∀ {l:List (List SV×TypeId)} {i:Nat} {p:m6},p∈ck g l i->∃ j cells e,look (AS l i) j=some ⟨cells,e,true⟩/\p=r9 (g j) cells e/\i<=j/\j<i+l.length/\(cells,e)∈l
 | [],i,p,h=>by simp [ck] at h
 | (cells,e)::l,i,p,h=>by
  rcases a0k.1 h with rfl | h
  ·exact ⟨i,cells,e,by simp [AS,look],rfl,a0q _,by simp,a0f ..⟩
  ·obtain ⟨j,c',e',h1,h2,h3,h4,h5⟩:=jq h;refine ⟨j,c',e',?_,h2,by omega,by simp only [a0p]; omega,a0e _ h5⟩;simp only [AS,look];have:a1m i j=false:=by
    cases hb:a1m i j with
    | true=>have:=(d6 _ _).1 hb; omega
    | false=>rfl
   rw [this];exact h1
theorem H8 {P:Program} {f:FuncId} {ys:List CV} {F:St} {v:RV} (bl:List (List SV×TypeId)) (hF:F.heap=[]/\F.next=0/\F.rows=[]) (M3:(bl.all λb=>b.1.all F2)=true)
  (h:CallsK P f ys F (λ_:Unit=>True) (λ_=>v) (λ_=>{ n:=0,slots:=[],gs:=[],heap:=AS bl 0,next:=bl.length,rows:=[],nr:=0,pers:=[],wr:=false })) (v':(Nat->Nat)->RV)
  (hv:∀ g ρ,(v' g).den ρ=v.den g) (hw:∀ g,(v' g).wf ⟨0,0,[]⟩) :
  CallsK P f ys F (λ_:Nat->Nat=>True) v' (λg=>{ n:=0,slots:=[],gs:=[],heap:=[],next:=0,rows:=[],nr:=0,pers:=ck g bl 0,wr:=false }):=by
 obtain ⟨f1,f2,f3⟩:=hF;intro ρ w hS;refine (h ρ w hS).mono ?_;rintro e w' ⟨x,ρ',_,he,k1,k2,k3,k4,k5,k6,k7,k8,k9,k10⟩;refine ⟨ρ',ρ,trivial,by rw [hv ρ' ρ]; exact he,λ_ _=>rfl,by rw [f2]; exact a0q _,λb _ h2=>absurd h2 (a0x b),
    ⟨λb blk hb=>(by cases hb),λb c hb=>absurd hb (a0x b),λb hb=>absurd hb (a0x b),λr R hR=>(by cases hR),λr r' R R' hR=>(by cases hR),?_⟩,
    λb hb=>(by rw [f2] at hb; exact absurd hb (a0x b)),hw ρ',k7,λb blk hb=>(by rw [f2] at hb; exact absurd hb (a0x b)),λr R hR=>(by cases hR),?_⟩
 ·intro p hp;obtain ⟨j,cells,e',h1,rfl,_,h4,h5⟩:=jq hp;obtain ⟨q1,q2,q3⟩:=k4.heap j _ h1;have WR:∀ y∈cells,y.plain:=λy hy=>P6 (a0y.1 (a0y.1 M3 _ h5) y hy);have hφ:w'.heap[ρ' j]?=some (.cells (cells.map a3n).toArray e' (0,0)):=by
   rw [q2];have:cells.map (a4m ρ')=cells.map a3n:=a2g λy hy=>J0 (WR y hy) _;simp only [this]
  refine ⟨hφ,λw2 bY=>(bY _ rfl).trans hφ,λk hD=>⟨?_,λb hb=>absurd hb (a0x b),λr R hR=>(by cases hR)⟩⟩;have hk:k=ρ' j:=hD;subst hk;exact k4.lt j q1
 ·intro p hp k hD;obtain ⟨j,cells,e',h1,rfl,_,h4,h5⟩:=jq hp;have hk:k=ρ' j:=hD;subst hk;exact k3 j (by rw [f2]; exact a0s _) (by simpa using h4)
theorem CallsK.args {α:Type} {P:Program} {f:FuncId} {ys:List CV} {F:St} {p:α->Prop} {v:α->RV} {F':α->St} (h:CallsK P f ys F p v F') (ys':List CV) (hd:∀ ρ,ys'.map (a2a ρ)=ys.map (a2a ρ)):CallsK P f ys' F p v F':=by
 intro ρ w hF;rw [hd];exact h ρ w hF
end Go.SX
end
section
namespace Go.SX
open Go
open Go.ChangeMaps (setBlock)
def dE (p:m6):Prop:=∀ w w':World,(∀ k,p.D k->w'.heap[k]?=w.heap[k]?)->p.φ w->p.φ w'
def jr (g:Nat) (o:Obj):m6:=⟨λk=>k=g,λw=>w.heap[g]?=some o⟩
theorem gi (g:Nat) (o:Obj):dE (jr g o):=λ_ _ h hw=>(h g rfl).trans hw
theorem AT (g:Nat) (cells:List SV) (e:TypeId):dE (r9 g cells e):=λ_ _ h hw=>(h g rfl).trans hw
theorem l7 (R:Row):dE (e8 R):=uW R
theorem G2 {C:Ctx} (i:Nat) (b:Bool) (R:Row) {c:Cfg} (h:V C ⟨c.todo,{ c.st with pers:=e8 R::c.st.pers }⟩) (hq:bi [(i,b)] c.st.pers=some (bB C.w0.heap.size C.S [(i,b)] [e8 R]):=by kernel_rfl):V C c:=O3 [(i,b)] [e8 R] (e8 R) hq (λk hk=>⟨_,a0d.2 rfl,hk⟩) (λw hw=>hw _ (a0d.2 rfl)) (l7 _) h
theorem Dc {C:Ctx} (i:Nat) (b:Bool) (q:m6) (hs:dE q) {c:Cfg} (h:V C ⟨c.todo,{ c.st with pers:=q::c.st.pers }⟩) (hq:bi [(i,b)] c.st.pers=some (bB C.w0.heap.size C.S [(i,b)] [q]):=by kernel_rfl):V C c:=O3 [(i,b)] [q] q hq (λk hk=>⟨_,a0d.2 rfl,hk⟩) (λw hw=>hw _ (a0d.2 rfl)) hs h
def L0 (l:List m6):m6:=⟨λk=>∃ q∈l,q.D k,λw=>∀ q∈l,q.φ w⟩
theorem H9 {l:List m6} (h:∀ q∈l,dE q):dE (L0 l):=λw w' hk hw q hq=>h q hq w w' (λk hD=>hk k ⟨q,hq,hD⟩) (hw q hq)
theorem kQ {g:Nat->Nat} {l:List (List SV×TypeId)} {i:Nat}:∀ p∈ck g l i,dE p:=by
 intro p hp;obtain ⟨j,cells,e,_,rfl,_⟩:=jq hp;exact AT _ _ _
section
variable {C:Ctx} {ρ:Nat->Nat} {s:St} {a:Act} {w:World}
theorem w4 (i:Nat) (l:List m6) (q:m6) {c:Cfg} (hi:c.st.pers[i]?=some (L0 l)) (hq:q∈l) (hs:dE q)
  (h:V C ⟨c.todo,{ c.st with pers:=q::c.st.pers }⟩):V C c:=by
 refine O3 [(i,false)] [L0 l] q ?_ (λk hD=>⟨_,a0d.2 rfl,q,hq,hD⟩) (λw hw=>hw _ (a0d.2 rfl) q hq) hs h;simp only [bi,hi,bB]
theorem bR (r g:Nat) (o:Obj) {c:Cfg} (hR:look c.st.rows r=some (G3 g o))
  (h:V C ⟨c.todo,{ c.st with rows:=Q6 r c.st.rows,pers:=P7 C.w0.heap.size C.S (jr g o)::c.st.pers }⟩):V C c:=by
 intro ρ a w hS;obtain ⟨r1,r2,r3⟩:=hS.rows r _ hR;have q8:=hS.obj hR;have hu:(G3 g o).uses g:=s9.2 rfl;have B0:c.st.W.le ({ c.st with rows:=Q6 r c.st.rows,pers:=P7 C.w0.heap.size C.S (jr g o)::c.st.pers }:St).W:=⟨a0q _,a0q _,λq _ Q hQ=>(j4 hQ).2⟩;refine h ρ a w ⟨hS.n,λi v hv=>⟨(hS.slots i v hv).1,RV.wf_mono B0 v (hS.slots i v hv).2⟩,hS.grds,?_,hS.inj,hS.lt,hS.defers,hS.chg,?_,?_,?_,hS.fix⟩
 ·intro b blk hb;obtain ⟨k1,k2,k3,k4⟩:=hS.heap b blk hb;exact ⟨k1,k2,λx hx=>SV.wf_mono B0 x (k3 x hx),k4⟩
 ·intro q Q hQ;exact hS.rows q Q (j4 hQ).2
 ·intro q q' Q Q' h1 h2;exact hS.rowsD q q' Q Q' (j4 h1).2 (j4 h2).2
 ·intro p hp;rcases a0k.1 hp with rfl | hp
  ·have Z8:∀ k,(jr g o).D k->C.w0.heap.size<=k∨C.S k:=λk hk=>by
    have e:k=g:=hk;subst e;exact (r3 k hu).2.2 rfl
   refine ⟨⟨q8,Z8⟩,λw2 bY=>⟨gi g o w w2 bY q8,Z8⟩,λk hk=>?_⟩;have e:k=g:=hk;subst e;refine ⟨(r3 k hu).1,(r3 k hu).2.1,λq Q hQ NU kz=>?_⟩;obtain ⟨E0,h2⟩:=j4 hQ;exact hS.rowsD r q _ Q hR h2 (λe=>E0 e.symm) rfl k hu kz
  ·obtain ⟨p1,p2,p3⟩:=hS.pers p hp;exact ⟨p1,p2,λk hk=>⟨(p3 k hk).1,(p3 k hk).2.1,λq Q hQ=>(p3 k hk).2.2 q Q (j4 hQ).2⟩⟩
def ze (R:Row):Option (Nat×Obj) :=
 match R.n,R.cap,R.elem,R.size,R.own,R.obj,R.s with
 | 0,0,0,0,true,some o,some ⟨g,0,none⟩=>some (g,o)
 | _,_,_,_,_,_,_=>none
theorem Dd {R:Row} {g:Nat} {o:Obj} (h:ze R=some (g,o)):R.n=0/\{ R with get:=λ_=>[] }=G3 g o:=by
 obtain ⟨s,n,cap,elem,size,get,own,obj⟩:=R;unfold ze at h;simp only at h;split at h
 ·cases h;exact ⟨rfl,rfl⟩
 ·cases h
theorem zf {α:Type} (r:Nat) (x y:α):∀ l:List (Nat×α),upd (upd l r x) r y=upd l r y
 | []=>by simp [upd,a4h]
 | (k,v)::l=>by
  simp only [upd];cases hk:a1m k r with
  | true=>simp only [upd,hk]
  | false=>simp only [upd,hk,zf r x y l]
theorem Sat.setObjR (h:Sat C ρ s a w) {r g:Nat} {o:Obj} {R:Row} (hr:look s.rows r=some R) (ho:ze R=some (g,o)) (o':Obj):Sat C ρ (s.setObj r g o') a (setBlock w g o')/\w.heap[g]?=some o:=by
 obtain ⟨hn,he⟩:=Dd ho;have h1:=h.rowAs hr (λ_=>[]) (λi hi=>by omega);rw [he] at h1;have hl:look (upd s.rows r (G3 g o)) r=some (G3 g o):=by rw [s8,if_pos rfl]
 refine ⟨?_,h1.obj (r:=r) (g:=g) hl⟩;have h2:=h1.setObj (r:=r) (g:=g) hl o';unfold St.setObj at h2 ⊢;simp only [zf] at h2;exact h2
def jt (P:Program) (r:Nat) (c:Cfg):Option (Cfg×(Nat×Nat)) :=
 match yP c with
 | some (t,g,kv,xv)=>match look c.st.rows r with
  | some R=>match ze R with
   | some (g',.map es clock)=>match P.underlying t with
    | some (.map kt _)=>match P.underlying kt with
     | some kd=>match du kd,Q8 kv&&Q8 xv with
      | true,true=>match Instr.findNow kd (kv.den λ_=>0) es.toList 0 with
       | some none=>match j5 c (c.st.setObj r g' (.map (es.push { key:=kv.den λ_=>0,val:=xv.den λ_=>0,born:=clock }) (clock+1))) (.v (.one (.val undef))) with
        | some c'=>some (c',(g,g'))
        | none=>none
       | _=>none
      | _,_=>none
     | none=>none
    | _=>none
   | _=>none
  | none=>none
 | none=>none
theorem qj {r:Nat} {c c':Cfg} {g g':Nat} (hs:jt C.P r c=some (c',(g,g'))) (hg:g=g') (k:V C c'):V C c:=by
 unfold jt at hs;split at hs
 case h_2=>cases hs
 rename_i t g0 kv xv hc;split at hs
 case h_2=>cases hs
 rename_i R hR;split at hs
 case h_2=>cases hs
 rename_i g1 es clock q8;split at hs
 case h_2=>cases hs
 rename_i kt et ht;split at hs
 case h_2=>cases hs
 rename_i kd hk;split at hs
 case h_2=>cases hs
 rename_i Cf M3;split at hs
 case h_2=>cases hs
 rename_i hf;split at hs
 case h_2=>cases hs
 rename_i c1 I9;cases hs;subst hg;rw [a0g] at M3;have Nr:∀ ρ,kv.den ρ=kv.den λ_=>0:=fun ρ=>dy M3.1 ρ _;have Ql:∀ ρ,xv.den ρ=xv.den λ_=>0:=fun ρ=>dy M3.2 ρ _;generalize Ca:kv.den (λ_=>0)=key at *;generalize gU:xv.den (λ_=>0)=val at *;unfold yP at hc;split at hc
 ·rename_i op f7;split at hc
  ·rename_i t' m k' x pW;split at hc
   ·rename_i g'' kv' xv' hm eD qa;cases hc;refine Oa f7 (fun ρ a w o ho hS=>?_);obtain ⟨e1,_⟩:=d7 hS.toP (j9 c.st) hm;obtain ⟨e2,_⟩:=d7 hS.toP (j9 c.st) eD;obtain ⟨e3,_⟩:=d7 hS.toP (j9 c.st) qa;obtain ⟨s1,s2⟩:=hS.setObjR hR q8 (.map (es.push { key:=key,val:=val,born:=clock }) (clock+1));refine ⟨_,_,?_,s1,_,I9,k⟩;have F1:=gY (P:=C.P) (v:=val) ht hk Cf s2 hf;unfold CC at pW;unfold execOp;rw [ho];split at pW
    ·cases pW;simp only [e1,e2,e3,Nr,Ql];have:a2a ρ (.one (.val (.map (some g))))=.map (some g):=rfl;rw [this,a1n,F1];rfl
    ·cases pW;simp only [e1,e2,e3,Nr,Ql];have:a2a ρ (.one (.val (.map (some g))))=.map (some g):=rfl;rw [this,a1n,F1];rfl
    ·cases pW
   ·cases hc
  ·cases hc
 ·cases hc
def runM (P:Program) (T:List (Ent P)) (r:Nat):Nat->Cfg->Cfg×List Prop×List (Nat×Nat)
 | 0,c=>(c,[],[])
 | n+1,c=>match runT P T 1000 c with
  | (c1,ob)=>match jt P r c1 with
   | some (c2,gg)=>match runM P T r n c2 with
    | (c3,ob3,l)=>(c3,ob++ob3,gg::l)
   | none=>(c1,ob,[])
theorem sG {P:Program} {r:Nat} {c c':Cfg} {gg:Nat×Nat} (h:jt P r c=some (c',gg)):c'.st.pers=c.st.pers:=by
 unfold jt at h
 repeat' split at h
 all_goals first
  | (cases h; done)
  | skip
 cases h;rename_i c1 I9;unfold j5 at I9;split at I9
 ·split at I9
  ·split at I9
   ·rename_i s' hp;cases I9;unfold St.put at hp;split at hp
    ·cases hp; rfl
    ·split at hp
     ·cases hp
     ·split at hp
      ·cases hp
      ·cases hp; rfl
   ·cases I9
  ·cases I9
 ·cases I9
theorem V.runM (T:List (Ent C.P)) (r n:Nat) (ob:List Prop) (l:List (Nat×Nat)) {c:Cfg} (hr:(SX.runM C.P T r n c).2=(ob,l)) (hn:ex T c.st.pers=ez T) (ho:B9 ob) (hl:∀ p∈l,p.1=p.2)
  (h:V C (SX.runM C.P T r n c).1):V C c:=by
 have q8:=U7 ho;clear ho;have dc:=bj hn;clear hn
 induction n generalizing c ob l with
 | zero=>exact h
 | succ n ih =>
  unfold SX.runM at hr h;have eR:=cF (P:=C.P) (T:=T) 1000 c;have Cd:=X2 (C:=C) (T:=T) 1000 c;generalize SX.runT C.P T 1000 c=x at hr h eR Cd;obtain ⟨c1,ob1⟩:=x;simp only at hr h eR Cd;split at hr
  ·rename_i c2 gg F9;rw [F9] at h;simp only at h hr;cases hr;obtain ⟨g,g'⟩:=gg;have Rc:=sG F9;refine Cd (λp hp=>q8 p (a1w _ hp)) dc (qj F9 (hl _ (a0f ..)) ?_);exact ih _ _ rfl (λp hp=>hl p (a0e _ hp)) h (λp hp=>q8 p (a1v _ hp)) (λe he q hq=>by rw [Rc,eR]; exact dc e he q hq)
  ·rename_i F9;rw [F9] at h;cases hr;exact Cd q8 dc h
end
end Go.SX
end
section
namespace Go.SX
open Go
def SV.absz (b g:Nat):SV->SV
 | .ptr b' off=>match a1m b b' with
  | true=>.val (.pointer (some ⟨g,off,none⟩))
  | false=>.ptr b' off
 | .sli b' n cap=>match a1m b b' with
  | true=>.val (.slice (some ⟨g,0,none⟩) n cap)
  | false=>.sli b' n cap
 | x=>x
def CV.absz (b g:Nat):CV->CV
 | .one x=>.one (x.absz b g)
 | .agg xs=>.agg (xs.map (SV.absz b g))
def RV.absz (b g:Nat):RV->RV
 | .v x=>.v (x.absz b g)
 | .tup xs=>.tup (xs.map (CV.absz b g))
 | .grd q pol c x=>.grd q pol c (x.absz b g)
def St.absz (s:St) (b g:Nat):St:={ s with slots:=xg (RV.absz b g) s.slots,heap:=xg (λk=>⟨k.cells.map (SV.absz b g),k.elem,k.rw⟩) s.heap }
theorem SV.absz_den {b g:Nat} {ρ:Nat->Nat} (h:ρ b=g) (x:SV):(x.absz b g).den ρ=x.den ρ:=by
 cases x with
 | ptr b' off =>
  simp only [SV.absz];split
  ·rename_i e; have:=(d6 _ _).1 e; subst this; simp only [a4m,h]
  ·rfl
 | sli b' n cap =>
  simp only [SV.absz];split
  ·rename_i e; have:=(d6 _ _).1 e; subst this; simp only [a4m,h]
  ·rfl
 | _=>rfl
theorem CV.absz_den {b g:Nat} {ρ:Nat->Nat} (h:ρ b=g) (x:CV):(x.absz b g).den ρ=x.den ρ:=by
 cases x with
 | one x=>exact SV.absz_den h x
 | agg xs =>
  simp only [CV.absz,a2a,a3q];congr 2;exact a2g λx _=>SV.absz_den h x
theorem RV.absz_den {b g:Nat} {ρ:Nat->Nat} (h:ρ b=g) (x:RV):(x.absz b g).den ρ=x.den ρ:=by
 cases x with
 | v x=>exact CV.absz_den h x
 | tup xs =>
  simp only [RV.absz,RV.den,a3q];congr 2;exact a2g λx _=>CV.absz_den h x
 | grd q pol c x=>simp only [RV.absz,RV.den,CV.absz_den h x]
theorem SV.absz_wf {b g:Nat} {W:WF} (x:SV) (h:x.wf W):(x.absz b g).wf W:=by
 cases x with
 | ptr b' off=>simp only [SV.absz]; split<;>first | trivial | exact h
 | sli b' n cap=>simp only [SV.absz]; split<;>first | trivial | exact h
 | _=>exact h
theorem CV.absz_wf {b g:Nat} {W:WF} (x:CV) (h:x.wf W):(x.absz b g).wf W:=by
 cases x with
 | one x=>exact SV.absz_wf x h
 | agg xs=>intro y hy; obtain ⟨z,hz,rfl⟩:=a1d.1 hy; exact SV.absz_wf z (h z hz)
theorem RV.absz_wf {b g:Nat} {W:WF} (x:RV) (h:x.wf W):(x.absz b g).wf W:=by
 cases x with
 | v x=>exact CV.absz_wf x h
 | tup xs=>intro y hy; obtain ⟨z,hz,rfl⟩:=a1d.1 hy; exact CV.absz_wf z (h z hz)
 | grd q pol c x=>exact λhc=>CV.absz_wf x (h hc)
section
variable {C:Ctx} {ρ:Nat->Nat} {s:St} {a:Act} {w:World}
theorem Sat.absz (h:Sat C ρ s a w) (b:Nat):Sat C ρ (s.absz b (ρ b)) a w:=by
 refine ⟨h.n,?_,?_,?_,h.inj,h.lt,h.defers,h.chg,h.rows,h.rowsD,h.pers,h.fix⟩
 ·intro i v hv;simp only [St.absz,M0] at hv;obtain ⟨u,hu,rfl⟩:=a1y.1 hv;obtain ⟨k1,k2⟩:=h.slots i u hu;exact ⟨by rw [RV.absz_den rfl]; exact k1,RV.absz_wf u k2⟩
 ·intro i g pol b' x hv;simp only [St.absz,M0] at hv ⊢;obtain ⟨u,hu,kz⟩:=a1y.1 hv;cases u with
  | grd g' pol' b'' x' =>
   simp only [RV.absz,RV.grd.injEq] at kz;obtain ⟨rfl,rfl,rfl,rfl⟩:=kz;obtain ⟨k1,k2⟩:=h.grds i _ _ _ _ hu;exact ⟨k1,by rw [k2]; rfl⟩
  | v x=>cases kz
  | tup x=>cases kz
 ·intro b' blk hb;simp only [St.absz,M0] at hb;obtain ⟨u,hu,rfl⟩:=a1y.1 hb;obtain ⟨k1,k2,k3,k4⟩:=h.heap b' u hu;refine ⟨k1,?_,?_,k4⟩
  ·have:(u.cells.map (SV.absz b (ρ b))).map (a4m ρ)=u.cells.map (a4m ρ):=by rw [a3q]; exact a2g λx _=>SV.absz_den rfl x
   simp only [this]; exact k2
  ·intro x hx; obtain ⟨y,hy,rfl⟩:=a1d.1 hx; exact SV.absz_wf y (k3 y hy)
def cG:List (Nat×RV)->List Nat
 | []=>[]
 | (k,v)::l=>match v with
  | .grd _ _ _ _=>cG l
  | _=>k::cG l
def kR (b:Nat) (hp:List (Nat×Blk)):Nat->Nat->List Nat
 | 0,_=>[]
 | n+1,i=>match a1m b i with
  | true=>kR b hp n (i+1)
  | false=>match look hp i with
   | some _=>i::kR b hp n (i+1)
   | none=>kR b hp n (i+1)
theorem mT {b:Nat} {hp:List (Nat×Blk)}:∀ {n i x:Nat},x∈kR b hp n i->x≠b/\x<i+n
 | 0,i,x,h=>by simp [kR] at h
 | n+1,i,x,h=>by
  simp only [kR] at h;split at h
  ·obtain ⟨h1,h2⟩:=mT h; exact ⟨h1,by omega⟩
  ·rename_i e;split at h
   ·rcases a0k.1 h with rfl | h
    ·exact ⟨λe'=>C5 e e'.symm,by omega⟩
    ·obtain ⟨h1,h2⟩:=mT h; exact ⟨h1,by omega⟩
   ·obtain ⟨h1,h2⟩:=mT h; exact ⟨h1,by omega⟩
def vc:List (Nat×Row)->List Nat
 | []=>[]
 | (k,_)::l=>k::vc l
def ju:List m6->List Bool
 | []=>[]
 | _::l=>true::ju l
def absB (b g:Nat) (s:St):Option St:=o8 (cG s.slots) (kR b s.heap s.next 0) (vc s.rows) (ju s.pers) (s.absz b g)
def bp (b g:Nat) (s:St):St:=(absB b g s).getD s
theorem Sat.absB (h:Sat C ρ s a w) {b:Nat} (hb:b<s.next) (hp:(SX.absB b (ρ b) s).isSome=true) :
  ∃ ρ',Sat C ρ' (bp b (ρ b) s) a w/\(∀ c,c<(bp b (ρ b) s).next->ρ' c≠ρ b)/\(∀ r R,look (bp b (ρ b) s).rows r=some R->∃ r',look s.rows r'=some R)/\∀ p∈(bp b (ρ b) s).pers,p∈s.pers:=by
 obtain ⟨s',N6⟩:=a2o.1 hp;have e:bp b (ρ b) s=s':=by unfold bp; rw [N6]; rfl
 rw [e];refine ⟨_,(h.absz b).pick N6,?_,?_,?_⟩
 ·intro c hc e';have G0:o8 (cG s.slots) (kR b s.heap s.next 0) (vc s.rows) (ju s.pers) (s.absz b (ρ b))=some s':=N6;unfold o8 at G0;split at G0
  case h_2=>cases G0
  cases G0;have mD:c<(kR b s.heap s.next 0).length:=hc;have hm:(kR b s.heap s.next 0).getD c 0∈kR b s.heap s.next 0:=by
   rw [a0r,a0b mD];exact List.getElem_mem mD
  obtain ⟨h1,h2⟩:=mT hm;exact h1 (h.inj _ _ (by omega) hb e')
 ·intro r R hR;have G0:o8 (cG s.slots) (kR b s.heap s.next 0) (vc s.rows) (ju s.pers) (s.absz b (ρ b))=some s':=N6;unfold o8 at G0;split at G0
  case h_2=>cases G0
  rename_i sl eR rows Qt QU rT rW r7;cases G0;obtain ⟨r2,_,_,h3⟩:=p7 r7 r R hR;exact ⟨r2,h3⟩
 ·intro p Rc;have G0:o8 (cG s.slots) (kR b s.heap s.next 0) (vc s.rows) (ju s.pers) (s.absz b (ρ b))=some s':=N6;unfold o8 at G0;split at G0
  case h_2=>cases G0
  cases G0;exact aE _ _ p Rc
theorem V.absB (b:Nat) (blk:Blk) {c:Cfg} (hb:look c.st.heap b=some blk) (M3:(blk.cells.all F2&&blk.rw)=true) (hp:∀ g,(SX.absB b g c.st).isSome=true)
  (h:∀ g,V C ⟨c.todo,{ bp b g c.st with pers:=P7 C.w0.heap.size C.S (r9 g blk.cells blk.elem)::(bp b g c.st).pers }⟩):V C c:=by
 intro ρ a w hS;rw [a0g] at M3;obtain ⟨k1,k2,k3,k4⟩:=hS.heap b blk hb;obtain ⟨ρ',h1,h2,h3,h5⟩:=hS.absB k1 (hp (ρ b));refine h (ρ b) ρ' a w ⟨h1.n,h1.slots,h1.grds,h1.heap,h1.inj,h1.lt,h1.defers,h1.chg,h1.rows,h1.rowsD,?_,h1.fix⟩;intro p ko;rcases a0k.1 ko with rfl | ko
 ·have hφ:w.heap[ρ b]?=some (.cells (blk.cells.map a3n).toArray blk.elem (0,0)):=by
   rw [k2];have:blk.cells.map (a4m ρ)=blk.cells.map a3n:=a2g λy hy=>J0 (P6 (a0y.1 M3.1 y hy)) _;simp only [this]
  have Z8:∀ k,(r9 (ρ b) blk.cells blk.elem).D k->C.w0.heap.size<=k∨C.S k:=λk hk=>by
   have e:k=ρ b:=hk;subst e; exact k4 M3.2
  refine ⟨⟨hφ,Z8⟩,λw2 bY=>⟨(bY _ rfl).trans hφ,Z8⟩,λk hk=>?_⟩;have e:k=ρ b:=hk;subst e;refine ⟨hS.lt b k1,h2,λr R hR ho hu=>?_⟩;obtain ⟨r',eQ⟩:=h3 r R hR;exact ((hS.rows r' R eQ).2.2 _ hu).2.1 b k1 rfl
 ·exact h1.pers p ko
theorem oD {α:Type} (l:List α) (d:α):(a2f l.length).map (λi=>l.getD i d)=l:=by
 apply List.ext_getElem?;intro i;rw [a2t];by_cases hi:i<l.length
 ·rw [List.getElem?_range hi,a2u,a0r,a0b hi]; rfl
 ·rw [a6e (by simp; omega),a6e (by omega)]; rfl
theorem qZ {α:Type} (f:α->List SV) (d:α) (l:List α) (q:Option Addr) (cap:Nat) (e:TypeId) (sz:Nat) (own:Bool):(d5 f d l q cap e sz own).flat=(l.flatMap f).map a3n:=by
 show (a2f l.length).flatMap (λi=>(f (l.getD i d)).map a3n)=_
 conv=>rhs; rw [<- oD l d]
 rw [List.flatMap_map,List.map_flatMap]
theorem zg {α:Type} {f:α->List SV} {sz:Nat} (hf:∀ x,(f x).length=sz) (d:α):∀ {l:List α} {i j:Nat},i<l.length->j<sz->(l.flatMap f)[i*sz+j]?=(f (l.getD i d))[j]?
 | x::l,0,j,_,hj=>by
  rw [a2z,a6x (by rw [hf]; omega)];simp
 | x::l,i+1,j,hi,hj=>by
  rw [a2z,a6o (by rw [hf,Nat.succ_mul]; omega),hf];rw [show (i+1)*sz+j - sz=i*sz+j by rw [Nat.succ_mul]; omega];rw [zg hf d (by simpa using hi) hj];simp
theorem jv {α:Type} {f:α->List SV} {sz:Nat} (hf:∀ x,(f x).length=sz):∀ l:List α,(l.flatMap f).length=l.length*sz
 | []=>by simp
 | x::l=>by rw [a2z,List.length_append,hf,jv hf l,a0p,Nat.succ_mul]; omega
theorem zh {α:Type} {w:World} {g:Nat} {f:α->List SV} {d:α} {l:List α} {e:TypeId} {sz:Nat} {own:Bool} (hg:w.heap[g]?=some (.cells ((l.flatMap f).map a3n).toArray e (0,0))) (hf:∀ x,(f x).length=sz)
  (M3:∀ x,∀ y∈f x,y.plain) (hm:l.length<=maxLen):(d5 f d l (some ⟨g,0,none⟩) l.length e sz own).ok w:=by
 have C8:((l.flatMap f).map a3n).length=l.length*sz:=by rw [List.length_map,jv hf]
 refine ⟨λi hi=>⟨hf _,M3 _⟩,λhp=>⟨g,0,rfl,λi j x hi hx=>?_⟩,λ_ _=>⟨by rw [qZ]; exact C8,.inr ⟨g,l.length,_,rfl,a0s _,hg,a0q _,hm,(by show ((l.flatMap f).map a3n).toArray.size=l.length*sz; rw [List.size_toArray]; exact C8),?_⟩⟩,λo ho=>(by cases ho)⟩
 ·have ao:i<l.length:=hi;have qa:(f (l.getD i d))[j]?=some x:=hx;have hj:j<sz:=by
   rw [<- hf (l.getD i d)];exact (a2l.1 qa).1
  rw [a4i hg];show ((l.flatMap f).map a3n).toArray[0+(i*sz+j)]?=_;rw [Nat.zero_add,List.getElem?_toArray,a2t,zg hf d ao hj,qa];rfl
 ·rw [qZ];simp only [d5];rw [<- C8];exact List.take_length
theorem mc {α:Type} {f:α->List SV} {d:α} {l:List α} {g:Nat} {e:TypeId} {sz:Nat} (hf:∀ x,(f x).length=sz) (M3:∀ x,∀ y∈f x,y.plain) (hm:l.length<=maxLen) (w:World) (h:(r9 g (l.flatMap f) e).φ w) :
  (e8 (d5 f d l (some ⟨g,0,none⟩) l.length e sz false)).φ w:=zh h hf M3 hm
theorem oE {α:Type} (f:α->List SV) (d:α) (l:List α) (e:TypeId) (sz:Nat) (b:Nat) {c:Cfg} (hb:look c.st.heap b=some ⟨l.flatMap f,e,true⟩) (hf:∀ x,(f x).length=sz) (M3:∀ x,∀ y∈f x,y.plain) (hm:l.length<=maxLen) (hp:∀ g,(SX.absB b g c.st).isSome=true)
  (h:∀ g,V C ⟨c.todo,{ bp b g c.st with rows:=((bp b g c.st).nr,d5 f d l (some ⟨g,0,none⟩) l.length e sz true)::(bp b g c.st).rows,nr:=(bp b g c.st).nr+1 }⟩):V C c:=by
 intro ρ a w hS;obtain ⟨k1,k2,k3,k4⟩:=hS.heap b _ hb;obtain ⟨ρ',h1,h2,h3,h5⟩:=hS.absB k1 (hp (ρ b));have hφ:w.heap[ρ b]?=some (.cells ((l.flatMap f).map a3n).toArray e (0,0)):=by
  rw [k2];have:(l.flatMap f).map (a4m ρ)=(l.flatMap f).map a3n:=a2g λy hy=>by
   obtain ⟨x,_,hx⟩:=List.mem_flatMap.1 hy;exact J0 (M3 x y hx) _
  simp only [this]
 have VR:∀ r R,look (bp b (ρ b) c.st).rows r=some R->¬ R.uses (ρ b):=λr R hR hu=>by
  obtain ⟨r',eQ⟩:=h3 r R hR;exact ((hS.rows r' R eQ).2.2 _ hu).2.1 b k1 rfl
 have U3:∀ k,(d5 f d l (some ⟨ρ b,0,none⟩) l.length e sz true).uses k->k=ρ b:=by
  rintro k ⟨ad,h1,h2,_⟩;cases h1; exact h2.symm
 have fT:∀ r R,look (((bp b (ρ b) c.st).nr,d5 f d l (some ⟨ρ b,0,none⟩) l.length e sz true)::(bp b (ρ b) c.st).rows) r=some R ->
   (r=(bp b (ρ b) c.st).nr/\R=d5 f d l (some ⟨ρ b,0,none⟩) l.length e sz true)∨look (bp b (ρ b) c.st).rows r=some R:=by
  intro r R hR;simp only [look] at hR;split at hR
  ·rename_i e; cases hR; exact .inl ⟨((d6 _ _).1 e).symm,rfl⟩
  ·exact .inr hR
 have B0:(bp b (ρ b) c.st).W.le ({ bp b (ρ b) c.st with rows:=((bp b (ρ b) c.st).nr,d5 f d l (some ⟨ρ b,0,none⟩) l.length e sz true)::(bp b (ρ b) c.st).rows,nr:=(bp b (ρ b) c.st).nr+1 }:St).W :=
  ⟨a0q _,a4l _,λq hq Q hQ=>by
   rcases fT q Q hQ with ⟨e,_⟩ | h4
   ·have lM:q<(bp b (ρ b) c.st).nr:=hq;omega
   ·exact h4⟩
 refine h (ρ b) ρ' a w ⟨h1.n,λi v hv=>⟨(h1.slots i v hv).1,RV.wf_mono B0 v (h1.slots i v hv).2⟩,h1.grds,?_,h1.inj,h1.lt,h1.defers,h1.chg,?_,?_,?_,h1.fix⟩
 ·intro b' blk B8;obtain ⟨q1,q2,q3,q4⟩:=h1.heap b' blk B8;exact ⟨q1,q2,λx hx=>SV.wf_mono B0 x (q3 x hx),q4⟩
 ·intro r R hR;rcases fT r R hR with ⟨rfl,rfl⟩ | h4
  ·refine ⟨a3p _,zh hφ hf M3 hm,λk hk=>?_⟩;rw [U3 k hk];exact ⟨hS.lt b k1,h2,λ_=>k4 rfl⟩
  ·obtain ⟨q1,q2,q3⟩:=h1.rows r R h4;exact ⟨Nat.lt_succ_of_lt q1,q2,q3⟩
 ·intro r r' R R' hR G8 E0 ho k hk eD;rcases fT r R hR with ⟨rfl,rfl⟩ | h4<;>rcases fT r' R' G8 with ⟨rfl,rfl⟩ | h6
  ·exact E0 rfl
  ·rw [U3 k hk] at eD; exact VR _ _ h6 eD
  ·rw [U3 k eD] at hk; exact VR _ _ h4 hk
  ·exact h1.rowsD r r' R R' h4 h6 E0 ho k hk eD
 ·intro p ko;obtain ⟨p1,p2,p3⟩:=h1.pers p ko;refine ⟨p1,p2,λk hD=>⟨(p3 k hD).1,(p3 k hD).2.1,λr R hR ho hu=>?_⟩⟩;rcases fT r R hR with ⟨rfl,rfl⟩ | h4
  ·rw [U3 k hu] at hD;exact ((hS.pers p (h5 p ko)).2.2 _ hD).2.1 b k1 rfl
  ·exact (p3 k hD).2.2 r R h4 ho hu
end
end Go.SX
end
section
namespace Go.SX
open Go
def Drv (ps:List m6) (q:m6):Prop:=dE q/\∃ p∈ps,(∀ k,q.D k->p.D k)/\∀ w,p.φ w->q.φ w
theorem vd {ps:List m6} {q:m6} (hs:dE q) (h:q∈ps):Drv ps q:=⟨hs,q,h,λ_ h=>h,λ_ h=>h⟩
theorem Df {ps l:List m6} {q:m6} (hs:dE q) (hl:L0 l∈ps) (h:q∈l):Drv ps q:=⟨hs,L0 l,hl,λk hk=>⟨q,h,hk⟩,λw hw=>hw q h⟩
theorem CallsK.pers {α:Type} {P:Program} {f:FuncId} {ys:List CV} {F:St} {p:α->Prop} {v:α->RV} {F':α->St} (h:CallsK P f ys F p v F') (ps:List m6) (hd:∀ q∈F.pers,Drv ps q) :
  CallsK P f ys { F with pers:=ps } p v F':=by
 intro ρ w hF;have Nt:x6 ρ F w:=x6.withPers (s':={ F with pers:=ps }) hF rfl (λq hq=>by
  obtain ⟨hs,p,hp,h1,h2⟩:=hd q hq;obtain ⟨a1,a2,a3⟩:=hF.pers p hp;exact ⟨h2 w a1,λw' pU=>hs w w' pU (h2 w a1),λk hk=>a3 k (h1 k hk)⟩)
 exact h ρ w Nt
theorem m5 {α β:Type} {P:Program} {f:FuncId} {ys:List CV} {F:St} {p:α->Prop} {v:α->RV} {F':α->St} (h:CallsK P f ys F p v F') {p':β->Prop} {v':β->RV} {F'':β->St}
  (g:∀ x,p x->∃ y,p' y/\v' y=v x/\F'' y=F' x):CallsK P f ys F p' v' F'':=by
 intro ρ w hF;refine (h ρ w hF).mono ?_;rintro e w' ⟨x,ρ',hx,h⟩;obtain ⟨y,hy,e1,e2⟩:=g x hx;refine ⟨y,ρ',hy,?_⟩;rw [e1,e2];exact h
def stP (ps:List m6):St:={ n:=0,slots:=[],gs:=[],heap:=[],next:=0,rows:=[],nr:=0,pers:=ps,wr:=false }
theorem fk {P:Program} {f:FuncId} {ys:List CV} {ps:List m6} {v:RV} (hv:io v=true) (h:∀ (ρ:Nat->Nat) (w:World),C9 ps w->Calls P f (ys.map (a2a ρ)).toArray w (u6 (v.den ρ) w)) :
  CallsK P f ys (stP ps) (λ_:Unit=>True) (λ_=>v) (λ_=>stP []):=by
 intro ρ w hF;refine (h ρ w (λp hp=>by obtain ⟨a,b,c⟩:=hF.pers p hp; exact ⟨a,b,λk hk=>(c k hk).1⟩)).mono ?_;rintro e w' ⟨rfl,hc⟩;exact ⟨(),ρ,trivial,rfl,λ_ _=>rfl,a0q _,λb h1 h2=>absurd h2 (a0x b),
    ⟨λb blk hb=>(by cases hb),λb c hb=>absurd hb (a0x b),λb hb=>absurd hb (a0x b),λr R hR=>(by cases hR),λr r' R R' hR=>(by cases hR),λp hp=>(by cases hp)⟩,
    λb hb=>absurd hb (a0x b),(qF hv _).1,hc.mono (λ_ h=>h.elim),λb blk hb=>absurd hb (a0x b),λr R hR=>(by cases hR),λp hp=>(by cases hp)⟩
section
variable {C:Ctx}
theorem Ld {p:Prop} {c:Cfg} (h:∀ ρ a w,Sat C ρ c.st a w->p) (k:p->V C c):V C c:=fun ρ a w hS=>k (h ρ a w hS) ρ a w hS
theorem V.callL {α:Type} {f:FuncId} {ys:List CV} {F:St} {p:α->Prop} {v:α->RV} {F':α->St} {c:Cfg} (pi:List (Nat×Bool)) (hs rs:List Nat) (hk:CallsK C.P f ys F p v F')
  (hb:D6 C.P f=true) (hc:aq c=some (f,ys,r8 F)) (hh:fe c=(hs,rs)) (kw:bi pi c.st.pers=some (bB C.w0.heap.size C.S pi F.pers))
  (hu:∀ x,(L8 (F' x).heap&&(ngB (v x)&&(j5 c (c.st.bringK hs rs 0 (λ_=>False) (F' x)) ((v x).bring (H5 hs c.st.next (F' x).next) c.st.nr)).isSome))=true)
  (k:∀ x,p x->V C (u0 c (c.st.bringK hs rs C.w0.heap.size C.S (F' x)) ((v x).bring (H5 hs c.st.next (F' x).next) c.st.nr))):V C c:=by
 refine V.callK pi hk hb hc kw (λx=>?_) (λx hx=>?_)
 ·unfold okK; rw [hh]; exact hu x
 ·unfold bP; rw [hh]; exact k x hx
end
end Go.SX
end
section
namespace Go.SX
open Go
open Go.ChangeMaps (setBlock)
section
variable {C:Ctx} {T TR:List Nat} {L:Nat} {c0:Cfg} {d:u7}
theorem VX.insert (t kt et:TypeId) (kd:TypeDesc) (g r:Nat) (kv xv:CV) (key val:Value) (es:Array MapEntry) (clock:Nat) (U2:(iB c0 d).map (λx=>(x.1,x.2.dst))=some (L,none)) (hc:yP (atX c0 d)=some (t,g,kv,xv))
  (ht:C.P.underlying t=some (.map kt et)) (hk:C.P.underlying kt=some kd) (Cf:du kd=true) (hr:look d.st.rows r=some (G3 g (.map es clock)))
  (Nr:∀ ρ,kv.den ρ=key) (Ql:∀ ρ,xv.den ρ=val) (hf:Instr.findNow kd key es.toList 0=some none)
  (he:(Region.ready .any (G1 c0) (d.listed.setIfInBounds L true)).isEmpty=true)
  (h:V C ⟨dK c0,d.st.setObj r g (.map (es.push { key:=key,val:=val,born:=clock }) (clock+1))⟩):VX C T TR L c0 d:=by
 intro D hD a1 a2 a3 a4 a5 a6 hL D4 aT aTR e9 A9 ρ a w hS hρ ib N5 U4 C8;cases hx:iB c0 d with
 | none=>rw [hx] at U2; cases U2
 | some p =>
  obtain ⟨i,o⟩:=p;rw [hx] at U2;simp only [a2u,a0l,a1f] at U2;obtain ⟨rfl,hd⟩:=U2;obtain ⟨C3,⟨n,Ro⟩,ho⟩:=dC hx;unfold yP at hc;split at hc
  case h_2=>cases hc
  rename_i op f7;split at hc
  case h_2=>cases hc
  rename_i t' m k' x pW;split at hc
  case h_2=>cases hc
  rename_i g' kv' xv' hm eD qa;cases hc;unfold V1 atX at f7;simp only [C3,ho] at f7;split at f7
  case h_2=>cases f7
  rename_i hg;have VB:=a2h f7;obtain ⟨e1,_⟩:=d7 hS.toP (j9 d.st) hm;obtain ⟨e2,_⟩:=d7 hS.toP (j9 d.st) eD;obtain ⟨e3,_⟩:=d7 hS.toP (j9 d.st) qa;have F1:=gY (P:=C.P) (v:=val) ht hk Cf (hS.obj hr) hf;have Ax:(execOp a.eval o).run C.P w=.ok .skip (setBlock w g (.map (es.push { key:=key,val:=val,born:=clock }) (clock+1))):=by
   unfold CC at pW;unfold execOp;rw [VB];split at pW
   ·cases pW;simp only [e1,e2,e3,Nr,Ql];have:a2a ρ (.one (.val (.map (some g))))=.map (some g):=rfl;rw [this,a1n,F1];rfl
   ·cases pW;simp only [e1,e2,e3,Nr,Ql];have:a2a ρ (.one (.val (.map (some g))))=.map (some g):=rfl;rw [this,a1n,F1];rfl
   ·cases pW
  rw [Ro];refine E2 C3 (by simp) (λj hj=>?_);have JB:j=i:=by simpa using hj
  unfold wpOp;simp only [JB,ho,D5 hS hg,if_true];refine .inl ?_;unfold Oper.wp;rw [Ax];refine ⟨λE0=>absurd a4.symm E0,?_⟩;rw [hd];exact eX (by simpa using he) (h ρ a _ (hS.setObj hr _)) n
def jw (P:Program) (T:List Nat) (c0:Cfg) (d:u7) (i:Nat):Option u7 :=
 match (G1 c0)[i]? with
 | some o=>match L7 d.st (G1 c0) o.guard,Y5 P d.st none o.op,o.dst,nG d.st none o.op with
  | .yes,some s1,none,some b=>match p5 T b,a4t b c0.st.next with
   | true,true=>some ⟨d.fuel - 1,d.listed.setIfInBounds i true,s1⟩
   | _,_=>none
  | _,_,_,_=>none
 | none=>none
def oF (P:Program) (T:List Nat) (c0:Cfg) (d:u7) (i:Nat):u7:=(jw P T c0 d i).getD d
theorem AU {P:Program} {s s1:St} {gc:Option (Nat×Bool)} {op:Op} (h:Y5 P s gc op=some s1):s1.W=s.W:=by
 unfold Y5 at h;split at h
 case h_2=>cases h
 split at h
 case h_2=>cases h
 split at h
 case h_2=>cases h
 split at h
 case h_2=>cases h
 cases h;rfl
theorem AV (rs:List Nat) (E0:rs≠[]) (hr:Region.ready .any (G1 c0) d.listed=rs) (hf:a4t 0 d.fuel=true) (q7:∀ m∈rs,(jw C.P T c0 d m).isSome=true/\VX C T TR L c0 (oF C.P T c0 d m)):VX C T TR L c0 d:=by
 intro D hD a1 a2 a3 a4 a5 a6 hL D4 aT aTR e9 A9 ρ a w hS hρ ib N5 U4 C8;obtain ⟨n,dc⟩:∃ n,d.fuel=n+1:=⟨d.fuel - 1,by have:=X1 hf; omega⟩;have one:∀ m,m∈rs->(jw C.P T c0 d m).isSome=true->VX C T TR L c0 (oF C.P T c0 d m) ->
   wpOp C.P (G1 c0) (Qd C (dK c0)) m (λa' w'=>(m≠D.L->Chg D.TS D.ws w')/\dk C.P (G1 c0) (Qd C (dK c0)) (Chg D.TS D.ws) D.L n (d.listed.setIfInBounds m true) a' w') a w:=by
  intro m hm hs hk;obtain ⟨d2,N4⟩:=a2o.1 hs;have hY:oF C.P T c0 d m=d2:=by unfold oF; rw [N4]; rfl
  rw [hY] at hk;unfold jw at N4;split at N4
  case h_2=>cases N4
  rename_i o ho;split at N4
  case h_2=>cases N4
  rename_i s1 b hg F9 Vl ug;split at N4
  case h_2=>cases N4
  rename_i hT hb;cases N4;have B8:=X1 hb;obtain ⟨b',w2,e0,e1,e2,e3,e4,e5⟩:=ca hS (j9 d.st) o F9;rw [ug] at e0;cases e0;have Xn:b<D.n0:=by rw [a2]; exact B8
  have QP:D.TS (D.ρ0 b):=aT b ((w9 _ _).1 hT) B8;have fR:Chg D.TS D.ws w2:=N5.trans e4 (λi hi=>.inr (by rw [hi,hρ b Xn]; exact QP));have hW:=AU F9;have J7:D.rows s1:=⟨λr R hR=>by rw [show s1.rows=d.st.rows from congrArg WF.rows hW]; exact A9.1 r R hR,by rw [hW]; exact A9.2⟩;unfold wpOp;simp only [ho,D5 hS hg,if_true];refine .inl ?_;unfold Oper.wp;rw [e2];have:=hk D hD a1 a2 a3 a4 a5 a6 hL D4 aT aTR e9 J7 ρ a w2 e3 hρ (by show D.n0<=s1.next; rw [e5]; exact ib) fR (U4.set (by rw [hr]; exact hm)) (by simpa using C8);simp only [dc,a3x] at this;refine ⟨λ_=>fR,?_⟩;rw [Vl];exact this
 rw [dc];exact E2 hr E0 (λm fS=>one m fS (q7 m fS).1 (q7 m fS).2)
theorem VX.store (i:Nat) (hr:Region.ready .any (G1 c0) d.listed=[i]) (hf:a4t 0 d.fuel=true) (hi:(jw C.P T c0 d i).isSome=true) (h1:VX C T TR L c0 (oF C.P T c0 d i)):VX C T TR L c0 d :=
 AV [i] (by simp) hr hf (λm hm=>by rw [a0d.1 hm]; exact ⟨hi,h1⟩)
end
end Go.SX
end
section
namespace Go.Proofs
open Go.Shelf
def Tryz.lays156_ren : Go.Shelf.Ren:=⟨λ| 156=>121 | 165=>237 | 166=>75 | 169=>76 | 240=>146 | 241=>284 | 276=>249 | 277=>301 | n=>n,λ| 31=>118 | 9=>9 | 3=>3 | 4=>4 | 0=>0 | 20=>20 | 72=>137 | 76=>140 | 70=>135 | 37=>97 | 75=>139 | 127=>199 | 164=>239 | 5=>5 | 80=>142 | n=>n,λ| n=>n⟩
theorem Tryz.lays156 : Go.Proofs.Lays.n156 a0a Tryz.lays156_ren:={
  mixed:=kq
  f156:=Tryz.func121.trans (congrArg some kq)
  f165:=Tryz.func237.trans (congrArg some kq)
  f166:=Tryz.func75.trans (congrArg some kq)
  f169:=Tryz.func76.trans (congrArg some kq)
  f240:=Tryz.func146.trans (congrArg some kq)
  f241:=Tryz.func284.trans (congrArg some kq)
  f276:=Tryz.func249.trans (congrArg some kq)
  f277:=Tryz.func301.trans (congrArg some kq)
  t0:=a5n
  a0:=Tryz.isAgg0
  z0:=Tryz.sizeOf0
  v0:=a6b
  t3:=a3g
  a3:=a5o
  z3:=a5c
  v3:=a4c
  t4:=a3r
  a4:=a5p
  z4:=a5d
  v4:=a4d
  t9:=a4f
  a9:=a6h
  z9:=a5s
  v9:=a4k
  t20:=Tryz.underlying20
  a20:=Tryz.isAgg20
  z20:=Tryz.sizeOf20
  v20:=Tryz.zeroValue20
  t31:=Tryz.underlying118
  a31:=Tryz.isAgg118
  z31:=Tryz.sizeOf118
  v31:=Tryz.zeroValue118
  t37:=Tryz.underlying97
  a37:=Tryz.isAgg97
  z37:=Tryz.sizeOf97
  v37:=Tryz.zeroValue97
  t70:=Tryz.underlying135
  a70:=Tryz.isAgg135
  z70:=Tryz.sizeOf135
  v70:=Tryz.zeroValue135
  t72:=Tryz.underlying137
  a72:=Tryz.isAgg137
  z72:=Tryz.sizeOf137
  v72:=Tryz.zeroValue137
  t75:=Tryz.underlying139
  a75:=Tryz.isAgg139
  z75:=Tryz.sizeOf139
  v75:=Tryz.zeroValue139
  t76:=Tryz.underlying140
  a76:=Tryz.isAgg140
  z76:=Tryz.sizeOf140
  v76:=Tryz.zeroValue140
  t127:=Tryz.underlying199
  a127:=Tryz.isAgg199
  z127:=Tryz.sizeOf199
  v127:=Tryz.zeroValue199
  t164:=Tryz.underlying239
  a164:=Tryz.isAgg239
  z164:=Tryz.sizeOf239
  v164:=Tryz.zeroValue239 }
theorem Tryz.Builder_Extra_156 : Builder.Extra a0a Tryz.lays156_ren:={
  sizeBuilder:=kq
  liesBuilder:=kq
  t5:=a4v
  a5:=Tryz.isAgg5
  z5:=a6v
  v5:=a5h
  infoByte:=kq
  cellsByte:=kq
  sizeByte:=kq
  neB5:=by decide }
open Go.RowKit in
theorem Tryz.strings_Join_none (a : Option Addr) (c : Nat) (sep : ByteArray) (w : World) :
    Calls a0a 121 #[.slice a 0 c,.string sep] w λe w'=>e = .returned (.string ⟨#[]⟩) /\ w' = w:=Any.strings_Join_none Tryz.lays156 Tryz.Builder_Extra_156 a c sep w
open Go.RowKit in
theorem Tryz.strings_Join (bk o c : Nat) (xs : List ByteArray) (sep : ByteArray) (w : World) (cu : ∀ (j : Nat) x,xs[j]? = some x -> w.cell? ⟨bk,o + j,none⟩ = some (.string x)) (pV : bk < w.heap.size) (hN : xs.length <= 140737488355328) (eN : xs.length <= c) (n8 : (Lib.join (xs.map (·.data.toList)) sep.data.toList).length <= 140737488355328) :
    Calls a0a 121 #[.slice (some ⟨bk,o,none⟩) xs.length c,.string sep] w λe w'=>e = .returned (.string ⟨(Lib.join (xs.map (·.data.toList)) sep.data.toList).toArray⟩) /\ Below w.heap.size w w':=Any.strings_Join Tryz.lays156 Tryz.Builder_Extra_156 bk o c xs sep w cu pV hN eN n8
def Tryz.lays103_ren : Go.Shelf.Ren:=⟨λ| 103=>219 | 210=>280 | 206=>68 | n=>n,λ| 9=>9 | 4=>4 | 24=>208 | 3=>3 | n=>n,λ| n=>n⟩
theorem Tryz.lays103 : Go.Proofs.Lays.n103 a0a Tryz.lays103_ren:={
  mixed:=kq
  f103:=Tryz.func219.trans (congrArg some kq)
  f206:=Tryz.func68.trans (congrArg some kq)
  f210:=Tryz.func280.trans (congrArg some kq)
  t3:=a3g
  a3:=a5o
  z3:=a5c
  v3:=a4c
  t4:=a3r
  a4:=a5p
  z4:=a5d
  v4:=a4d
  t9:=a4f
  a9:=a6h
  z9:=a5s
  v9:=a4k
  t24:=Tryz.underlying208
  a24:=Tryz.isAgg208
  z24:=Tryz.sizeOf208
  v24:=Tryz.zeroValue208 }
open Go.RowKit in
theorem Tryz.strings_CutPrefix (s p : ByteArray) (w : World) :
    Calls a0a 219 #[.string s,.string p] w λe w'=>e = .returned (.tuple #[.string ⟨(a0o s.data.toList p.data.toList).toArray⟩,.bool (Lib.hasPrefix s.data.toList p.data.toList)]) /\ w' = w:=Any.strings_CutPrefix Tryz.lays103 s p w
def Tryz.lays104_ren : Go.Shelf.Ren:=⟨λ| 104=>267 | 211=>298 | 207=>320 | n=>n,λ| 9=>9 | 4=>4 | 24=>208 | 3=>3 | n=>n,λ| n=>n⟩
theorem Tryz.lays104 : Go.Proofs.Lays.n104 a0a Tryz.lays104_ren:={
  mixed:=kq
  f104:=Tryz.func267.trans (congrArg some kq)
  f207:=Tryz.func320.trans (congrArg some kq)
  f211:=Tryz.func298.trans (congrArg some kq)
  t3:=a3g
  a3:=a5o
  z3:=a5c
  v3:=a4c
  t4:=a3r
  a4:=a5p
  z4:=a5d
  v4:=a4d
  t9:=a4f
  a9:=a6h
  z9:=a5s
  v9:=a4k
  t24:=Tryz.underlying208
  a24:=Tryz.isAgg208
  z24:=Tryz.sizeOf208
  v24:=Tryz.zeroValue208 }
open Go.RowKit in
theorem Tryz.strings_CutSuffix (s p : ByteArray) (w : World) (hs : s.size <= 9223372036854775807) :
    Calls a0a 267 #[.string s,.string p] w λe w'=>e = .returned (.tuple #[.string ⟨(Lib.trimSuffix s.data.toList p.data.toList).toArray⟩,.bool (Lib.hasSuffix s.data.toList p.data.toList)]) /\ w' = w:=Any.strings_CutSuffix Tryz.lays104 s p w hs
def Tryz.laysM171_ren : Go.Shelf.Ren:=⟨λ| 171=>123 | 243=>238 | 246=>285 | 283=>302 | 284=>303 | 285=>304 | 286=>305 | 129=>322 | 317=>321 | 318=>323 | 319=>324 | 320=>325 | 337=>331 | 338=>332 | n=>n,λ| 3=>3 | 9=>9 | 2=>2 | 4=>4 | 171=>278 | 0=>0 | 53=>106 | 37=>97 | 5=>5 | 173=>280 | 212=>296 | 51=>256 | 20=>20 | 213=>297 | 46=>236 | 232=>316 | 233=>317 | n=>n,λ| 17=>3 | 18=>9 | 19=>10 | n=>n⟩
theorem Tryz.laysM171 : Go.Proofs.LaysM.n171 a0a Tryz.laysM171_ren:={
  mixed:=kq
  f129:=Tryz.func322.trans (congrArg some kq)
  f171:=Tryz.func123.trans (congrArg some kq)
  f243:=Tryz.func238.trans (congrArg some kq)
  f246:=Tryz.func285.trans (congrArg some kq)
  f283:=Tryz.func302.trans (congrArg some kq)
  f284:=Tryz.func303.trans (congrArg some kq)
  f285:=Tryz.func304.trans (congrArg some kq)
  f286:=Tryz.func305.trans (congrArg some kq)
  f317:=Tryz.func321.trans (congrArg some kq)
  f318:=Tryz.func323.trans (congrArg some kq)
  f319:=Tryz.func324.trans (congrArg some kq)
  f320:=Tryz.func325.trans (congrArg some kq)
  f337:=Tryz.func331.trans (congrArg some kq)
  f338:=Tryz.func332.trans (congrArg some kq)
  t0:=a5n
  a0:=Tryz.isAgg0
  z0:=Tryz.sizeOf0
  v0:=a6b
  t2:=Tryz.underlying2
  a2:=Tryz.isAgg2
  z2:=Tryz.sizeOf2
  v2:=Tryz.zeroValue2
  t3:=a3g
  a3:=a5o
  z3:=a5c
  v3:=a4c
  t4:=a3r
  a4:=a5p
  z4:=a5d
  v4:=a4d
  t5:=a4v
  a5:=Tryz.isAgg5
  z5:=a6v
  v5:=a5h
  t9:=a4f
  a9:=a6h
  z9:=a5s
  v9:=a4k
  t20:=Tryz.underlying20
  a20:=Tryz.isAgg20
  z20:=Tryz.sizeOf20
  v20:=Tryz.zeroValue20
  t37:=Tryz.underlying97
  a37:=Tryz.isAgg97
  z37:=Tryz.sizeOf97
  v37:=Tryz.zeroValue97
  t46:=a4z
  a46:=Tryz.isAgg236
  z46:=a6p
  v46:=a5j
  t51:=a5v
  a51:=Tryz.isAgg256
  z51:=Tryz.sizeOf256
  v51:=a6i
  t53:=Tryz.underlying106
  a53:=Tryz.isAgg106
  z53:=Tryz.sizeOf106
  v53:=Tryz.zeroValue106
  t171:=Tryz.underlying278
  a171:=Tryz.isAgg278
  z171:=Tryz.sizeOf278
  v171:=Tryz.zeroValue278
  t173:=Tryz.underlying280
  a173:=Tryz.isAgg280
  z173:=Tryz.sizeOf280
  v173:=Tryz.zeroValue280
  t212:=Tryz.underlying296
  a212:=Tryz.isAgg296
  z212:=Tryz.sizeOf296
  v212:=Tryz.zeroValue296
  t213:=Tryz.underlying297
  a213:=Tryz.isAgg297
  z213:=Tryz.sizeOf297
  t232:=Tryz.underlying316
  a232:=Tryz.isAgg316
  z232:=Tryz.sizeOf316
  v232:=Tryz.zeroValue316
  t233:=Tryz.underlying317
  a233:=Tryz.isAgg317
  z233:=Tryz.sizeOf317
  v233:=Tryz.zeroValue317
  g17:=kq
  g18:=kq
  g19:=kq
  i0:=kq
  i2:=kq
  i3:=kq
  i4:=kq
  i5:=kq
  i9:=kq
  i20:=kq
  i37:=kq
  i46:=kq
  i51:=kq
  i53:=kq
  i171:=kq
  i173:=kq
  i212:=kq
  i232:=kq
  i233:=kq
  m17:=kq
  m18:=kq
  m19:=kq }
open Go.RowKit Go.Sort Go.Lib in
theorem Tryz.strconv_Itoa (n : Int) (h0 : -9223372036854775808 <= n) (h1 : n <= 9223372036854775807) (w : World) (htab : Lib.TabIs a0a w "internal/strconv.uint64pow10" .u64 Lib.pow10Tab) :
    Calls a0a 123 #[.int .i64 n] w λe w'=>e = .returned (.string ⟨(Lib.itoa n).toArray⟩) /\ ∃ k os,w' = grow (w.drewN k) os:=Any.strconv_Itoa Tryz.laysM171 n h0 h1 w htab
def Tryz.laysC172_ren : Go.Shelf.Ren:=⟨λ| 172=>255 | 244=>292 | 245=>293 | 247=>309 | 279=>310 | 280=>311 | 281=>312 | 282=>313 | 287=>295 | 316=>327 | 171=>123 | 205=>328 | 321=>314 | 322=>315 | 243=>238 | 246=>285 | 283=>302 | 284=>303 | 285=>304 | 286=>305 | 129=>322 | 317=>321 | 318=>323 | 319=>324 | 320=>325 | 337=>331 | 338=>332 | n=>n,λ| 9=>9 | 3=>3 | 75=>139 | 76=>140 | 4=>4 | 5=>5 | 167=>284 | 37=>97 | 0=>0 | 85=>285 | 2=>2 | 168=>287 | 53=>106 | 175=>248 | 46=>236 | 210=>300 | 127=>199 | 145=>312 | 143=>310 | 21=>21 | 171=>278 | 173=>280 | 212=>296 | 51=>256 | 20=>20 | 213=>297 | 232=>316 | 233=>317 | 80=>142 | n=>n,λ| 15=>4 | 16=>5 | 17=>3 | 18=>9 | 19=>10 | n=>n⟩
theorem Tryz.laysC172 : Go.Proofs.LaysC.n172 a0a Tryz.laysC172_ren:={
  mixed:=kq
  f129:=Tryz.func322.trans (congrArg some kq)
  f171:=Tryz.func123.trans (congrArg some kq)
  f172:=Tryz.func255.trans (congrArg some kq)
  f205:=Tryz.func328.trans (congrArg some kq)
  f243:=Tryz.func238.trans (congrArg some kq)
  f244:=Tryz.func292.trans (congrArg some kq)
  f245:=Tryz.func293.trans (congrArg some kq)
  f246:=Tryz.func285.trans (congrArg some kq)
  f247:=Tryz.func309.trans (congrArg some kq)
  f279:=Tryz.func310.trans (congrArg some kq)
  f280:=Tryz.func311.trans (congrArg some kq)
  f281:=Tryz.func312.trans (congrArg some kq)
  f282:=Tryz.func313.trans (congrArg some kq)
  f283:=Tryz.func302.trans (congrArg some kq)
  f284:=Tryz.func303.trans (congrArg some kq)
  f285:=Tryz.func304.trans (congrArg some kq)
  f286:=Tryz.func305.trans (congrArg some kq)
  f287:=Tryz.func295.trans (congrArg some kq)
  f316:=Tryz.func327.trans (congrArg some kq)
  f317:=Tryz.func321.trans (congrArg some kq)
  f318:=Tryz.func323.trans (congrArg some kq)
  f319:=Tryz.func324.trans (congrArg some kq)
  f320:=Tryz.func325.trans (congrArg some kq)
  f321:=Tryz.func314.trans (congrArg some kq)
  f322:=Tryz.func315.trans (congrArg some kq)
  f337:=Tryz.func331.trans (congrArg some kq)
  f338:=Tryz.func332.trans (congrArg some kq)
  t0:=a5n
  a0:=Tryz.isAgg0
  z0:=Tryz.sizeOf0
  v0:=a6b
  t2:=Tryz.underlying2
  a2:=Tryz.isAgg2
  z2:=Tryz.sizeOf2
  v2:=Tryz.zeroValue2
  t3:=a3g
  a3:=a5o
  z3:=a5c
  v3:=a4c
  t4:=a3r
  a4:=a5p
  z4:=a5d
  v4:=a4d
  t5:=a4v
  a5:=Tryz.isAgg5
  z5:=a6v
  v5:=a5h
  t9:=a4f
  a9:=a6h
  z9:=a5s
  v9:=a4k
  t20:=Tryz.underlying20
  a20:=Tryz.isAgg20
  z20:=Tryz.sizeOf20
  v20:=Tryz.zeroValue20
  t21:=Tryz.underlying21
  a21:=Tryz.isAgg21
  z21:=Tryz.sizeOf21
  v21:=Tryz.zeroValue21
  t37:=Tryz.underlying97
  a37:=Tryz.isAgg97
  z37:=Tryz.sizeOf97
  v37:=Tryz.zeroValue97
  t46:=a4z
  a46:=Tryz.isAgg236
  z46:=a6p
  v46:=a5j
  t51:=a5v
  a51:=Tryz.isAgg256
  z51:=Tryz.sizeOf256
  v51:=a6i
  t53:=Tryz.underlying106
  a53:=Tryz.isAgg106
  z53:=Tryz.sizeOf106
  v53:=Tryz.zeroValue106
  t75:=Tryz.underlying139
  a75:=Tryz.isAgg139
  z75:=Tryz.sizeOf139
  v75:=Tryz.zeroValue139
  t76:=Tryz.underlying140
  a76:=Tryz.isAgg140
  z76:=Tryz.sizeOf140
  v76:=Tryz.zeroValue140
  t85:=Tryz.underlying285
  a85:=Tryz.isAgg285
  z85:=Tryz.sizeOf285
  v85:=Tryz.zeroValue285
  t127:=Tryz.underlying199
  a127:=Tryz.isAgg199
  z127:=Tryz.sizeOf199
  v127:=Tryz.zeroValue199
  t143:=Tryz.underlying310
  a143:=Tryz.isAgg310
  z143:=Tryz.sizeOf310
  v143:=Tryz.zeroValue310
  t145:=Tryz.underlying312
  a145:=Tryz.isAgg312
  z145:=Tryz.sizeOf312
  v145:=Tryz.zeroValue312
  t167:=Tryz.underlying284
  a167:=Tryz.isAgg284
  z167:=Tryz.sizeOf284
  v167:=Tryz.zeroValue284
  t168:=Tryz.underlying287
  a168:=Tryz.isAgg287
  z168:=Tryz.sizeOf287
  v168:=Tryz.zeroValue287
  t171:=Tryz.underlying278
  a171:=Tryz.isAgg278
  z171:=Tryz.sizeOf278
  v171:=Tryz.zeroValue278
  t173:=Tryz.underlying280
  a173:=Tryz.isAgg280
  z173:=Tryz.sizeOf280
  v173:=Tryz.zeroValue280
  t175:=Tryz.underlying248
  a175:=Tryz.isAgg248
  z175:=Tryz.sizeOf248
  v175:=Tryz.zeroValue248
  t210:=Tryz.underlying300
  a210:=Tryz.isAgg300
  z210:=Tryz.sizeOf300
  v210:=Tryz.zeroValue300
  t212:=Tryz.underlying296
  a212:=Tryz.isAgg296
  z212:=Tryz.sizeOf296
  v212:=Tryz.zeroValue296
  t213:=Tryz.underlying297
  a213:=Tryz.isAgg297
  z213:=Tryz.sizeOf297
  t232:=Tryz.underlying316
  a232:=Tryz.isAgg316
  z232:=Tryz.sizeOf316
  v232:=Tryz.zeroValue316
  t233:=Tryz.underlying317
  a233:=Tryz.isAgg317
  z233:=Tryz.sizeOf317
  v233:=Tryz.zeroValue317
  g15:=kq
  g16:=kq
  g17:=kq
  g18:=kq
  g19:=kq
  t80:=Tryz.underlying142
  a80:=Tryz.isAgg142
  z80:=Tryz.sizeOf142
  v80:=Tryz.zeroValue142
  i0:=kq
  i2:=kq
  i3:=kq
  i4:=kq
  i5:=kq
  i9:=kq
  i20:=kq
  i21:=kq
  i37:=kq
  i46:=kq
  i51:=kq
  i53:=kq
  i75:=kq
  i76:=kq
  i80:=kq
  i85:=kq
  i127:=kq
  i143:=kq
  i145:=kq
  i167:=kq
  i168:=kq
  i171:=kq
  i173:=kq
  i175:=kq
  i210:=kq
  i212:=kq
  i232:=kq
  i233:=kq
  m15:=kq
  m16:=kq
  m17:=kq
  m18:=kq
  m19:=kq
  c0:=kq
  c2:=kq
  c3:=kq
  c4:=kq
  c5:=kq
  c9:=kq
  c20:=kq
  c21:=kq
  c37:=kq
  c46:=kq
  c51:=kq
  c53:=kq
  c75:=kq
  c76:=kq
  c80:=kq
  c85:=kq
  c127:=kq
  c143:=kq
  c145:=kq
  c167:=kq
  c168:=kq
  c171:=kq
  c173:=kq
  c175:=kq
  c210:=kq
  c212:=kq
  c213:=kq
  c232:=kq
  c233:=kq }
open Go.RowKit in
theorem Tryz.strconv_Atoi_ok (s : ByteArray) (Gu : s.size <= 9223372036854775806) (v : Int) (h : a4j s.data.toList = .ok v) (w : World) :
    Calls a0a 255 #[.string s] w λe w'=>e = .returned (.tuple #[.int .i64 v,.nilIface]) /\ (w' = w ∨ ∃ t,w' = Lib.bytesWorld w 5 t):=Any.strconv_Atoi_ok Tryz.laysC172 s Gu v h w
open Go.RowKit in
theorem Tryz.strconv_Atoi_syntax_var (s : ByteArray) (hlim : s.size <= 281474976710656) (h0 : (∀ v,a4j s.data.toList ≠ .ok v) /\ a4j s.data.toList ≠ .range) (tp : TypeId) (p : Value) (w : World) (hvar : w.var? a0a "strconv.ErrSyntax" = some #[.iface tp p]) :
    Calls a0a 255 #[.string s] w λe w'=>∃ N,e = .returned (.tuple #[.int .i64 0,.iface 287 (.pointer (some ⟨N,0,none⟩))]) /\ w.heap.size <= N /\ w'.heap[N]? = some (.cells #[.string ⟨#[65,116,111,105]⟩,.string s,.iface tp p] 300 (0,0)) /\ Below w.heap.size w w':=Any.strconv_Atoi_syntax_var Tryz.laysC172 s hlim (by
      cases e : a4j s.data.toList <;> first|rfl | exact absurd e (h0.1 _) | exact absurd e h0.2) tp p w hvar
open Go.RowKit in
theorem Tryz.strconv_Atoi_range_var (s : ByteArray) (hlim : s.size <= 281474976710656) (h : a4j s.data.toList = .range) (tp : TypeId) (p : Value) (w : World) (hvar : w.var? a0a "strconv.ErrRange" = some #[.iface tp p]) :
    Calls a0a 255 #[.string s] w λe w'=>∃ N,e = .returned (.tuple #[.int .i64 (Lib.atoiSat s.data.toList),.iface 287 (.pointer (some ⟨N,0,none⟩))]) /\ w.heap.size <= N /\ w'.heap[N]? = some (.cells #[.string ⟨#[65,116,111,105]⟩,.string s,.iface tp p] 300 (0,0)) /\ Below w.heap.size w w':=Any.strconv_Atoi_range_var Tryz.laysC172 s hlim h tp p w hvar
def Tryz.lays145_ren : Go.Shelf.Ren:=⟨λ| 145=>79 | 220=>148 | 219=>150 | 217=>250 | 225=>251 | 224=>252 | 267=>253 | 266=>289 | 314=>290 | n=>n,λ| 9=>9 | 4=>4 | 59=>144 | 3=>3 | 5=>5 | 46=>236 | 146=>260 | 51=>256 | n=>n,λ| 1=>1 | n=>n⟩
theorem Tryz.lays145 : Go.Proofs.Lays.n145 a0a Tryz.lays145_ren:={
  mixed:=kq
  f145:=Tryz.func79.trans (congrArg some kq)
  f217:=Tryz.func250.trans (congrArg some kq)
  f219:=Tryz.func150.trans (congrArg some kq)
  f220:=Tryz.func148.trans (congrArg some kq)
  f224:=Tryz.func252.trans (congrArg some kq)
  f225:=Tryz.func251.trans (congrArg some kq)
  f266:=Tryz.func289.trans (congrArg some kq)
  f267:=Tryz.func253.trans (congrArg some kq)
  f314:=Tryz.func290.trans (congrArg some kq)
  t3:=a3g
  a3:=a5o
  z3:=a5c
  v3:=a4c
  t4:=a3r
  a4:=a5p
  z4:=a5d
  v4:=a4d
  t5:=a4v
  a5:=Tryz.isAgg5
  z5:=a6v
  v5:=a5h
  t9:=a4f
  a9:=a6h
  z9:=a5s
  v9:=a4k
  t46:=a4z
  a46:=Tryz.isAgg236
  z46:=a6p
  v46:=a5j
  t51:=a5v
  a51:=Tryz.isAgg256
  z51:=Tryz.sizeOf256
  v51:=a6i
  t59:=Tryz.underlying144
  a59:=Tryz.isAgg144
  z59:=Tryz.sizeOf144
  v59:=Tryz.zeroValue144
  t146:=Tryz.underlying260
  a146:=Tryz.isAgg260
  z146:=Tryz.sizeOf260
  v146:=Tryz.zeroValue260
  g1:=kq }
open Go.RowKit Go.Lib in
theorem Tryz.strings_Cut (s sep : ByteArray) (m : Int) (w : World) (hs : s.size < 4294967281) (hm : w.cell? ⟨1,0,none⟩ = some (.int .i64 m)) :
    Calls a0a 79 #[.string s,.string sep] w λe w'=>e = .returned (.tuple #[.string ⟨(a3d s.data.toList sep.data.toList).1.toArray⟩,.string ⟨(a3d s.data.toList sep.data.toList).2.1.toArray⟩,.bool (a3d s.data.toList sep.data.toList).2.2]) /\ ∃ n,w' = w.drewN n:=Any.strings_Cut Tryz.lays145 s sep m w hs hm
def Tryz.lays99_ren : Go.Shelf.Ren:=⟨λ| 99=>27 | 206=>68 | n=>n,λ| 9=>9 | 4=>4 | 3=>3 | n=>n,λ| n=>n⟩
def Tryz.lays101_ren : Go.Shelf.Ren:=⟨λ| 101=>254 | 208=>291 | 206=>68 | n=>n,λ| 9=>9 | 4=>4 | 3=>3 | n=>n,λ| n=>n⟩
theorem Tryz.lays101 : Go.Proofs.Lays.n101 a0a Tryz.lays101_ren:={
  mixed:=kq
  f101:=Tryz.func254.trans (congrArg some kq)
  f206:=Tryz.func68.trans (congrArg some kq)
  f208:=Tryz.func291.trans (congrArg some kq)
  t3:=a3g
  a3:=a5o
  z3:=a5c
  v3:=a4c
  t4:=a3r
  a4:=a5p
  z4:=a5d
  v4:=a4d
  t9:=a4f
  a9:=a6h
  z9:=a5s
  v9:=a4k }
open Go.RowKit Go.Lib in
theorem Tryz.strings_TrimPrefix (s p : ByteArray) (w : World) :
    Calls a0a 254 #[.string s,.string p] w λe w'=>e = .returned (.string ⟨(a0o s.data.toList p.data.toList).toArray⟩) /\ w' = w:=Any.strings_TrimPrefix Tryz.lays101 s p w
def Tryz.lays146_ren : Go.Shelf.Ren:=⟨λ| 146=>128 | 221=>239 | 268=>286 | 138=>287 | 143=>84 | 195=>306 | 197=>307 | 218=>308 | 219=>150 | 260=>326 | 217=>250 | 225=>251 | 224=>252 | 267=>253 | 266=>289 | 314=>290 | n=>n,λ| 9=>9 | 31=>118 | 3=>3 | 4=>4 | 0=>0 | 105=>282 | 21=>21 | 5=>5 | 46=>236 | 119=>229 | 139=>309 | 138=>308 | 146=>260 | 51=>256 | n=>n,λ| 1=>1 | 3=>7 | 4=>8 | n=>n⟩
theorem Tryz.lays146 : Go.Proofs.Lays.n146 a0a Tryz.lays146_ren:={
  mixed:=kq
  f138:=Tryz.func287.trans (congrArg some kq)
  f143:=Tryz.func84.trans (congrArg some kq)
  f146:=Tryz.func128.trans (congrArg some kq)
  f195:=Tryz.func306.trans (congrArg some kq)
  f197:=Tryz.func307.trans (congrArg some kq)
  f217:=Tryz.func250.trans (congrArg some kq)
  f218:=Tryz.func308.trans (congrArg some kq)
  f219:=Tryz.func150.trans (congrArg some kq)
  f221:=Tryz.func239.trans (congrArg some kq)
  f224:=Tryz.func252.trans (congrArg some kq)
  f225:=Tryz.func251.trans (congrArg some kq)
  f260:=Tryz.func326.trans (congrArg some kq)
  f266:=Tryz.func289.trans (congrArg some kq)
  f267:=Tryz.func253.trans (congrArg some kq)
  f268:=Tryz.func286.trans (congrArg some kq)
  f314:=Tryz.func290.trans (congrArg some kq)
  t0:=a5n
  a0:=Tryz.isAgg0
  z0:=Tryz.sizeOf0
  v0:=a6b
  t3:=a3g
  a3:=a5o
  z3:=a5c
  v3:=a4c
  t4:=a3r
  a4:=a5p
  z4:=a5d
  v4:=a4d
  t5:=a4v
  a5:=Tryz.isAgg5
  z5:=a6v
  v5:=a5h
  t9:=a4f
  a9:=a6h
  z9:=a5s
  v9:=a4k
  t21:=Tryz.underlying21
  a21:=Tryz.isAgg21
  z21:=Tryz.sizeOf21
  v21:=Tryz.zeroValue21
  t31:=Tryz.underlying118
  a31:=Tryz.isAgg118
  z31:=Tryz.sizeOf118
  v31:=Tryz.zeroValue118
  t46:=a4z
  a46:=Tryz.isAgg236
  z46:=a6p
  v46:=a5j
  t51:=a5v
  a51:=Tryz.isAgg256
  z51:=Tryz.sizeOf256
  v51:=a6i
  t105:=Tryz.underlying282
  a105:=Tryz.isAgg282
  z105:=Tryz.sizeOf282
  v105:=Tryz.zeroValue282
  t119:=Tryz.underlying229
  a119:=Tryz.isAgg229
  z119:=Tryz.sizeOf229
  t138:=Tryz.underlying308
  a138:=Tryz.isAgg308
  z138:=Tryz.sizeOf308
  v138:=Tryz.zeroValue308
  t139:=Tryz.underlying309
  a139:=Tryz.isAgg309
  z139:=Tryz.sizeOf309
  v139:=Tryz.zeroValue309
  t146:=Tryz.underlying260
  a146:=Tryz.isAgg260
  z146:=Tryz.sizeOf260
  v146:=Tryz.zeroValue260
  g1:=kq
  g3:=kq
  g4:=kq }
open Go.RowKit Go.Lib in
theorem Tryz.strings_Split (s sep : ByteArray) (m : Int) (w : World) (hs : s.size < 4294967281) (hm : w.cell? ⟨1,0,none⟩ = some (.int .i64 m)) (h1 : 1 <= sep.size) :
    Calls a0a 128 #[.string s,.string sep] w λe w' =>
      e = .returned (.slice (some ⟨w.heap.size,0,none⟩) (Lib.countB s sep + 1) (Lib.countB s sep + 1)) /\ w' = w.alloc (.cells ((Lib.splitB sep 0 (Lib.countB s sep) s).map Value.string).toArray 9):=Any.strings_Split Tryz.lays146 kq s sep m w hs hm h1
def Tryz.lays157_ren : Go.Shelf.Ren:=⟨λ| 157=>114 | 229=>233 | 199=>234 | 261=>283 | 311=>299 | 312=>300 | n=>n,λ| 9=>9 | 31=>118 | 3=>3 | 5=>5 | 4=>4 | 119=>229 | 0=>0 | 40=>231 | 152=>253 | 21=>21 | 154=>255 | 51=>256 | 141=>258 | 196=>269 | 193=>266 | 198=>272 | 49=>270 | 194=>267 | 201=>275 | 226=>293 | 46=>236 | 227=>294 | n=>n,λ| 0=>0 | 6=>2 | n=>n⟩
theorem Tryz.lays157 : Go.Proofs.Lays.n157 a0a Tryz.lays157_ren:={
  mixed:=kq
  f157:=Tryz.func114.trans (congrArg some kq)
  f199:=Tryz.func234.trans (congrArg some kq)
  f229:=Tryz.func233.trans (congrArg some kq)
  f261:=Tryz.func283.trans (congrArg some kq)
  f311:=Tryz.func299.trans (congrArg some kq)
  f312:=Tryz.func300.trans (congrArg some kq)
  t0:=a5n
  a0:=Tryz.isAgg0
  z0:=Tryz.sizeOf0
  v0:=a6b
  t3:=a3g
  a3:=a5o
  z3:=a5c
  v3:=a4c
  t4:=a3r
  a4:=a5p
  z4:=a5d
  v4:=a4d
  t5:=a4v
  a5:=Tryz.isAgg5
  z5:=a6v
  v5:=a5h
  t9:=a4f
  a9:=a6h
  z9:=a5s
  v9:=a4k
  t21:=Tryz.underlying21
  a21:=Tryz.isAgg21
  z21:=Tryz.sizeOf21
  v21:=Tryz.zeroValue21
  t31:=Tryz.underlying118
  a31:=Tryz.isAgg118
  z31:=Tryz.sizeOf118
  v31:=Tryz.zeroValue118
  t40:=Tryz.underlying231
  a40:=Tryz.isAgg231
  z40:=Tryz.sizeOf231
  v40:=Tryz.zeroValue231
  t46:=a4z
  a46:=Tryz.isAgg236
  z46:=a6p
  v46:=a5j
  t49:=Tryz.underlying270
  a49:=Tryz.isAgg270
  z49:=Tryz.sizeOf270
  v49:=Tryz.zeroValue270
  t51:=a5v
  a51:=Tryz.isAgg256
  z51:=Tryz.sizeOf256
  v51:=a6i
  t119:=Tryz.underlying229
  a119:=Tryz.isAgg229
  z119:=Tryz.sizeOf229
  t141:=Tryz.underlying258
  a141:=Tryz.isAgg258
  z141:=Tryz.sizeOf258
  v141:=Tryz.zeroValue258
  t152:=Tryz.underlying253
  a152:=Tryz.isAgg253
  z152:=Tryz.sizeOf253
  v152:=Tryz.zeroValue253
  t154:=Tryz.underlying255
  a154:=Tryz.isAgg255
  z154:=Tryz.sizeOf255
  v154:=Tryz.zeroValue255
  t193:=Tryz.underlying266
  a193:=Tryz.isAgg266
  z193:=Tryz.sizeOf266
  v193:=Tryz.zeroValue266
  t194:=Tryz.underlying267
  a194:=Tryz.isAgg267
  z194:=Tryz.sizeOf267
  v194:=Tryz.zeroValue267
  t196:=Tryz.underlying269
  a196:=Tryz.isAgg269
  z196:=Tryz.sizeOf269
  v196:=Tryz.zeroValue269
  t198:=Tryz.underlying272
  a198:=Tryz.isAgg272
  z198:=Tryz.sizeOf272
  v198:=Tryz.zeroValue272
  t201:=Tryz.underlying275
  a201:=Tryz.isAgg275
  z201:=Tryz.sizeOf275
  v201:=Tryz.zeroValue275
  t226:=Tryz.underlying293
  a226:=Tryz.isAgg293
  z226:=Tryz.sizeOf293
  v226:=Tryz.zeroValue293
  t227:=Tryz.underlying294
  a227:=Tryz.isAgg294
  z227:=Tryz.sizeOf294
  v227:=Tryz.zeroValue294
  g0:=kq
  g6:=kq }
open Go.RowKit Go.Lib in
theorem Tryz.strings_Fields (s : ByteArray) (w : World) (hs : s.size < 4294967281) (hascii : ∀ (j : Nat) b,s.data.toList[j]? = some b -> b.toNat < 128) (htab : Lib.TabIs a0a w "strings.asciiSpace" .u8 Lib.asciiSpaceTab) :
    Calls a0a 114 #[.string s] w λe w' =>
      e = .returned (.slice (some ⟨w.heap.size,0,none⟩) (a6m s.data.toList).length (a6m s.data.toList).length) /\ w' = w.alloc (.cells ((a6m s.data.toList).map λl=>Value.string ⟨l.toArray⟩).toArray 9):=Any.strings_Fields Tryz.lays157 kq kq s w hs hascii htab
def Tryz.laysNm225_ren : Go.Shelf.Ren:=⟨λ| 25=>137 | 31=>241 | 32=>242 | 37=>288 | n=>n,λ| 22=>27 | 3=>3 | 4=>4 | 40=>236 | 0=>0 | n=>n,λ| n=>n⟩
theorem Tryz.laysNm225 : Go.Proofs.Lays2.n25 a0a Tryz.laysNm225_ren:={
  mixed:=kq
  f25:=Tryz.func137.trans (congrArg some kq)
  f31:=Tryz.func241.trans (congrArg some kq)
  f32:=Tryz.func242.trans (congrArg some kq)
  f37:=Tryz.func288.trans (congrArg some kq)
  t0:=a5n
  a0:=Tryz.isAgg0
  z0:=Tryz.sizeOf0
  v0:=a6b
  t3:=a3g
  a3:=a5o
  z3:=a5c
  v3:=a4c
  t4:=a3r
  a4:=a5p
  z4:=a5d
  v4:=a4d
  t22:=Tryz.underlying27
  a22:=Tryz.isAgg27
  z22:=Tryz.sizeOf27
  v22:=Tryz.zeroValue27
  t40:=a4z
  a40:=Tryz.isAgg236
  z40:=a6p
  v40:=a5j }
open Go.RowKit Go.Lib in
theorem Tryz.slices_BinarySearch_int (b off n c : Nat) (zs : List Int) (x : Int) (w : World) (hz : n <= zs.length) (hbig : n < 4611686018427387904) (hc : ∀ j,j < zs.length -> w.cell? ⟨b,off + j,none⟩ = some (.int .i64 (zs.getD j 0))) (hs : (zs.take n).Pairwise (· <= ·)) :
    Calls a0a 137 #[.slice (some ⟨b,off,none⟩) n c,.int .i64 x] w λe w'=>e = .returned (.tuple #[.int .i64 ((zs.take n).countP (· < x) : Nat),.bool ((zs.take n).contains x)]) /\ ∃ q,w' = w.drewN q:=Any.slices_BinarySearch_int Tryz.laysNm225 b off n c zs x w hz hbig hc hs
end Go.Proofs
end
section
namespace Go.Proofs
open Go Go.RowKit
set_option maxRecDepth 100000 in
theorem oG (b:Nat) (w:World) (h0:w.cell? ⟨b,0,none⟩=some (.pointer (some ⟨b,0,none⟩))) :
  Calls a0a 146 #[.pointer (some ⟨b,0,none⟩)] w λe w'=>e=.returned (.tuple #[])/\w'=w:=by
 obtain ⟨j,hj⟩:∃ j,a0a.info? 137=some j:=a2o.1 kq
 go_enter Tryz.func146,Tryz.ntmps146
 go_wp2
 rw [Lib.run_neq_ptr_same w _ Tryz.underlying135 hj]
 go_wp2
 go_end0
 exact ⟨rfl,rfl⟩
set_option maxRecDepth 100000 in
theorem qk (b:Nat) (w:World) (v:Value) (h0:w.heap[b]?=some (.cells #[.pointer none,v] 137 (0,0))) :
  Calls a0a 146 #[.pointer (some ⟨b,0,none⟩)] w λe w'=>e=.returned (.tuple #[])/\w'=w.setCell ⟨b,0,none⟩ (.pointer (some ⟨b,0,none⟩)):=by
 obtain ⟨j,hj⟩:∃ j,a0a.info? 137=some j:=a2o.1 kq;have Vi:j.size=2:=by
  have:(a0a.info? 137).map (·.size)=some 2:=kq;rw [hj] at this; simpa using this
 have hc:w.cell? ⟨b,0,none⟩=some (.pointer none):=by rw [a4i h0]; rfl
 have hf:w.frozen? ⟨b,0,none⟩=false:=by simp [World.frozen?,h0]
 have eF:w.shape? b=some (137,2):=by simp [World.shape?,h0]
 go_enter Tryz.func146,Tryz.ntmps146
 go_wp2
 rw [Lib.run_to_unsafe w ⟨b,0,none⟩ Tryz.underlying135 Tryz.underlying239 hj (by rw [Vi]; decide) eF (Nat.zero_lt_succ 1)];simp only [Result.andThen];rw [Oper.upon_value]
 go_wp2
 rw [run_callFunc_extern Tryz.func249 kq kq kq (e:=Extern.AbiNoEscape.same) kq];rw [Lib.run_noEscape];simp only [Result.andThen];rw [Oper.upon_value]
 go_wp2
 rw [Lib.run_from_unsafe w ⟨b,0,none⟩ Tryz.underlying239 Tryz.underlying135 hj eF kq];simp only [Result.andThen];rw [Oper.upon_value]
 go_wp2
 go_end0
 exact ⟨rfl,rfl⟩
set_option maxRecDepth 100000 in
theorem AW (b g cap:Nat) (p:Value) (cur:Array Value) (l:List UInt8) (w:World) (h0:l≠[]) (pV:w.heap[b]?=some (.cells #[p,.slice (some ⟨g,0,none⟩) l.length cap] 137 (0,0))) (hg:w.heap[g]?=some (.cells cur 5 (0,0)))
  (B0:l.length<=cur.size) (eN:l.length<=cap) (hm:l.length<=140737488355328) (cu:∀ j x,l[j]?=some x->w.cell? ⟨g,j,none⟩=some (.int .u8 x.toNat)) :
  Calls a0a 76 #[.pointer (some ⟨b,0,none⟩)] w λe w'=>e=.returned (.string ⟨l.toArray⟩)/\w'=w.drew.freeze ⟨g,0,none⟩ l.length:=by
 have NO:l.length≠0:=by simpa using h0
 have c1:w.drew.cell? ⟨b,1,none⟩=some (.slice (some ⟨g,0,none⟩) l.length cap):=by
  have:w.drew.heap[b]?=some (.cells #[p,.slice (some ⟨g,0,none⟩) l.length cap] 137 (0,0)):=pV;rw [a4i this]; rfl
 have Vk:(Builtin.unsafeSliceData_ #[97] 199 #[.slice (some ⟨g,0,none⟩) l.length cap]).run a0a w.drew=.ok (.pointer (some ⟨g,0,none⟩)) w.drew :=
  Lib.run_unsafeSliceData_row _ _ _ _ _ _ (by omega)
 have VE:(Builtin.unsafeString_ #[199,3] 9 #[.pointer (some ⟨g,0,none⟩),.int .i64 l.length]).run a0a w.drew=.ok (.string ⟨l.toArray⟩) (w.drew.freeze ⟨g,0,none⟩ l.length):=by
  refine Lib.run_unsafeString_row w.drew 199 3 9 5 Tryz.underlying199 kq g cur.size (by have QE:w.drew.heap[g]?=some (.cells cur 5 (0,0)):=hg; simp [World.shape?,QE]) l h0 (by omega) (by omega) (λj x hx=>?_);have e:(⟨g,0,none⟩:Addr).add j=⟨g,j,none⟩:=by unfold Addr.add; split<;>simp_all
  rw [e]; exact cu j x hx
 have mixed:a0a.follows .mixedOrders=true:=kq;clear cu B0 eN hm hg pV
 go_enter Tryz.func76,Tryz.ntmps76
 go_wp2
 go_region_o
 all_goals (go_wp2; go_ret; exact ⟨rfl,rfl⟩)
theorem V3 (W:World) (q:Option Addr):(Builtin.unsafeString_ #[199,3] 9 #[.pointer q,.int .i64 0]).run a0a W=.ok (.string .empty) W :=
 Lib.run_unsafeString_none W _ _ _ q
set_option maxRecDepth 100000 in
theorem hC (b:Nat) (p:Value) (w:World) (pV:w.heap[b]?=some (.cells #[p,.slice none 0 0] 137 (0,0))) :
  Calls a0a 76 #[.pointer (some ⟨b,0,none⟩)] w λe w'=>e=.returned (.string ⟨#[]⟩)/\w'=w.drew:=by
 have VE:=V3;have c1:w.drew.cell? ⟨b,1,none⟩=some (.slice none 0 0):=by
  have:w.drew.heap[b]?=some (.cells #[p,.slice none 0 0] 137 (0,0)):=pV;rw [a4i this]; rfl
 have Vk:(Builtin.unsafeSliceData_ #[97] 199 #[.slice none 0 0]).run a0a w.drew=.ok (.pointer none) w.drew:=rfl;have mixed:a0a.follows .mixedOrders=true:=kq
 go_enter Tryz.func76,Tryz.ntmps76
 go_wp2
 go_region_o
 all_goals (go_wp2; go_ret; exact ⟨rfl,rfl⟩)
set_option maxRecDepth 100000 in
theorem kS (b g:Nat) (p:Value) (cur:Array Value) (w:World) (pV:w.heap[b]?=some (.cells #[p,.slice (some ⟨g,0,none⟩) 0 0] 137 (0,0))) (hg:w.heap[g]?=some (.cells cur 5 (0,0))) :
  Calls a0a 76 #[.pointer (some ⟨b,0,none⟩)] w λe w'=>e=.returned (.string ⟨#[]⟩)/\w'=w.drew.alloc (.view ⟨g,0,none⟩ 5):=by
 have VE:=V3;have e9:b<w.heap.size:=by
  rcases Nat.lt_or_ge b w.heap.size with h' | h'
  ·exact h'
  ·simp [a4u h'] at pV
 have c1:w.drew.cell? ⟨b,1,none⟩=some (.slice (some ⟨g,0,none⟩) 0 0):=by
  have:w.drew.heap[b]?=some (.cells #[p,.slice (some ⟨g,0,none⟩) 0 0] 137 (0,0)):=pV;rw [a4i this]; rfl
 have Vk:(Builtin.unsafeSliceData_ #[97] 199 #[.slice (some ⟨g,0,none⟩) 0 0]).run a0a w.drew=.ok (.pointer (some ⟨w.drew.heap.size,0,none⟩)) (w.drew.alloc (.view ⟨g,0,none⟩ 5)) :=
  Lib.run_unsafeSliceData_zero w.drew _ _ 5 Tryz.underlying199 ⟨g,0,none⟩ 0 (5,cur.size) (by have QE:w.drew.heap[g]?=some (.cells cur 5 (0,0)):=hg; simp [World.shape?,QE])
 have c2:(w.drew.alloc (.view ⟨g,0,none⟩ 5)).cell? ⟨b,1,none⟩=some (.slice (some ⟨g,0,none⟩) 0 0):=by
  have:(w.drew.alloc (.view ⟨g,0,none⟩ 5)).heap[b]?=_:=(Lib.alloc_old w.drew _ b e9).trans pV;rw [a4i this]; rfl
 have c3:(w.alloc (.view ⟨g,0,none⟩ 5)).drew.cell? ⟨b,1,none⟩=some (.slice (some ⟨g,0,none⟩) 0 0):=c2;have c0:w.cell? ⟨b,1,none⟩=some (.slice (some ⟨g,0,none⟩) 0 0):=c1;have mixed:a0a.follows .mixedOrders=true:=kq;clear hg pV
 go_enter Tryz.func76,Tryz.ntmps76
 go_wp2
 go_region_o
 all_goals (go_wp2; go_ret; exact ⟨rfl,rfl⟩)
set_option maxRecDepth 100000 in
theorem oH (b g cap:Nat) (p:Value) (w:World) (Jq:cap≠0) (pV:w.heap[b]?=some (.cells #[p,.slice (some ⟨g,0,none⟩) 0 cap] 137 (0,0))) :
  Calls a0a 76 #[.pointer (some ⟨b,0,none⟩)] w λe w'=>e=.returned (.string ⟨#[]⟩)/\w'=w.drew:=by
 have VE:=V3;have c1:w.drew.cell? ⟨b,1,none⟩=some (.slice (some ⟨g,0,none⟩) 0 cap):=by
  have:w.drew.heap[b]?=some (.cells #[p,.slice (some ⟨g,0,none⟩) 0 cap] 137 (0,0)):=pV;rw [a4i this]; rfl
 have Vk:(Builtin.unsafeSliceData_ #[97] 199 #[.slice (some ⟨g,0,none⟩) 0 cap]).run a0a w.drew=.ok (.pointer (some ⟨g,0,none⟩)) w.drew :=
  Lib.run_unsafeSliceData_row _ _ _ _ _ _ Jq
 clear Jq;have mixed:a0a.follows .mixedOrders=true:=kq
 go_enter Tryz.func76,Tryz.ntmps76
 go_wp2
 go_region_o
 all_goals (go_wp2; go_ret; exact ⟨rfl,rfl⟩)
end Go.Proofs
end
