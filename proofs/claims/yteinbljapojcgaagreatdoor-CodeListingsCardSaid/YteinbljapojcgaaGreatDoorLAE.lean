/- A symbolic run of the program that Lean checks, and what the functions of the program come to by it: part 5 of 6. -/
import Derived.ProofKit
import Derived.ReadAgain
import Derived.Deep.Onto
import Derived.Test.YteinbljapojcgaaGreatDoorRows
import Derived.LaidMore
import Derived.Lay
import Derived.Lib.LaidTab
import Derived.Shelf.Vars
import Derived.MakeChecks
import Derived.Lib.CountLaws
import Derived.Test.YteinbljapojcgaaGreatDoorLAD
set_option linter.unusedVariables false
set_option maxHeartbeats 4000000
set_option maxRecDepth 10000
open Array renaming getElem?_modify->a4x,ext'->a3u
open Bool renaming not_eq_false'->a5x,and_eq_true->a0g,eq_iff_iff->a6j,true_and->a5a,or_eq_true->a3w,or_eq_false_iff->a2r,false_eq_true->a4n
open Go.IntKind renaming wrap->a1s,bits->a1t,signed->a1p,i64->a0h,u64->a0z
open Go.Lib renaming cut->a3d,itoa->a0i,join->a1u,trimPrefix->a0o,hasPrefix->a2d,itoa_length_le->a2e
open Go.Proofs.Sel renaming get->a0u,set->a1i
open Go.Proofs.Tryz renaming prog->a0a,underlying3->a3g,func74->a3b
open Go.Proofs.m7 renaming get->a3l,set->a4q
open Go.Proofs.m8 renaming get->a5i,set->a6z
open Go.SX.CV renaming den->a2a
open Go.SX.CallsK renaming m->a0j
open Go.SX.SV renaming den0->a3n
open Go.SX.V renaming iter->a1l,sb->a4o,up->a3v
open Go.SX.VX renaming run->a1z,callK->a5u
open Int renaming toNat_natCast->a1h
open List renaming range->a2f,all_eq_true->a0y,mem_range->a3f,not_mem_nil->a1a,mem_append->a2s,mem_singleton->a0d,mem_append_left->a1w,mem_append_right->a1v,mem_cons_self->a0f,mem_cons_of_mem->a0e,getElem?_eq_getElem->a0b,take_append_drop->a6g,getD->a0r,getElem?_map->a2t,mem_cons->a0k,mem_of_getElem?->a0v,drop_eq_nil_of_le->a5t,take_add_one->a2c,length_append->a0c,getD_cons_zero->a5k,append_assoc->a1g,mem_map->a1d,cons_ne_nil->a3i,drop_succ_cons->a6t,length_drop->a2p,length_cons->a0p,length_nil->a1r,append_nil->a1q,length_take->a2b,flatMap_cons->a2z,length_map->a1k,foldl_append->a4r,take_length->a1o
open Nat renaming beq->a1m,eq_of_beq_eq_true->a6d,zero_le->a0s,not_lt_zero->a0x,lt_of_lt_of_le->a1b,pow_succ->a6c,mul_le_mul_right->a6u,lt_succ_self->a3p,add_sub_cancel->a3x,beq_refl->a4h,le_trans->a0n,blt->a4t,add_mul->a6l,le_refl->a0q
open Option renaming map_some->a2u,getD_some->a1e,map_eq_some_iff->a1y
open Option.some renaming injEq->a0l,inj->a2h
open Prod.mk renaming injEq->a1f
open UInt8 renaming toNat_inj->a4b,ofNat->a1c
noncomputable section
section
namespace Go.Proofs
open Go Go.SX
theorem mX (rl:List (Int×Int)) (X:RIn) (hX:X.n=rl.length) (hl:rl.length<=1000000000) (at_:Nat) (x7:j8 X ⟨at_,false⟩) (h:B1 rl X at_=true) :
  CallsK a0a 30 [.one (.str X.s),.one (.val (.slice X.q X.n X.c)),.one (.int .i64 (at_:Int))] (z8 [j7,e8 (j1 rl X.q X.c)]) (λy:In×IA=>y.1=(t7 rl X at_).2) (λy=>.tup [.agg (inV y.1 y.2),.one (.int .i64 (t7 rl X at_).1.at_),.one (.int .i64 0)]) (λy=>z8 (lsP y.1 y.2)):=by
 exact a0j true Tryz.func30 fun ρ w=>V.q<|m0 19 (decide ((at_:Int)<0)||decide ((at_:Int)>(X.s.length:Int))) false (by have:=x7.2; simp only at this; simp; omega)<|V.q<|V.c [(0,false)] fC λK hK=>V.q<|V.c [(0,true),(2,false)] (zH K hK rl X hX hl at_ x7) λy hy=>V.q<|m0 31 (!(B1 rl X at_)) false (by rw [h]; rfl)<|V.q<|V.e (y:In×IA) [(0,true),(1,true),(2,true)] hy
def vN (pr rg:Int) (X:RIn):CV:=.agg [.int .i64 pr,.int .i64 rg,.str X.s,.val (.slice X.q X.n X.c)]
theorem Ia (rl:List (Int×Int)) (X:RIn) (hX:X.n=rl.length) (hl:rl.length<=1000000000) (hs:X.s.length<=100000000) (pr rg:Int) (s:List In×List Int) (h:vdS rl X pr rg=some s) :
  CallsK a0a 31 [vN pr rg X] (z8 [j7,e8 (j1 rl X.q X.c)]) (λqc:Option Addr×Nat=>s.2.length<=qc.2) (λqc=>.tup [.one (.val (.slice qc.1 s.2.length qc.2)),.one (.int .i64 0)]) (λqc=>z8 [e8 (d5 C6 0 s.2 qc.1 qc.2 3 1 false)]):=by
 refine a0j true Tryz.func31 fun ρ w=>V.q<|p9 [] [] 10 kq<|@a1z _ [] [] 10 _ _ ([]:List (Ent a0a)) [] kq kq trivial<|@a5u _ [] [] 10 _ _ Kc 58 [] H0 _ _ _ [(0,false)] fC kq kq kq (λ_=>kq) λK hK=>@a1z _ [] [] 10 _ _ ([]:List (Ent a0a)) [] kq kq trivial<|@a5u _ [] [] 10 _ _ (Option TK) 71 [.agg [.val (.map (some K.gF)),.val (.map (some K.gO))],vN pr rg X] (z8 [cdP K,e8 (j1 rl X.q X.c)]) _ _ _ [(0,true),(2,false)] (xR K hK rl X hX hl hs pr rg) kq kq kq (λt=>by cases t<;>kernel_rfl) (λt ht=>?_);unfold vM at ht;rw [h] at ht;have eN:=ht.2;obtain ⟨t',rfl,h1,h2⟩:=ht.1;have eN:=eN t' rfl;obtain ⟨l,q,c,p,q',c'⟩:=t';obtain ⟨s1,s2⟩:=s;simp only at h1 h2 eN;subst h2;exact @a1z _ [] [] 10 _ _ ([]:List (Ent a0a)) [] kq kq trivial<|@o7 _ [] [] 10 _ _ kq<|V.q<|m0 15 (!true) false rfl<|V.q<|V.e ((q',c'):Option Addr×Nat) [(2,true)] eN
end Go.Proofs
end
section
namespace Go.SX
def vO {α:Type} (p:Nat->Bool):List (Nat×α)->List (Nat×α)
 | []=>[]
 | (k,v)::l=>match p k with
  | true=>vO p l
  | false=>(k,v)::vO p l
theorem ej {α:Type} {p:Nat->Bool}:∀ {l:List (Nat×α)} {i:Nat} {v:α},look (vO p l) i=some v->p i=false/\look l i=some v
 | [],i,v,h=>by cases h
 | (k,c)::l,i,v,h=>by
  simp only [vO] at h;simp only [look];split at h
  ·rename_i hp;obtain ⟨h1,h2⟩:=ej h;refine ⟨h1,?_⟩;cases e:a1m k i with
   | true=>have:=a6d e; subst this; rw [hp] at h1; cases h1
   | false=>exact h2
  ·rename_i hp;simp only [look] at h;cases e:a1m k i with
   | true=>rw [e] at h; have:=a6d e; subst this; exact ⟨hp,h⟩
   | false=>rw [e] at h; exact ej h
def Kg (s:List (Nat×RV)) (k:Nat):Bool:=match look s k with
 | some (.grd ..)=>true
 | _=>false
theorem jK {C:Ctx} {c:Cfg} (h:V C ⟨c.todo,{ c.st with slots:=vO (Kg c.st.slots) c.st.slots,gs:=[] }⟩):V C c:=by
 intro ρ a w hS;refine h ρ a w ⟨hS.n,λi v hv=>hS.slots i v (ej hv).2,λi g pol x y hv=>?_,hS.heap,hS.inj,hS.lt,hS.defers,hS.chg,hS.rows,hS.rowsD,hS.pers,hS.fix⟩;obtain ⟨h1,h2⟩:=ej hv;simp only [Kg,h2] at h1;cases h1
end Go.SX
end
section
namespace Go.Proofs
open Go Go.SX
def asT:List UInt8:=[83,84,69,80,32,49,48,10,74,85,77,80,32,64,48,10]
def eK:In:={ f0 1 with n:=10 }
def lr:In:=f0 14
def asB:List UInt8:=[1,20,14,0,0,0,0]
theorem Sl:A8 [[83,84,69,80],[49,48]]=some eK:=kq
theorem Sn:A8 [[74,85,77,80],[64,48]]=some lr:=kq
theorem asV (q:Option Addr) (c:Nat):vdS [] ⟨asB,q,0,c⟩ 0 4=some ([eK,lr],[0,2,7]):=kq
theorem iL {ws:List (List UInt8)} {o0:Nat} (h1:K6 (ws.getD 0 [])=some o0) (h2:((a2f (c6 o0).length).all λi=>((c6 o0).getD i .D).pok (ws.getD (i+1) []))=true) :
  ∀ o,K6 (ws.getD 0 [])=some o->ws.length=(c6 o).length+1->∀ i,i<(c6 o).length->((c6 o).getD i .D).pok (ws.getD (i+1) [])=true:=by
 intro o ho _ i hi;rw [h1] at ho;cases ho;exact a0y.1 h2 i (a3f.2 hi)
theorem So:CallsK a0a 39 [.one (.int .i64 0),.one (.int .i64 4),.one (.str asT)] H0 (λ_:Option Addr×Nat=>True) (λqc=>.tup [vN 0 4 ⟨asB,qc.1,0,qc.2⟩,.one (.int .i64 0),.one (.int .i64 0)]) (λqc=>z8 [e8 (j1 [] qc.1 qc.2)]):=by
 refine a0j true Tryz.func39 fun ρ w=>V.q<|m0 39 (decide ((0:Int)<0)||decide ((0:Int)>63)||decide ((4:Int)<0)||decide ((4:Int)>4000)||decide ((asT.length:Int)>1048576)) false (by decide)<|V.q<|V.c [(0,false)] fC λK hK=>V.q<|U9 ixV ixD 10 30 29 kq kq<|a1l<|V.q<|m0 43 (!(([83,84,69,80,32,49,48,10,74,85,77,80,32,64,48,10]:List UInt8)==[])) true (by decide)<|V.t [⟨Du,[0]⟩] [([83,84,69,80,32,49,48,10,74,85,77,80,32,64,48,10]:List UInt8).length<4294967281] (by show _<_; decide)<|V.c [(0,true),(1,false)] (vH K hK [83,84,69,80,32,49,48] [[83,84,69,80],[49,48]] kq (by decide) kq (by decide) (iL (o0:=1) kq kq)) (λy1 Ci=>?_);obtain ⟨x1,A1,b1⟩:=y1;have WW:x1=eK/\b1=true:=by unfold rdP at Ci; rw [Sl] at Ci; exact Ci
 obtain ⟨rfl,rfl⟩:=WW;refine V.q<|m0 63 ((!true)||(!(a3d ([83,84,69,80,32,49,48,10,74,85,77,80,32,64,48,10]:List UInt8) [10]).2.2)) false kq<|V.q<|V.push ixV ixD [] (eK,A1) 0 none 0 30 29 (inV eK A1) 304 kq (by show _<=_; decide) rfl (λ_ _=>kq) λq1 c1=>V.q<|a1l<|jK<|V.q<|m0 43 (!(([74,85,77,80,32,64,48,10]:List UInt8)==[])) true (by decide)<|V.t [⟨Du,[0]⟩] [([74,85,77,80,32,64,48,10]:List UInt8).length<4294967281] (by show _<_; decide)<|V.c [(3,true),(4,false)] (vH K hK [74,85,77,80,32,64,48] [[74,85,77,80],[64,48]] kq (by decide) kq (by decide) (iL (o0:=14) kq kq)) (λy2 NS=>?_);obtain ⟨x2,A2,b2⟩:=y2;have Rj:x2=lr/\b2=true:=by unfold rdP at NS; rw [Sn] at NS; exact NS
 obtain ⟨rfl,rfl⟩:=Rj;refine V.q<|m0 63 ((!true)||(!(a3d ([74,85,77,80,32,64,48,10]:List UInt8) [10]).2.2)) false kq<|V.q<|V.push ixV ixD ([]++[(eK,A1)]) (lr,A2) 1 q1 c1 30 29 (inV lr A2) 304 kq (by show 2*304<=140737488355328; decide) rfl (λ_ _=>kq) λq2 c2=>V.q<|a1l<|V.q<|m0 43 (!(([]:List UInt8)==[])) false (by decide)<|V.q<|V.freeze 2 (G7 (([]++[(eK,A1)])++[(lr,A2)]) q2 c2 true) kq kq<|B3 [] [] (M6 []) kq kq (λk hk=>by obtain ⟨q,hq,_⟩:=hk; exact absurd hq (a1a)) (λw hw q hq=>absurd hq (a1a)) (I8 _)<|B3 [(0,true),(5,true),(6,true),(7,true)] (M6 []::lsP eK A1) (M6 ([]++[(eK,A1)])) kq kq (M1 [] eK A1).1 (M1 [] eK A1).2 (I8 _)<|B3 [(0,true),(3,true),(4,true),(5,true)] (M6 ([]++[(eK,A1)])::lsP lr A2) (M6 (([]++[(eK,A1)])++[(lr,A2)])) kq kq (M1 ([]++[(eK,A1)]) lr A2).1 (M1 ([]++[(eK,A1)]) lr A2).2 (I8 _) ?_;have x7:vK (([]++[(eK,A1)])++[(lr,A2)]):=⟨by show 2<=2000000; decide,λe he=>by
  rcases a2s.1 he with he | he
  ·rw [List.nil_append,a0d] at he;subst he;exact ⟨kq,⟨by show 0<=1000; decide,by show 0<=1000; decide,by show 0<=1000; decide⟩⟩
  ·rw [a0d] at he;subst he;exact ⟨kq,⟨by show 0<=1000; decide,by show 0<=1000; decide,by show 0<=1000; decide⟩⟩⟩
 refine V.c [(10,true),(0,true),(3,true)] (tt K hK (([]++[(eK,A1)])++[(lr,A2)]) x7 q2 c2 0 4) λqc _=>V.q<|V.freeze 3 (d5 rlv (0,0) [] qc.1 qc.2 62 2 true) kq kq<|V.callK [(11,true),(0,true)] (xR K hK [] ⟨asB,qc.1,0,qc.2⟩ rfl (by decide) (by show 7<=100000000; decide) 0 4) kq kq kq (λt=>by cases t<;>kernel_rfl) (λt ht=>?_);unfold vM at ht;rw [asV] at ht;obtain ⟨t',rfl,h1,h2⟩:=ht.1;exact V.q<|m0 84 (!true) false rfl<|V.q<|V.e (qc:Option Addr×Nat) [(3,true)] trivial
def sx1:In:={ f0 3 with d:=3,a:=0 }
theorem vP:j2 sx1=true:=kq
theorem tz:sx1.okL:=⟨by decide,by decide,by decide⟩
theorem Ib (q:Option Addr) (c:Nat):(t7 [] ⟨[3,8,2],q,0,c⟩ 0).2=sx1:=kq
theorem EC:A8 [[77,79,86,69],[114,51],[114,48]]=some sx1:=kq
theorem Ic:((a2f (c6 3).length).all λi=>((c6 3).getD i .D).pok (([[77,79,86,69],[114,51],[114,48]]:List (List UInt8)).getD (i+1) []))=true:=kq
theorem ED:K6 (([[77,79,86,69],[114,51],[114,48]]:List (List UInt8)).getD 0 [])=some 3:=kq
def sx2:In:={ f0 14 with n:=258 }
theorem vQ:j2 sx2=true:=kq
theorem tA:sx2.okL:=⟨by decide,by decide,by decide⟩
theorem Id (q:Option Addr) (c:Nat):(t7 [] ⟨[14,0,0,1,2],q,0,c⟩ 0).2=sx2:=kq
theorem EE:A8 [[74,85,77,80],[64,50,53,56]]=some sx2:=kq
theorem Ie:((a2f (c6 14).length).all λi=>((c6 14).getD i .D).pok (([[74,85,77,80],[64,50,53,56]]:List (List UInt8)).getD (i+1) []))=true:=kq
theorem EF:K6 (([[74,85,77,80],[64,50,53,56]]:List (List UInt8)).getD 0 [])=some 14:=kq
def sx3:In:={ f0 8 with d:=0,a:=1,t:=⟨2,15,0,false,[]⟩ }
theorem vR:j2 sx3=true:=kq
theorem tB:sx3.okL:=⟨by decide,by decide,by decide⟩
theorem If (q:Option Addr) (c:Nat):(t7 [] ⟨[8,2,4,4,30,0,0,0],q,0,c⟩ 0).2=sx3:=kq
theorem EG:A8 [[76,79,65,68],[114,48],[114,49],[50,44,49,53,44,48,44,48,44,61]]=some sx3:=kq
theorem Ig:((a2f (c6 8).length).all λi=>((c6 8).getD i .D).pok (([[76,79,65,68],[114,48],[114,49],[50,44,49,53,44,48,44,48,44,61]]:List (List UInt8)).getD (i+1) []))=true:=kq
theorem EH:K6 (([[76,79,65,68],[114,48],[114,49],[50,44,49,53,44,48,44,48,44,61]]:List (List UInt8)).getD 0 [])=some 8:=kq
def sx4:In:={ f0 17 with n:=5,l:=[2] }
theorem pq:j2 sx4=true:=kq
theorem mY:sx4.okL:=⟨by decide,by decide,by decide⟩
theorem Ih (q:Option Addr) (c:Nat):(t7 [(2,5)] ⟨[17,0,0,0,0,0,2,6],q,1,c⟩ 0).2=sx4:=kq
theorem EJ:A8 [[67,65,76,76],[45],[33,53],[91,114,50,93]]=some sx4:=kq
theorem Ii:((a2f (c6 17).length).all λi=>((c6 17).getD i .D).pok (([[67,65,76,76],[45],[33,53],[91,114,50,93]]:List (List UInt8)).getD (i+1) []))=true:=kq
theorem EK:K6 (([[67,65,76,76],[45],[33,53],[91,114,50,93]]:List (List UInt8)).getD 0 [])=some 17:=kq
def sA4 (g:Nat):IA:=⟨none,0,some ⟨g,0,none⟩,1,none,0⟩
end Go.Proofs
end
section
namespace Go.Proofs
open Go Go.SX
def rF (x y:In):Bool:=x.op != y.op||x.d != y.d||x.a != y.a||x.b != y.b||!(x.t.k==y.t.k&&(x.t.p==y.t.p&&(x.t.q==y.t.q&&(x.t.v==y.t.v&&x.t.s==y.t.s))))||!(x.u.k==y.u.k&&(x.u.p==y.u.p&&(x.u.q==y.u.q&&(x.u.v==y.u.v&&x.u.s==y.u.s))))||!(x.w.k==y.w.k&&(x.w.p==y.w.p&&(x.w.q==y.w.q&&(x.w.v==y.w.v&&x.w.s==y.w.s))))||x.n != y.n||x.m != y.m||x.p != y.p||!(x.vn==y.vn&&x.vs==y.vs)||!x.size==y.size||!x.range==y.range||(x.f.length:Int) != (y.f.length:Int)||(x.l.length:Int) != (y.l.length:Int)||(x.y.length:Int) != (y.y.length:Int)
theorem pt (x y:In):rF x y=!(oV x y&&(x.size==y.size)&&(x.range==y.range)&&((x.f.length:Int)==(y.f.length:Int))&&((x.l.length:Int)==(y.l.length:Int))&&((x.y.length:Int)==(y.y.length:Int))):=by
 simp only [rF,oV,eqT,bne,Bool.not_and,Bool.or_assoc]
theorem lu {x y:In} (h:rF x y=false):x.f.length=y.f.length/\x.l.length=y.l.length/\x.y.length=y.y.length:=by
 rw [pt] at h;simp only [a5x,a0g,beq_iff_eq] at h;omega
theorem EL {x y:In} (h:rF x y=false) (hf:eqL eqF x.f y.f=true) (hl:eqL eqI x.l y.l=true) (hy:eqL eqT x.y y.y=true):Z3 x y=true:=by
 rw [pt] at h;simp only [a5x,a0g] at h;unfold Z3;rw [hf,hl,hy,h.1.1.1.1.1,h.1.1.1.1.2,h.1.1.1.2];rfl
theorem em {α:Type} {f:α->α->Bool} {l m:List α} (h:eqL f l m=true):l.length=m.length:=by
 by_cases e:l.length=m.length
 ·exact e
 ·rw [dW e] at h; cases h
theorem By {x y:In} (h:rF x y=true):Z3 x y=false:=by
 cases e:Z3 x y with
 | false=>rfl
 | true =>
  unfold Z3 at e;simp only [a0g] at e;obtain ⟨⟨⟨⟨⟨h1,h2⟩,h3⟩,h4⟩,h5⟩,h6⟩:=e;rw [pt,h1,h5,h6,em h2,em h3,em h4] at h;simp at h
theorem Bz {x y:In} (h:eqL eqF x.f y.f=false):Z3 x y=false:=by unfold Z3; rw [h]; simp
theorem BA {x y:In} (h:eqL eqI x.l y.l=false):Z3 x y=false:=by unfold Z3; rw [h]; simp
theorem BB {x y:In} (h:eqL eqT x.y y.y=false):Z3 x y=false:=by unfold Z3; rw [h]; simp
end Go.Proofs
end
section
namespace Go.SX
variable {C:Ctx}
theorem M2 (i:Nat) (R:Row) {c:Cfg} (hp:c.st.pers[i]?=some (e8 R)) (ho:R.own=false)
  (h:V C ⟨c.todo,{ c.st with rows:=(c.st.nr,R)::c.st.rows,nr:=c.st.nr+1 }⟩):V C c:=by
 intro ρ a w hS;exact h ρ a w (hS.rowOfP hp ho)
end Go.SX
end
section
namespace Go.Proofs
open Go Go.SX
def seB (x:In) (A:IA) (i:Nat):Blk:=⟨inC x (.row i A.qf x.f.length A.cf) (.row (i+1) A.ql x.l.length A.cl) (.row (i+2) A.qy x.y.length A.cy),30,true⟩
def Mh (x y:In) (A B:IA) (t i:Nat):St :=
 { n:=(Tryz.f26).ntmps,slots:=[(2,ov (.ptr 0 0)),(3,ov (.ptr 1 0)),(t,ov (.int .i64 (i:Int)))],gs:=[],heap:=[(0,seB x A 0),(1,seB y B 3)],next:=2,
    rows:=[(0,C7 x A),(1,C1 x A),(2,E7 x A),(3,C7 y B),(4,C1 y B),(5,E7 y B)],nr:=6,pers:=[],wr:=true,fx:=0 }
theorem vS (x y:In) (A B:IA) (hx:x.okM) (r:Bool) (hr:r=Z3 x y):CallsK a0a 26 [.agg (inV x A),.agg (inV y B)] (stP (lsP x A++lsP y B)) (λ_:Unit=>True) (λ_=>ov (.sb r)) (λ_=>noF):=by
 refine a0j true Tryz.func26 fun ρ0 w0=>V.q<|f9 123 (rF x y) (λE0=>?_) (λwz=>?_)
 ·refine V.q ?_;have hz:r=false:=hr.trans (By E0);subst hz;exact a4o 4 false<|V.z
 ·refine V.q<|M2 0 (C7 x A) kq rfl<|M2 1 (C1 x A) kq rfl<|M2 2 (E7 x A) kq rfl<|M2 3 (C7 y B) kq rfl<|M2 4 (C1 y B) kq rfl<|M2 5 (E7 y B) kq rfl<|K5 0 24 0 ⟨inV x A,30,true⟩ (C7 x A) kq kq kq<|K5 0 25 1 ⟨inC x (.row 0 A.qf x.f.length A.cf) (.val (.slice A.ql x.l.length A.cl)) (.val (.slice A.qy x.y.length A.cy)),30,true⟩ (C1 x A) kq kq kq<|K5 0 26 2 ⟨inC x (.row 0 A.qf x.f.length A.cf) (.row 1 A.ql x.l.length A.cl) (.val (.slice A.qy x.y.length A.cy)),30,true⟩ (E7 x A) kq kq kq<|K5 1 24 3 ⟨inV y B,30,true⟩ (C7 y B) kq kq kq<|K5 1 25 4 ⟨inC y (.row 3 B.qf y.f.length B.cf) (.val (.slice B.ql y.l.length B.cl)) (.val (.slice B.qy y.y.length B.cy)),30,true⟩ (C1 y B) kq kq kq<|K5 1 26 5 ⟨inC y (.row 3 B.qf y.f.length B.cf) (.row 4 B.ql y.l.length B.cl) (.val (.slice B.qy y.y.length B.cy)),30,true⟩ (E7 y B) kq kq kq ?_;have XD:=hx.1;have Az:=hx.2.1;have Xw:=hx.2.2;have Aw:x.f.length=y.f.length:=(lu wz).1;have cZ:x.l.length=y.l.length:=(lu wz).2.1;have WQ:x.y.length=y.y.length:=(lu wz).2.2;refine a1l<|C0 [2,3,5] [0,1] [0,1,2,3,4,5] [] (λi:Nat=>x.f.length - i) (Mh x y A B 5) (λi=>i<=x.f.length/\∀ j,j<i->eqF (x.f.getD j fm0) (y.f.getD j fm0)=true) 0 kq ⟨a0s _,λj hj=>absurd hj (a0x j)⟩ (λi hi ih=>?_);have GT:=hi.1;have q7:=hi.2;refine V.q<|f9 128 (decide ((i:Int)<(x.f.length:Int))) (λhc=>?_) (λhc=>?_)
  ·have e9:i<x.f.length:=by simpa using hc
   refine V.t [] [(0:Int)<=i/\(i:Int)<x.f.length,(0:Int)<=i/\(i:Int)<y.f.length] ⟨⟨by omega,by omega⟩,⟨by omega,by omega⟩⟩<|f9 141 (!eqF (x.f.getD i fm0) (y.f.getD i fm0)) (λhf=>?_) (λhf=>?_)
   ·refine V.q ?_;have hz:r=false:=hr.trans (Bz (dX fm0 e9 (by omega) (by simpa using hf)));subst hz;exact a4o 4 false<|V.z
   ·refine V.q<|a3v 5 i (by omega)<|a1l<|s5 [2,3,5] [0,1] [0,1,2,3,4,5] [] (ih (i+1) ⟨e9,λj hj=>?_⟩ (by omega)) kq kq;by_cases e:j=i
    ·subst e; simpa using hf
    ·exact q7 j (by omega)
  ·have B0:x.f.length=i:=by
    have:¬ i<x.f.length:=by simpa using hc
    omega
   have hf:eqL eqF x.f y.f=true:=aw fm0 Aw (λj hj=>q7 j (by omega));refine V.q<|a1l<|C0 [2,3,6] [0,1] [0,1,2,3,4,5] [] (λi:Nat=>x.l.length - i) (Mh x y A B 6) (λi=>i<=x.l.length/\∀ j,j<i->eqI (x.l.getD j (0:Int)) (y.l.getD j (0:Int))=true) 0 kq ⟨a0s _,λj hj=>absurd hj (a0x j)⟩ (λi hi ih=>?_);have GT:=hi.1;have q7:=hi.2;refine V.q<|f9 146 (decide ((i:Int)<(x.l.length:Int))) (λhc=>?_) (λhc=>?_)
   ·have e9:i<x.l.length:=by simpa using hc
    refine V.t [] [(0:Int)<=i/\(i:Int)<x.l.length,(0:Int)<=i/\(i:Int)<y.l.length] ⟨⟨by omega,by omega⟩,⟨by omega,by omega⟩⟩<|f9 159 (!eqI (x.l.getD i (0:Int)) (y.l.getD i (0:Int))) (λhf=>?_) (λhf=>?_)
    ·refine V.q ?_;have hz:r=false:=hr.trans (BA (dX (0:Int) e9 (by omega) (by simpa using hf)));subst hz;exact a4o 4 false<|V.z
    ·refine V.q<|a3v 6 i (by omega)<|a1l<|s5 [2,3,6] [0,1] [0,1,2,3,4,5] [] (ih (i+1) ⟨e9,λj hj=>?_⟩ (by omega)) kq kq;by_cases e:j=i
     ·subst e; simpa using hf
     ·exact q7 j (by omega)
   ·have B0:x.l.length=i:=by
     have:¬ i<x.l.length:=by simpa using hc
     omega
    have hl:eqL eqI x.l y.l=true:=aw (0:Int) cZ (λj hj=>q7 j (by omega));refine V.q<|a1l<|C0 [2,3,7] [0,1] [0,1,2,3,4,5] [] (λi:Nat=>x.y.length - i) (Mh x y A B 7) (λi=>i<=x.y.length/\∀ j,j<i->eqT (x.y.getD j ty0) (y.y.getD j ty0)=true) 0 kq ⟨a0s _,λj hj=>absurd hj (a0x j)⟩ (λi hi ih=>?_);have GT:=hi.1;have q7:=hi.2;refine V.q<|f9 164 (decide ((i:Int)<(x.y.length:Int))) (λhc=>?_) (λhc=>?_)
    ·have e9:i<x.y.length:=by simpa using hc
     refine V.t [] [(0:Int)<=i/\(i:Int)<x.y.length,(0:Int)<=i/\(i:Int)<y.y.length] ⟨⟨by omega,by omega⟩,⟨by omega,by omega⟩⟩<|f9 177 (!eqT (x.y.getD i ty0) (y.y.getD i ty0)) (λhf=>?_) (λhf=>?_)
     ·refine V.q ?_;have hz:r=false:=hr.trans (BB (dX ty0 e9 (by omega) (by simpa using hf)));subst hz;exact a4o 4 false<|V.z
     ·refine V.q<|a3v 7 i (by omega)<|a1l<|s5 [2,3,7] [0,1] [0,1,2,3,4,5] [] (ih (i+1) ⟨e9,λj hj=>?_⟩ (by omega)) kq kq;by_cases e:j=i
      ·subst e; simpa using hf
      ·exact q7 j (by omega)
    ·have B0:x.y.length=i:=by
      have:¬ i<x.y.length:=by simpa using hc
      omega
     have hy:eqL eqT x.y y.y=true:=aw ty0 WQ (λj hj=>q7 j (by omega));refine V.q ?_;have hz:r=true:=hr.trans (EL wz hf hl hy);subst hz;exact a4o 4 true<|V.z
theorem zU (x y:In) (A B:IA) (hx:x.okL):CallsK a0a 26 [.agg (inV x A),.agg (inV y B)] (stP (lsP x A++lsP y B)) (λ_:Unit=>True) (λ_=>ov (.sb (Z3 x y))) (λ_=>noF):=vS x y A B hx.okM _ rfl
def Ij (x y:In) (A B:IA) (hx:x.okM):Con a0a:=R7 26 (lsP x A++lsP y B) [.agg (inV x A),.agg (inV y B)] (.v (.one (.sb (Z3 x y)))) (CallsK.gives (vS x y A B hx _ rfl) ⟨rfl,rfl,rfl⟩ (λ_ _=>rfl))
def _root_.Go.SX.Con.inst2 {P:Program} (f:FuncId) (need:List m6) (ys ys':List CV) (v:RV) (h:∀ ρ w,C9 need w->Calls P f (ys.map (a2a ρ)).toArray w (u6 (v.den ρ) w)) (h':∀ ρ w,C9 need w->Calls P f (ys'.map (a2a ρ)).toArray w (u6 (v.den ρ) w)):Con P where
 f:=f
 need:=need
 fn:=λxs=>some (v,[xs=ys∨xs=ys'])
 ok:=by
  intro xs v' ob h1 q8 ρ w S0 _;simp only [a0l,a1f] at h1;obtain ⟨rfl,rfl⟩:=h1;rcases q8 (xs=ys∨xs=ys') (a0d.2 rfl) with e | e
  ·rw [e]; exact h ρ w S0
  ·rw [e]; exact h' ρ w S0
theorem pu {l m:List m6} {w:World} (h:C9 l w) (hs:∀ p∈m,p∈l):C9 m w:=λp hp=>h p (hs p hp)
def tC (x:In) (A B D:IA) (hx:x.okL):Con a0a:=Con.inst2 26 (lsP x D++lsP x B++lsP x A) [.agg (inV x D),.agg (inV x A)] [.agg (inV x B),.agg (inV x A)] (.v (.one (.sb (Z3 x x))))
 (fun ρ w hp=>CallsK.gives (zU x x D A hx) ⟨rfl,rfl,rfl⟩ (λ_ _=>rfl) ρ w (pu hp (λp h=>by
  rcases a2s.1 h with h | h
  ·exact a1w _ (a1w _ h)
  ·exact a1v _ h)))
 (fun ρ w hp=>CallsK.gives (zU x x B A hx) ⟨rfl,rfl,rfl⟩ (λ_ _=>rfl) ρ w (pu hp (λp h=>by
  rcases a2s.1 h with h | h
  ·exact a1w _ (a1v _ h)
  ·exact a1v _ h)))
theorem pv {α:Type} {f:α->α->Bool} (hf:∀ a b,f a b=true->a=b):∀ {l m:List α},eqL f l m=true->l=m
 | [],[],_=>rfl
 | x::l,y::m,h=>by
  unfold eqL at h;rw [a0g] at h;rw [hf x y h.1,pv hf h.2]
 | [],_::_,h=>by cases h
 | _::_,[],h=>by cases h
theorem Mi (a b:Int) (h:eqI a b=true):a=b:=by simpa [eqI] using h
theorem tD (a b:Ty) (h:eqT a b=true):a=b:=by
 obtain ⟨a1,a2,a3,a4,a5⟩:=a;obtain ⟨b1,b2,b3,b4,b5⟩:=b;simp only [eqT,a0g,beq_iff_eq] at h;obtain ⟨h1,h2,h3,h4,h5⟩:=h;subst h1 h2 h3 h4 h5;rfl
theorem Mj (a b:Fm) (h:eqF a b=true):a=b:=by
 obtain ⟨a1,a2,a3,a4⟩:=a;obtain ⟨b1,b2,b3,b4⟩:=b;simp only [eqF,a0g,beq_iff_eq] at h;obtain ⟨h1,h2,h3,h4⟩:=h;subst h1 h2 h3 h4;rfl
theorem tE {x y:In} (h:Z3 x y=true):x=y:=by
 unfold Z3 oV at h;simp only [a0g,beq_iff_eq] at h;obtain ⟨⟨⟨⟨⟨hh,hf⟩,hl⟩,hy⟩,hs⟩,hr⟩:=h;obtain ⟨⟨⟨⟨⟨⟨⟨⟨⟨⟨h1,h2⟩,h3⟩,h4⟩,h5⟩,h6⟩,h7⟩,h8⟩,h9⟩,Rt⟩,KN,h12⟩:=hh;have e5:=tD _ _ h5;have e6:=tD _ _ h6;have e7:=tD _ _ h7;have ef:=pv Mj hf;have el:=pv Mi hl;have ey:=pv tD hy;obtain ⟨a1,a2,a3,a4,a5,a6,a7,a8,a9,a10,a11,a12,a13,a14,a15,a16,a17⟩:=x;obtain ⟨b1,b2,b3,b4,b5,b6,b7,b8,b9,b10,b11,b12,b13,b14,b15,b16,b17⟩:=y;simp only at h1 h2 h3 h4 e5 e6 e7 h8 h9 Rt KN h12 ef el ey hs hr;subst h1 h2 h3 h4 e5 e6 e7 h8 h9 Rt KN h12 ef el ey hs hr;rfl
def inR (n lo hi:Int):Bool:=decide (n>=lo)&&decide (n<=hi)
def U1 (n:Int):Bool:=decide (n>=-2147483647)&&decide (n<=2147483647)
def tyR (t:Ty):Bool:=U1 t.k&&U1 t.p&&U1 t.q&&decide ((t.s.length:Int)<=255)
def fmR (f:Fm):Bool:=U1 f.k&&U1 f.w&&U1 f.d&&decide ((f.s.length:Int)<=255)
theorem L5 (n:Int):U1 n=n9 n:=by unfold U1 n9; rw [a6j]; simp; omega
theorem fD (t:Ty):tyR t=J4 t:=by unfold tyR J4; rw [L5,L5,L5]
theorem EM (f:Fm):fmR f=Q9 f:=by unfold fmR Q9; rw [L5,L5,L5]
theorem lv (n:Int):inR n (-1) 3999=cH n:=by unfold inR cH; rw [a6j]; simp; omega
theorem EN (n:Int):inR n 0 3999=N0 n:=by unfold inR N0 cH; rw [a6j]; simp; omega
theorem lw {α:Type} {f g:α->Bool} (h:∀ x,f x=g x) (l:List α):l.all f=l.all g:=by rw [show f=g from funext h]
theorem O8 {a b:Bool} (h:(a&&b)=true):a=true:=(a0g .. ▸ h:a=true/\b=true).1
theorem O9 {a b:Bool} (h:(a&&b)=true):b=true:=(a0g .. ▸ h:a=true/\b=true).2
structure jL (x:In):Prop where
 gd:inR x.d (-1) 3999=true
 ga:inR x.a (-1) 3999=true
 gb:inR x.b (-1) 3999=true
 gn:U1 x.n=true
 gm:U1 x.m=true
 gp:U1 x.p=true
 gt:tyR x.t=true
 gu:tyR x.u=true
 gw:tyR x.w=true
 gvn:U1 x.vn=true
 gvs:decide ((x.vs.length:Int)<=255)=true
 nf:decide ((x.f.length:Int)<=16)=true
 nl:decide ((x.l.length:Int)<=16)=true
 ny:decide ((x.y.length:Int)<=16)=true
 gf:x.f.all fmR=true
 gl:(x.l.all λn=>inR n 0 3999)=true
 gy:x.y.all tyR=true
theorem jL.zero (op:Int):jL (f0 op):=⟨rfl,rfl,rfl,rfl,rfl,rfl,rfl,rfl,rfl,rfl,rfl,rfl,rfl,rfl,rfl,rfl,rfl⟩
def fE (f:Fl) (x:In):Bool:=match f with
 | .aN=>inR x.n 0 1048576
 | .aM=>inR x.m 0 1048576
 | .pN=>inR x.n 0 63
 | .pM=>inR x.m (-1) 63
 | .far=>inR x.n 0 1048576&&inR x.p 0 63
 | _=>true
theorem lx {n lo hi:Int} (h:inR n lo hi=true) (h1:-2147483647<=lo:=by decide) (h2:hi<=2147483647:=by decide):U1 n=true:=by
 unfold inR at h;unfold U1;simp only [a0g,decide_eq_true_eq] at h ⊢;omega
theorem xS (n:Int):inR n 0 63=bD false n:=by unfold inR bD; simp
theorem xU (n:Int):inR n (-1) 63=bD true n:=by unfold inR bD; rw [a6j]; simp; omega
theorem mZ (x:In):(inR x.n 0 1048576&&inR x.p 0 63)=O5 x:=by unfold inR O5; rw [a6j]; simp; omega
theorem Ik (f:Fl) (x:In) (h:f.fineB x=true):fE f x=true:=by
 cases f
 case aN=>exact h
 case aM=>exact h
 case pN=>exact (xS x.n).trans h
 case pM=>exact (xU x.m).trans h
 case far=>exact (mZ x).trans h
 all_goals rfl
theorem Il (f:Fl) (x:In) (g:jL x) (h:fE f x=true):f.fineB x=true:=by
 cases f
 case D=>exact (lv x.d).symm.trans g.gd
 case A=>exact (lv x.a).symm.trans g.ga
 case B=>exact (lv x.b).symm.trans g.gb
 case N=>exact (L5 x.n).symm.trans g.gn
 case M=>exact (L5 x.m).symm.trans g.gm
 case P=>exact (L5 x.p).symm.trans g.gp
 case T=>exact (fD x.t).symm.trans g.gt
 case U=>exact (fD x.u).symm.trans g.gu
 case W=>exact (fD x.w).symm.trans g.gw
 case V =>
  show (n9 x.vn&&decide ((x.vs.length:Int)<=255))=true;rw [<- L5,g.gvn,g.gvs];rfl
 case L =>
  show (x.l.all N0&&decide ((x.l.length:Int)<=16))=true;rw [<- lw EN,g.gl,g.nl];rfl
 case Y =>
  show (x.y.all J4&&decide ((x.y.length:Int)<=16))=true;rw [<- lw fD,g.gy,g.ny];rfl
 case F =>
  show (x.f.all Q9&&decide ((x.f.length:Int)<=16))=true;rw [<- lw EM,g.gf,g.nf];rfl
 case Sz=>rfl
 case Rg=>rfl
 case aN=>exact h
 case aM=>exact h
 case pN=>exact (xS x.n).symm.trans h
 case pM=>exact (xU x.m).symm.trans h
 case far=>exact (mZ x).symm.trans h
theorem jL.mv {x y:In} (g:jL y) (f:Fl) (h:f.fineB x=true):jL (f.mv x y):=by
 cases f
 case D=>exact ⟨(lv x.d).trans h,g.ga,g.gb,g.gn,g.gm,g.gp,g.gt,g.gu,g.gw,g.gvn,g.gvs,g.nf,g.nl,g.ny,g.gf,g.gl,g.gy⟩
 case A=>exact ⟨g.gd,(lv x.a).trans h,g.gb,g.gn,g.gm,g.gp,g.gt,g.gu,g.gw,g.gvn,g.gvs,g.nf,g.nl,g.ny,g.gf,g.gl,g.gy⟩
 case B=>exact ⟨g.gd,g.ga,(lv x.b).trans h,g.gn,g.gm,g.gp,g.gt,g.gu,g.gw,g.gvn,g.gvs,g.nf,g.nl,g.ny,g.gf,g.gl,g.gy⟩
 case N=>exact ⟨g.gd,g.ga,g.gb,(L5 x.n).trans h,g.gm,g.gp,g.gt,g.gu,g.gw,g.gvn,g.gvs,g.nf,g.nl,g.ny,g.gf,g.gl,g.gy⟩
 case M=>exact ⟨g.gd,g.ga,g.gb,g.gn,(L5 x.m).trans h,g.gp,g.gt,g.gu,g.gw,g.gvn,g.gvs,g.nf,g.nl,g.ny,g.gf,g.gl,g.gy⟩
 case P=>exact ⟨g.gd,g.ga,g.gb,g.gn,g.gm,(L5 x.p).trans h,g.gt,g.gu,g.gw,g.gvn,g.gvs,g.nf,g.nl,g.ny,g.gf,g.gl,g.gy⟩
 case T=>exact ⟨g.gd,g.ga,g.gb,g.gn,g.gm,g.gp,(fD x.t).trans h,g.gu,g.gw,g.gvn,g.gvs,g.nf,g.nl,g.ny,g.gf,g.gl,g.gy⟩
 case U=>exact ⟨g.gd,g.ga,g.gb,g.gn,g.gm,g.gp,g.gt,(fD x.u).trans h,g.gw,g.gvn,g.gvs,g.nf,g.nl,g.ny,g.gf,g.gl,g.gy⟩
 case W=>exact ⟨g.gd,g.ga,g.gb,g.gn,g.gm,g.gp,g.gt,g.gu,(fD x.w).trans h,g.gvn,g.gvs,g.nf,g.nl,g.ny,g.gf,g.gl,g.gy⟩
 case V=>exact ⟨g.gd,g.ga,g.gb,g.gn,g.gm,g.gp,g.gt,g.gu,g.gw,(L5 x.vn).trans (O8 h),O9 h,g.nf,g.nl,g.ny,g.gf,g.gl,g.gy⟩
 case L=>exact ⟨g.gd,g.ga,g.gb,g.gn,g.gm,g.gp,g.gt,g.gu,g.gw,g.gvn,g.gvs,g.nf,O9 h,g.ny,g.gf,(lw EN x.l).trans (O8 h),g.gy⟩
 case Y=>exact ⟨g.gd,g.ga,g.gb,g.gn,g.gm,g.gp,g.gt,g.gu,g.gw,g.gvn,g.gvs,g.nf,g.nl,O9 h,g.gf,g.gl,(lw fD x.y).trans (O8 h)⟩
 case F=>exact ⟨g.gd,g.ga,g.gb,g.gn,g.gm,g.gp,g.gt,g.gu,g.gw,g.gvn,g.gvs,O9 h,g.nl,g.ny,(lw EM x.f).trans (O8 h),g.gl,g.gy⟩
 case Sz=>exact ⟨g.gd,g.ga,g.gb,g.gn,g.gm,g.gp,g.gt,g.gu,g.gw,g.gvn,g.gvs,g.nf,g.nl,g.ny,g.gf,g.gl,g.gy⟩
 case Rg=>exact ⟨g.gd,g.ga,g.gb,g.gn,g.gm,g.gp,g.gt,g.gu,g.gw,g.gvn,g.gvs,g.nf,g.nl,g.ny,g.gf,g.gl,g.gy⟩
 case aN=>exact ⟨g.gd,g.ga,g.gb,lx (n:=x.n) (lo:=0) (hi:=1048576) h,g.gm,g.gp,g.gt,g.gu,g.gw,g.gvn,g.gvs,g.nf,g.nl,g.ny,g.gf,g.gl,g.gy⟩
 case aM=>exact ⟨g.gd,g.ga,g.gb,g.gn,lx (n:=x.m) (lo:=0) (hi:=1048576) h,g.gp,g.gt,g.gu,g.gw,g.gvn,g.gvs,g.nf,g.nl,g.ny,g.gf,g.gl,g.gy⟩
 case pN=>exact ⟨g.gd,g.ga,g.gb,lx (n:=x.n) ((xS x.n).trans h),g.gm,g.gp,g.gt,g.gu,g.gw,g.gvn,g.gvs,g.nf,g.nl,g.ny,g.gf,g.gl,g.gy⟩
 case pM=>exact ⟨g.gd,g.ga,g.gb,g.gn,lx (n:=x.m) ((xU x.m).trans h),g.gp,g.gt,g.gu,g.gw,g.gvn,g.gvs,g.nf,g.nl,g.ny,g.gf,g.gl,g.gy⟩
 case far=>exact ⟨g.gd,g.ga,g.gb,lx (n:=x.n) (O8 ((mZ x).trans h)),g.gm,lx (n:=x.p) (O9 ((mZ x).trans h)),g.gt,g.gu,g.gw,g.gvn,g.gvs,g.nf,g.nl,g.ny,g.gf,g.gl,g.gy⟩
theorem jL.mvL {x:In}:∀ {l:List Fl} {y:In},jL y->(∀ f∈l,f.fineB x=true)->jL (mvL x l y)
 | [],_,g,_=>g
 | f::l,y,g,h=>jL.mvL (l:=l) (y:=f.mv x y) (g.mv f (h f (a0f ..))) (λf hf=>h f (a0e _ hf))
theorem rG (x:In) (o:Nat) (ho:F8 o=true) (f7:x.op=(o:Int)):j2 x=true↔Z3 (mvL x (c6 o) (f0 x.op)) x=true/\jL x/\∀ f∈c6 o,fE f x=true:=by
 have h1:=(p6 o).1 ho;have F5:n7 x.op=some (c6 o):=by unfold n7; rw [if_pos (by omega),f7]; rfl
 have hc:j2 x=((c6 o).all (λf=>f.fineB x)&&Z3 x (mvL x (c6 o) (f0 x.op))):=by unfold j2; rw [F5]
 rw [hc,a0g,a0y];constructor
 ·rintro ⟨ha,he⟩;have e:=tE he;refine ⟨?_,?_,λf hf=>Ik f x (ha f hf)⟩
  ·rw [<- e] at he ⊢;exact he
  ·have g:=jL.mvL (x:=x) (jL.zero x.op) ha;rw [<- e] at g;exact g
 ·rintro ⟨he,g,hl⟩;have e:=tE he;refine ⟨λf hf=>Il f x g (hl f hf),?_⟩;rw [e] at he ⊢;exact he
end Go.Proofs
end
section
namespace Go.Proofs
open Go Go.SX Go.ChangeShapes Go.WideShapes Go.ChangeAt Go.RowKit
section
variable {H:Type} {enc:TypeId×Value->H} {w:World} {base:Nat} {sp:Nat->Bool} {held:Bool}
def Im (t:TypeId):Array Field:=match a0a.underlying t with
 | some (.struct fs)=>fs
 | _=>#[]
theorem fields {t:TypeId} {fuel:Nat} {cs:List Value} {x:DataW H×List MemPlace} (hu:a0a.underlying t=some (.struct (Im t))) (h:DataW.trod enc a0a w base sp held fuel t cs=some x) :
  cs.length=a0a.cellsOf t/\∃ n,∀ (i:Nat) (t':TypeId) (o k:Nat),((Im t)[i]?).map (λf=>(f.type,f.offset))=some (t',o)->a0a.cellsOf t'=k->∃ y,DataW.trod enc a0a w base sp held n t' ((cs.drop o).take k)=some y:=by
 obtain ⟨xs,n,_,_,hl,Az,hf⟩:=DataW.trod_struct hu h;refine ⟨hl,n,λi t' o k h1 h2=>?_⟩;cases e:(Im t)[i]? with
 | none=>rw [e] at h1; cases h1
 | some f =>
  rw [e] at h1;simp only [a2u,a0l,a1f] at h1;obtain ⟨h3,h4⟩:=h1;subst h3 h4 h2;have hi:i<xs.length:=by rw [Az]; exact (Array.getElem?_eq_some_iff.1 e).1
  exact ⟨xs[i],by rw [hf i f e,a0b hi]⟩
def Mk (cs:List Value):Nat->List Nat->List Value
 | o,[]=>cs.drop o
 | o,k::ks=>(cs.drop o).take k++Mk cs (o+k) ks
theorem tF (cs:List Value):∀ (ks:List Nat) (o:Nat),Mk cs o ks=cs.drop o
 | [],_=>rfl
 | k::ks,o=>by
  show (cs.drop o).take k++Mk cs (o+k) ks=cs.drop o;rw [tF cs ks (o+k),<- List.drop_drop,a6g]
theorem zV {n:Nat} {cs:List Value} {x:DataW H×List MemPlace} (h:DataW.trod enc a0a w base sp held n 3 cs=some x):∃ k,cs=[Value.int .i64 k]/\(Lit.int .i64 k).wf=true:=by
 obtain ⟨k,h1,_,h2⟩:=DataW.trod_int a3g h;exact ⟨k,h1,h2⟩
theorem OQ {n:Nat} {cs:List Value} {x:DataW H×List MemPlace} (h:DataW.trod enc a0a w base sp held n 9 cs=some x):∃ s:List UInt8,cs=[Value.string ⟨s.toArray⟩]/\s.length<=maxLen:=by
 obtain ⟨s,h1,_,h2⟩:=DataW.trod_string Tryz.underlying9 h;exact ⟨s.data.toList,h1,h2⟩
def rH (p:m6) (w:World):Prop:=p.φ w/\∀ k,p.D k->k<w.heap.size
theorem Ml {α:Type} (f:α->List SV) (d:α) (tS e k:Nat) (hu:a0a.underlying tS=some (.slice e)) (hk:a0a.cellsOf e=k) (hk0:0<k) (hf:∀ a,(f a).length=k/\∀ x∈f a,x.plain)
  (elem:∀ (n:Nat) (cs:List Value) (x:DataW H×List MemPlace),DataW.trod enc a0a w base sp held n e cs=some x->∃ a,cs=(f a).map a3n)
  {n:Nat} {cs:List Value} {x:DataW H×List MemPlace} (h:DataW.trod enc a0a w base sp held n tS cs=some x) :
  ∃ (l:List α) (q:Option Addr) (c:Nat),cs=[.slice q l.length c]/\l.length<=maxLen/\rH (e8 (d5 f d l q c e k false)) w:=by
 rcases DataW.trod_slice hu h with ⟨rfl,_⟩ | ⟨a,len,cap,elems,rest,m,_,rfl,_,_,UV,GR,n8,Nx,_,_⟩
 ·refine ⟨[],none,0,rfl,a0s _,?_,?_⟩
  ·exact (fz (R:=d5 f d [] none 0 e k false) rfl rfl rfl).2 w
  ·exact λj hj=>absurd hj ((fz (R:=d5 f d [] none 0 e k false) rfl rfl rfl).1 j)
 ·have Ax:∀ i,i<len->∃ b:α,w.cells? base (a.add (i*k)) k=some ((f b).map a3n):=λi hi=>by
   have h1:=Nx i hi;rw [hk] at h1;have ao:i<elems.length:=by omega
   rw [a0b ao] at h1;rw [Option.bind_eq_some_iff] at h1;obtain ⟨cs',h2,h3⟩:=h1;obtain ⟨b,rfl⟩:=elem _ _ _ h3;exact ⟨b,h2⟩
  let g:Nat->α:=λi=>if hi:i<len then Classical.choose (Ax i hi) else d
  have hg:∀ i,i<len->w.cells? base (a.add (i*k)) k=some ((f (g i)).map a3n):=λi hi=>by
   have:=Classical.choose_spec (Ax i hi);simp only [g,dif_pos hi];exact this
  have cZ:((a2f len).map g).length=len:=by simp
  have km:∀ i,i<len->((a2f len).map g).getD i d=g i:=λi hi=>by simp [a0r,hi]
  have W1:∀ i,i<len->∀ j x,(f (g i))[j]?=some x->w.cell? ((a.add (i*k)).add j)=some x.den0:=λi hi j x hx=>by
   obtain ⟨_,h2,h3⟩:=World.cells?_some (hg i hi);have hj:j<k:=by
    rw [<- (hf (g i)).1];exact (List.getElem?_eq_some_iff.1 hx).1
   rw [h3 j hj,a2t,hx];rfl
  refine ⟨(a2f len).map g,some a,cap,by rw [cZ],by rw [cZ]; omega,⟨?_,?_,?_,?_⟩,?_⟩
  ·intro i hi;exact hf _
  ·intro kl;have wF:0<len:=by
    have:0<((a2f len).map g).length:=kl;omega
   have h0:∃ x,(f (g 0))[0]?=some x:=by
    have:0<(f (g 0)).length:=by rw [(hf (g 0)).1]; exact hk0
    exact ⟨_,a0b this⟩
   obtain ⟨x0,Xo⟩:=h0;have hs:=World.cell?_spot (W1 0 wF 0 x0 Xo);obtain ⟨b,off,spot⟩:=a;have Qy:spot=none:=by simpa [Addr.add] using hs
   subst Qy;refine ⟨b,off,rfl,λi j x hi hx=>?_⟩;have ao:i<len:=by
    have:i<((a2f len).map g).length:=hi;omega
   have qa:(f (g i))[j]?=some x:=by
    have ns:(f (((a2f len).map g).getD i d))[j]?=some x:=hx;rw [km i ao] at ns;exact ns
   have:=W1 i ao j x qa;rw [add_plain,add_plain,Nat.add_assoc] at this;exact this
  ·intro ho;cases ho
  ·intro o ho;cases ho
  ·rintro j ⟨a',ha',rfl,hd⟩;have ea:a=a':=a2h ha';subst ea;have wF:0<len:=by
    rcases hd with hd | hd | hd
    ·cases hd
    ·have:0<((a2f len).map g).length:=hd;omega
    ·cases hd
   have:=World.cells?_block (hg 0 wF) hk0;simpa [Addr.add] using this
end
end Go.Proofs
end
section
namespace Go.Proofs
open Go Go.SX Go.ChangeShapes Go.WideShapes Go.ChangeAt Go.RowKit
theorem Io:Kids a0a (· < a0a.types.size):=kids_rows kq kq
theorem Ip:∀ t e,t<a0a.types.size->a0a.underlying t=some (.slice e)->0<a0a.cellsOf e:=slices_full_of a0a kq
section
variable {H:Type} {enc:TypeId×Value->H}
theorem hZ {w w':World} {base:Nat} {sp:Nat->Bool} {held:Bool}:∀ {ts:List TypeId} {vs:List Value} {ds:List (DataW H)} {ps:List MemPlace},
    DataW.TrodAll enc a0a w base sp held ts vs ds ps->(∀ p∈ps,w.sameAt w' p)->DataW.TrodAll enc a0a w' base sp held ts vs ds ps
 | [],[],[],_,h,_=>h
 | _::_,_::_,_::_,_,⟨p,q,⟨n,h1⟩,h2,e⟩,hs =>
  ⟨p,q,⟨n,DataW.trod_carry n _ _ _ h1 (λx hx=>hs x (by rw [e]; exact a1w _ hx))⟩,hZ h2 (λx hx=>hs x (by rw [e]; exact a1v _ hx)),e⟩
theorem vT {W W':World} (hc:Chg (λ_=>False) W W') (p:MemPlace) (hp:p.block<W.heap.size):W.sameAt W' p:=by
 cases p with
 | cell b off=>exact World.cell?_of_block (w:=W) (a:=⟨b,off,none⟩) (hc.block b hp id)
 | map b=>exact hc.block b hp id
theorem BC {f:Func} {s:ChangeSpec} {apart fresh handsOn:Bool} {W W':World} {args:Array Value} {ds:List (DataW H)} {before:List MemPlace}
  (hv:s.vars=[]) (hr:f.resultTypes=#[4]) (hp:∀ t∈f.params.toList,t<a0a.types.size)
  (hW:DataW.Whole enc a0a f.params.toList s.vars apart W args.toList ds [] before)
  (hs:s.fn H (ds++[])={ results:=[.lit (.bool true)],args:=ds })
  (hc:Chg (λ_=>False) W W'):s.post enc a0a f apart fresh handsOn false W args (.bool true) W':=by
 have e9:=hW.lt;have Wy:=hW;obtain ⟨p,q,hA,hV,e,hz,hn⟩:=hW;rw [hv] at hV;obtain ⟨_,rfl⟩:=trodVars_none hV;have M3:∀ x∈p,x.block<W.heap.size:=λx hx=>e9 x (by rw [e]; exact a1w _ hx);refine ⟨ds,[],before,[],p,[],Wy,?_,?_,?_,?_,λh=>by cases h⟩
 ·rw [hs,hr];exact trodAll_mk1 (shut_bool Tryz.underlying4 true)
 ·rw [hs];exact hZ (DataW.TrodAll.respare Io Ip hp hA (λx hx=>decide_eq_true (M3 x hx))) (λx hx=>vT hc x (M3 x hx))
 ·rw [hs,hv];rfl
 ·exact (World.keptBut_refl W _).congr hc.os hc.output (λi hi=>hc.block i hi id)
end
end Go.Proofs
end
section
namespace Go.Proofs.YteinbljapojcgaaGreatDoor
open Go Go.SX Go.ChangeShapes Go.WideShapes Go.ChangeAt Go.RowKit
section
variable {H:Type} {enc:TypeId×Value->H}
theorem tG {a:Assume} {C:Checked} {os:Os} {f:FuncId} {fn:Func} {s:ChangeSpec} {conds:List PathCond} {apart fresh handsOn again:Bool} {X:World->Array Value->Prop}
  (hX:∀ (w w':World) (args:Array Value),w.heap=w'.heap->X w args->X w' args)
  (own:ownKnob C.prog.godebug=none) (started:os.Started) (noInit:C.prog.inits.idxOf? f=none) (qe:C.prog.funcs[f]?=some fn)
  (witness:∃ (w:World) (tape:Tape) (i:Input),w.os=os/\(w.forCall tape i).Shaped C.prog/\i.vars=[]/\Input.okWide C.prog (w.forCall tape i) .any w.heap.size f i /\
   ((s.pre enc C.prog fn conds apart (w.forCall tape i).memory i.args/\X (w.forCall tape i).memory i.args)/\sizedMet enc C.prog fn (OpenSpec.ofChange s) apart (w.forCall tape i).memory i.args)/\a.holds C.prog (lone (Frame.enter C.prog f i.args .normal) [] (w.forCall tape i)))
  (contract:∀ (W:World) (base:Nat) (args:Array Value) (ds gs:List (DataW H)) (before:List MemPlace),
      (∀ (j:Nat) t v,fn.params[j]?=some t->args[j]?=some v->Value.okWide C.prog W .any base t v) ->
   DataW.Whole enc C.prog fn.params.toList s.vars apart W args.toList ds gs before ->
   X W args->W.ShapedOpen C.prog ->
   Calls C.prog f args W λe W'=>∃ v,e=.returned v/\s.post enc C.prog fn apart fresh handsOn again W args v W') :
  ReturnsInHanded a C os f .any (λw args=>(s.pre enc C.prog fn conds apart w args/\X w args)/\sizedMet enc C.prog fn (OpenSpec.ofChange s) apart w args) (s.post enc C.prog fn apart fresh handsOn again):=by
 refine returnsInHanded_of_calls own started noInit witness ?_;intro w tape i _ eF _ x7 Y4 UO;obtain ⟨_,_,_,fn',Vg,_,_,_,_,gU⟩:=x7;have e:fn'=fn:=a2h (Vg.symm.trans qe);subst e;obtain ⟨⟨⟨ds,gs,before,hw,hc⟩,hx⟩,hz⟩:=Y4;have pU:=DataW.Whole.of_heap (w':=w.forCall tape i) (by rfl) hw;refine (contract (w.forCall tape i) w.heap.size i.args ds gs before gU pU (hX _ _ _ (by rfl) hx) eF).mono λe W' ⟨v,he,hp⟩=>?_;subst he;exact ChangeSpec.post_blind hp
theorem xV {P:Program} {w:World} {base:Nat} {sp:Nat->Bool} {held:Bool} {t:TypeId} {ms:Array (String×TypeId)} {n:Nat} {cs:List Value} {u:String} {d:DataW H} {ps:List MemPlace} (ht:P.underlying t=some (.interface ms))
  (h:DataW.trod enc P w base sp held n t cs=some (.iface u d,ps)):∃ tp p,cs=[.iface tp p]:=by
 cases n with
 | zero=>simp [DataW.trod] at h
 | succ n =>
  unfold DataW.trod at h;rw [ht] at h;split at h<;>first | exact ⟨_,_,rfl⟩ | simp_all
end
def mo:List (String×DataW Unit):=Rows.codeOrderRow.laid
theorem EO (nm:String) (g t e n:Nat) (k:IntKind) (zs:List Int) (W:World) (d:DataW Unit) (hd:d=Lib.tabData k zs) (hg:a0a.globalNamed nm=some g) (Nq:(a0a.globals[g]?).map (·.type)=some t)
  (ht:a0a.underlying t=some (.array n e)) (he:a0a.underlying e=some (.int k)) (hce:a0a.cellsOf e=1) (eE:a0a.cellsOf t=n)
  (h:∃ g t cs fuel p,a0a.globalNamed nm=some g/\(a0a.globals[g]?).map (·.type)=some t/\W.var? a0a nm=some cs/\DataW.trod (λ_=>()) a0a W 0 (λ_=>true) false fuel t cs.toList=some (d,p)):Lib.TabIs a0a W nm k zs:=by
 obtain ⟨g',t',cs,fuel,p,h1,h2,h3,h4⟩:=h;obtain rfl:=a2h (hg.symm.trans h1);obtain rfl:=a2h (Nq.symm.trans h2);subst hd;unfold Lib.TabIs;rw [h3,<- Lib.cells_of_tab ht he hce eE h4]
theorem zW (nm:String) (g t:Nat) (ms:Array (String×TypeId)) (W:World) (u:String) (d:DataW Unit) (hg:a0a.globalNamed nm=some g) (Nq:(a0a.globals[g]?).map (·.type)=some t) (ht:a0a.underlying t=some (.interface ms))
  (h:∃ g t cs fuel p,a0a.globalNamed nm=some g/\(a0a.globals[g]?).map (·.type)=some t/\W.var? a0a nm=some cs/\DataW.trod (λ_=>()) a0a W 0 (λ_=>true) false fuel t cs.toList=some (.iface u d,p)):∃ tp p,W.var? a0a nm=some #[Value.iface tp p]:=by
 obtain ⟨g',t',cs,fuel,p,h1,h2,h3,h4⟩:=h;obtain rfl:=a2h (hg.symm.trans h1);obtain rfl:=a2h (Nq.symm.trans h2);obtain ⟨tp,q,e⟩:=xV ht h4;exact ⟨tp,q,by rw [h3,Array.eq_one_of_toList e]⟩
theorem gB {P:Program} {w:World}:∀ {l:List (String×DataW Unit)} {ps:List MemPlace},DataW.LaidVars P w l ps->∀ (n:String) (d:DataW Unit),(n,d)∈l ->
  ∃ g t cs fuel p,P.globalNamed n=some g/\(P.globals[g]?).map (·.type)=some t/\w.var? P n=some cs/\DataW.trod (λ_=>()) P w 0 (λ_=>true) false fuel t cs.toList=some (d,p)
 | [],_,_,n,d,h=>by cases h
 | (m,e)::l,_,⟨g,t,cs,fuel,p,q,h1,h2,h3,h4,h5,_⟩,n,d,h=>by
  rcases a0k.1 h with e1 | h
  ·obtain ⟨rfl,rfl⟩:=Prod.mk.inj e1;exact ⟨g,t,cs,fuel,p,h1,h2,h3,h4⟩
  ·exact gB h5 n d h
theorem vU {W:World} (h:laidMetH a0a mo W) (eF:W.ShapedOpen a0a):rH j7 W:=by
 rw [MakeChecks.laidMetH_plain _ _ _ kq] at h;obtain ⟨ps,hL,_,_⟩:=h;have KN:11<W.heap.size:=by
  have h0:((begin a0a (λ_ _=>0) default).world.heap[11]?).bind Obj.row?=some (#[.pointer none],258):=kq;obtain ⟨cs,hh,_⟩:=eF.1 11 #[.pointer none] 258 (of_decide_eq_true kq) h0;rcases Nat.lt_or_ge 11 W.heap.size with e9 | bA
  ·exact e9
  ·rw [Array.getElem?_eq_none bA] at hh; cases hh
 refine ⟨⟨?_,?_,?_,?_,?_,?_⟩,λk hk=>a1b hk KN⟩
 ·exact EO _ 3 296 106 20 .u64 Lib.pow10Tab W _ kq kq kq kq kq kq kq (gB hL _ Rows.laid_internal_strconv_uint64pow10 (a0v (i:=2) kq))
 ·exact zW _ 4 139 #[("Error",142)] W _ _ kq kq kq (gB hL _ Rows.laid_strconv_ErrSyntax (a0v (i:=5) kq))
 ·exact zW _ 5 139 #[("Error",142)] W _ _ kq kq kq (gB hL _ Rows.laid_strconv_ErrRange (a0v (i:=4) kq))
 ·exact cell_of_shapedOpen_int (P:=a0a) (g:=1) (t:=3) (zero:=#[.int .i64 0]) eF (of_decide_eq_true kq) kq rfl kq kq a3g
 ·exact EO _ 0 229 5 256 .u8 Lib.asciiSpaceTab W _ kq kq kq kq kq kq kq (gB hL _ Rows.laid_strings_asciiSpace (a0v (i:=7) kq))
 ·exact EO _ 10 317 5 64 .u8 JR W _ kq kq kq kq kq kq kq (gB hL _ Rows.laid_math_bits_deBruijn64tab (a0v (i:=1) kq))
end Go.Proofs.YteinbljapojcgaaGreatDoor
end
section
namespace Go.Proofs
open Go Go.SX Go.ChangeShapes Go.WideShapes Go.ChangeAt Go.RowKit
section
variable {H:Type} {enc:TypeId×Value->H} {w:World} {base:Nat} {sp:Nat->Bool} {held:Bool}
theorem BD (n:Int×Int):(rlv n).length=2/\∀ x∈rlv n,x.plain:=⟨rfl,λx hx=>by
 simp only [rlv,a0k,a1a,or_false] at hx;rcases hx with rfl|rfl<;>trivial⟩
theorem OR {n:Nat} {cs:List Value} {x:DataW H×List MemPlace} (h:DataW.trod enc a0a w base sp held n 62 cs=some x):∃ r:Int×Int,cs=(rlv r).map a3n:=by
 obtain ⟨hl,m,hf⟩:=fields (t:=62) kq h;have hn:cs.length=2:=hl.trans kq;obtain ⟨y0,h0⟩:=hf 0 3 0 1 kq kq;obtain ⟨k,e0,w0⟩:=zV h0;obtain ⟨y1,h1⟩:=hf 1 3 1 1 kq kq;obtain ⟨p,e1,w1⟩:=zV h1;have e:cs=(cs.drop 0).take 1++((cs.drop 1).take 1++cs.drop 2):=(tF cs [1,1] 0).symm;rw [e0,e1,a5t (by omega)] at e;exact ⟨(k,p),e⟩
theorem Mm {n:Nat} {cs:List Value} {x:DataW H×List MemPlace} (h:DataW.trod enc a0a w base sp held n 47 cs=some x):∃ (l:List (Int×Int)) (q:Option Addr) (c:Nat),cs=[.slice q l.length c]/\l.length<=maxLen/\rH (e8 (d5 rlv (0,0) l q c 62 2 false)) w :=
 Ml rlv (0,0) 47 62 2 kq kq (by decide) BD (λn cs x h=>OR h) h
theorem OS {n:Nat} {cs:List Value} {x:DataW H×List MemPlace} (h:DataW.trod enc a0a w base sp held n 49 cs=some x):∃ (rl:List (Int×Int)) (X:RIn) (pr rg:Int),cs=[Value.int .i64 pr,Value.int .i64 rg,Value.string ⟨X.s.toArray⟩,Value.slice X.q X.n X.c]/\X.n=rl.length/\X.s.length<=maxLen/\rl.length<=maxLen/\rH (e8 (j1 rl X.q X.c)) w:=by
 obtain ⟨hl,m,hf⟩:=fields (t:=49) kq h;have hn:cs.length=4:=hl.trans kq;obtain ⟨y0,h0⟩:=hf 0 3 0 1 kq kq;obtain ⟨pr,e0,w0⟩:=zV h0;obtain ⟨y1,h1⟩:=hf 1 3 1 1 kq kq;obtain ⟨rg,e1,w1⟩:=zV h1;obtain ⟨y2,h2⟩:=hf 2 9 2 1 kq kq;obtain ⟨s,e2,w2⟩:=OQ h2;obtain ⟨y3,h3⟩:=hf 3 47 3 1 kq kq;obtain ⟨rl,q,c,e3,w3,r3⟩:=Mm h3;have e:cs=(cs.drop 0).take 1++((cs.drop 1).take 1++((cs.drop 2).take 1++((cs.drop 3).take 1++cs.drop 4))):=(tF cs [1,1,1,1] 0).symm;rw [e0,e1,e2,e3,a5t (by omega)] at e;exact ⟨rl,⟨s,q,rl.length,c⟩,pr,rg,e,rfl,w2,w3,r3⟩
theorem EP {r:Reach} {b0:Nat} {v:Value} {dd:DataW H} {ps:List MemPlace} (gU:Value.okWide a0a w r b0 49 v) (h:DataW.Trod enc a0a w base sp held 49 v dd ps) :
  ∃ (rl:List (Int×Int)) (X:RIn) (pr rg:Int),v=(CV.agg [.int .i64 pr,.int .i64 rg,.str X.s,.val (.slice X.q X.n X.c)]).den (λ_=>0)/\X.n=rl.length/\X.s.length<=maxLen/\rl.length<=maxLen/\rH (e8 (j1 rl X.q X.c)) w:=by
 obtain ⟨cs,rfl,_⟩:=okWide_struct (P:=a0a) (t:=49) (fs:=Im 49) kq gU;obtain ⟨fuel,hf⟩:=h;obtain ⟨rl,X,pr,rg,e,h1⟩:=OS hf;refine ⟨rl,X,pr,rg,?_,h1⟩;have e':cs=([Value.int .i64 pr,Value.int .i64 rg,Value.string ⟨X.s.toArray⟩,Value.slice X.q X.n X.c]).toArray:=by
  rw [<- e];exact (Array.toArray_toList).symm
 rw [e'];rfl
end
end Go.Proofs
end
section
namespace Go.Proofs
open Go Go.SX
theorem Iq (z:Nat):zz (A6 z)=z:=by
 unfold zz A6;split<;>split<;>omega
def cT:List UInt8->Nat
 | []=>0
 | c::l=>c.toNat % 128+128*cT l
theorem fF:∀ (l:List UInt8) (c:UInt8),cT (l++[c])=cT l+c.toNat % 128*128 ^ l.length
 | [],c=>by simp [cT]
 | x::l,c=>by
  show x.toNat % 128+128*cT (l++[c])=x.toNat % 128+128*cT l+c.toNat % 128*128 ^ (l.length+1);rw [fF l c,a6c,Nat.mul_add,<- Nat.mul_assoc (c.toNat % 128),Nat.mul_comm 128 (c.toNat % 128*128 ^ l.length)];omega
theorem zX:∀ l:List UInt8,cT l<128 ^ l.length
 | []=>by decide
 | x::l=>by
  show x.toNat % 128+128*cT l<128 ^ (l.length+1);have:=zX l;rw [a6c];omega
theorem pw:∀ (k:Nat) (l:List UInt8) (c:UInt8),(∀ x∈l,128<=x.toNat)->c.toNat<128->(l=[]∨c.toNat≠0)->l.length<=k->q9 k (cT (l++[c]))=l++[c]
 | k,[],c,_,h,_,_=>by
  have e:cT ([]++[c])=c.toNat:=by show c.toNat % 128+128*0=c.toNat; omega
  rw [e,T0 h];simp
 | 0,x::l,c,_,_,_,h=>absurd h (by simp)
 | k+1,x::l,c,hl,hc,h0,hk=>by
  have Jq:c.toNat≠0:=by
   rcases h0 with h0 | h0
   ·cases h0
   ·exact h0
  have hx:=hl x (a0f ..);have Az:=x.toNat_lt;have hv:0<cT (l++[c]):=by
   rw [fF];have:0<c.toNat % 128*128 ^ l.length:=Nat.mul_pos (by omega) (Nat.pow_pos (by decide));omega
  have e:cT (x::l++[c])=x.toNat % 128+128*cT (l++[c]):=rfl;have e1:(x.toNat % 128+128*cT (l++[c])) % 128+128=x.toNat:=by omega
  have e2:(x.toNat % 128+128*cT (l++[c])) / 128=cT (l++[c]):=by omega
  rw [e,Y9 (by omega),e1,e2,pw k l c (λy hy=>hl y (a0e _ hy)) hc (.inr Jq) (by simpa using hk)];simp
theorem BE (k z:Nat):q9 k z≠[]:=by
 cases k with
 | zero=>simp [q9]
 | succ k =>
  by_cases h:z<128
  ·simp [T0 h]
  ·simp [Y9 h]
theorem jM:∀ (k z:Nat),z<128 ^ (k+1)->(q9 k z).getLast?=some 0->z=0
 | k,z,hz,h=>by
  by_cases hl:z<128
  ·rw [T0 hl] at h;simp only [List.getLast?_singleton,a0l] at h;have:=congrArg UInt8.toNat h;simp at this;omega
  ·match k with
   | 0=>simp at hz; omega
   | k+1 =>
    rw [Y9 hl,List.getLast?_cons] at h;have hd:z / 128<128 ^ (k+1):=by rw [Nat.div_lt_iff_lt_mul (by decide),<- a6c]; exact hz
    have:=jM k (z / 128) hd (by
     cases e:(q9 k (z / 128)).getLast? with
     | none=>exact absurd (List.getLast?_eq_none_iff.1 e) (BE _ _)
     | some a=>rw [e] at h; simpa using h)
    omega
theorem qo (k:Nat) (l:List UInt8) (c:UInt8) (hl:l≠[]) (hc:c.toNat=0) (hk:l.length<=k):q9 k (cT (l++[c]))≠l++[c]:=by
 intro h;have Jq:c=0:=a4b.1 hc;have e9:=zX (l++[c]);have hz:cT (l++[c])=0:=jM k _ (a1b e9 (Nat.pow_le_pow_right (by decide) (by simp; omega))) (by rw [h,Jq]; simp);rw [hz,T0 (by decide)] at h;have:=congrArg List.length h;cases l with
 | nil=>exact hl rfl
 | cons x l=>simp at this
def rfL (b:List UInt8) (a:Nat):Nat->Nat->Nat->Option (Int×Nat)
 | 0,_,_=>none
 | k+1,i,z =>
  if a+i<b.length then
   if 128<=(b.getD (a+i) 0).toNat then rfL b a k (i+1) (z+(b.getD (a+i) 0).toNat % 128*128 ^ i)
   else if U1 (A6 (z+(b.getD (a+i) 0).toNat % 128*128 ^ i))=true/\q9 9 (zz (A6 (z+(b.getD (a+i) 0).toNat % 128*128 ^ i)))=(b.drop a).take (i+1) then some (A6 (z+(b.getD (a+i) 0).toNat % 128*128 ^ i),a+i+1)
   else none
  else none
def Sp (o:Option (Int×Nat)) (r:Int×RSt):Prop:=match o with
 | some p=>r=(p.1,⟨p.2,false⟩)
 | none=>r.2.bad=true
theorem ly {b:List UInt8} {a i:Nat} (h:a+i<b.length):(b.drop a).take (i+1)=(b.drop a).take i++[b.getD (a+i) 0]:=by
 have h1:i<(b.drop a).length:=by simp; omega
 rw [a2c,a0b h1];simp [a0r,a0b h]
theorem jN {b:List UInt8} {a i:Nat} (h:a+i<=b.length):((b.drop a).take i).length=i:=by
 simp; omega
theorem Mn {z:Nat} (h:34359738368<=z):¬ n9 (A6 z)=true:=by
 unfold n9 A6;split<;>simp<;>omega
theorem EQ {b:List UInt8} {n:Nat} (h:n<b.length):f6 (xIn b) ⟨n,false⟩=(b.getD n 0,⟨n+1,false⟩):=by
 unfold f6;exact if_pos h
theorem BF {b:List UInt8} {n:Nat} (h:¬ n<b.length):f6 (xIn b) ⟨n,false⟩=(0,⟨n,true⟩):=by
 unfold f6;exact if_neg h
theorem Kh {b:List UInt8} {k n z m i:Nat} (h:n<b.length):A7 (xIn b) (k+1) ⟨n,false⟩ z m i =
  if 128<=(b.getD n 0).toNat/\i+1<6 then A7 (xIn b) k ⟨n+1,false⟩ (z+(b.getD n 0).toNat % 128*m) (m*128) (i+1)
  else if 128<=(b.getD n 0).toNat∨(1<i+1/\(b.getD n 0).toNat=0)∨¬ n9 (A6 (z+(b.getD n 0).toNat % 128*m))=true then (0,⟨n+1,true⟩) else (A6 (z+(b.getD n 0).toNat % 128*m),⟨n+1,false⟩):=by
 rw [A7];simp only [EQ h]
theorem ER {b:List UInt8} {k n z m i:Nat} (h:¬ n<b.length):(A7 (xIn b) (k+1) ⟨n,false⟩ z m i).2.bad=true:=by
 rw [A7];simp only [BF h];rw [if_neg (by simp)];split<;>rfl
theorem xW (b:List UInt8) (a:Nat):∀ (k i z:Nat),i+k=5->a+i<=b.length->(∀ x∈(b.drop a).take i,128<=x.toNat)->z=cT ((b.drop a).take i)->Sp (rfL b a k i z) (A7 (xIn b) (k+1) ⟨a+i,false⟩ z (128 ^ i) i)
 | 0,i,z,hk,hl,hp,hz=>by
  have e5:i=5:=by omega
  subst e5;show (A7 (xIn b) 1 ⟨a+5,false⟩ z (128 ^ 5) 5).2.bad=true;by_cases h:a+5<b.length
  ·rw [Kh h,if_neg (by omega),if_pos];by_cases h1:128<=(b.getD (a+5) 0).toNat
   ·exact .inl h1
   by_cases h0:(b.getD (a+5) 0).toNat=0
   ·exact .inr (.inl ⟨by omega,h0⟩)
   refine .inr (.inr (Mn ?_));have:128 ^ 5=34359738368:=by decide
   rw [this];have:(b.getD (a+5) 0).toNat % 128=(b.getD (a+5) 0).toNat:=Nat.mod_eq_of_lt (by omega);rw [this];have:1*34359738368<=(b.getD (a+5) 0).toNat*34359738368:=a6u _ (by omega);omega
  ·exact ER h
 | k+1,i,z,hk,hl,hp,hz=>by
  by_cases h:a+i<b.length
  ·have hv:cT ((b.drop a).take (i+1))=z+(b.getD (a+i) 0).toNat % 128*128 ^ i:=by rw [ly h,fF,jN (by omega),<- hz]
   unfold rfL;rw [if_pos h,Kh h];by_cases hc:128<=(b.getD (a+i) 0).toNat
   ·rw [if_pos hc,if_pos ⟨hc,by omega⟩];exact xW b a k (i+1) _ (by omega) (by omega) (λx hx=>by
     rw [ly h] at hx;rcases a2s.1 hx with hx | hx
     ·exact hp x hx
     ·rw [a0d.1 hx]; exact hc) hv.symm
   ·rw [if_neg hc,if_neg (show ¬ (128<=(b.getD (a+i) 0).toNat/\i+1<6) from λhh=>hc hh.1),Iq,L5];have VT:=ly h;generalize b.getD (a+i) 0=c at *;generalize z+c.toNat % 128*128 ^ i=Z at *;by_cases hn:n9 (A6 Z)=true
    ·by_cases h0:1<i+1/\c.toNat=0
     ·rw [if_neg (show ¬ (n9 (A6 Z)=true/\q9 9 Z=List.take (i+1) (List.drop a b)) from ?_),if_pos (show 128<=c.toNat∨(1<i+1/\c.toNat=0)∨¬ n9 (A6 Z)=true from .inr (.inl h0))]
      ·exact rfl
      ·rintro ⟨_,h2⟩;rw [<- hv,VT] at h2;refine qo 9 _ _ ?_ h0.2 (by rw [jN (by omega)]; omega) h2;intro e;have:=congrArg List.length e;rw [jN (by omega)] at this;simp at this;omega
     ·rw [if_pos (show n9 (A6 Z)=true/\q9 9 Z=List.take (i+1) (List.drop a b) from ?_),if_neg (show ¬ (128<=c.toNat∨(1<i+1/\c.toNat=0)∨¬ n9 (A6 Z)=true) from ?_)]
      ·exact rfl
      ·rintro (h3 | h3 | h3)
       ·exact hc h3
       ·exact h0 h3
       ·exact h3 hn
      ·refine ⟨hn,?_⟩;rw [<- hv,VT];refine pw 9 _ _ hp (by omega) ?_ (by rw [jN (by omega)]; omega);by_cases hi:i=0
       ·left; subst hi; rfl
       ·right; omega
    ·rw [if_neg (show ¬ (n9 (A6 Z)=true/\q9 9 Z=List.take (i+1) (List.drop a b)) from λhh=>hn hh.1),if_pos (show 128<=c.toNat∨(1<i+1/\c.toNat=0)∨¬ n9 (A6 Z)=true from .inr (.inr hn))];exact rfl
  ·unfold rfL;rw [if_neg h];exact ER h
def rnF (b:List UInt8) (n:Int):RV:=bif rnB b n then .tup [.one (.int .i64 0),.one (.int .i64 0),.one (.int .i64 1)] else match rfL b n.toNat 5 0 0 with
 | some p=>.tup [.one (.int .i64 p.1),.one (.int .i64 (p.2:Int)),.one (.int .i64 0)]
 | none=>.tup [.one (.int .i64 0),.one (.int .i64 0),.one (.int .i64 220)]
theorem Ir (X:RIn) (r:RSt):f6 X r=f6 (xIn X.s) r:=rfl
theorem jO (X:RIn):∀ (k:Nat) (r:RSt) (z m n:Nat),A7 X k r z m n=A7 (xIn X.s) k r z m n
 | 0,_,_,_,_=>rfl
 | k+1,r,z,m,n=>by
  rw [A7,A7];simp only [Ir X,jO X k];rfl
theorem xX (n:Nat) (s:Nat):(E4 (n:Int) s).toNat=n / 2 ^ s % 256:=by
 unfold E4;have:((n:Int) / (2 ^ s)) % 256=((n / 2 ^ s % 256:Nat):Int):=by push_cast; rfl
 rw [this,a1h];simp
def Fl.fr (f:Fl) (y:In):Prop:=match f with
 | .L=>y.l=[]
 | .Y=>y.y=[]
 | .F=>y.f=[]
 | _=>True
theorem jQ {n:Int} (h:fo n=true):∃ k:Nat,n=(k:Int)/\k<=1048576:=by
 unfold fo at h;simp only [a0g,decide_eq_true_eq] at h;exact ⟨n.toNat,by omega,by omega⟩
def Is (x:In):List Fl->Nat->List (Int×Int)
 | [],_=>[]
 | f::l,a=>f.rel x a++Is x l (a+(f.enc x).length)
theorem zY (x:In):∀ (l:List Fl) (s:List UInt8×List (Int×Int)),putL x l s=(s.1++l.flatMap (λf=>f.enc x),s.2++Is x l s.1.length)
 | [],s=>by simp [putL,Is]
 | f::l,s=>by
  show putL x l (s.1++f.enc x,s.2++f.rel x s.1.length)=_;rw [zY x l];simp [Is,a0c]
end Go.Proofs
end
section
namespace Go.Proofs
open Go Go.SX
theorem gC {l:List UInt8} (h:iC l=true):P8 (P9 l)=l:=by
 unfold iC at h;unfold P9;cases e:(l==[45]) with
 | true=>rw [beq_iff_eq.1 e]; rfl
 | false =>
  rw [e] at h;simp only [cond_false,a0g,decide_eq_true_eq,beq_iff_eq] at h ⊢;obtain ⟨⟨h1,h2⟩,h3⟩:=h;cases l with
  | nil=>simp at h3
  | cons c r =>
   have hc:c=114:=by
    apply a4b.1;simp only [a5k] at h3;have:(114:UInt8).toNat=114:=rfl;omega
   subst hc;rw [L3] at h1 h2 ⊢;unfold P8;rw [if_neg (by omega),(E6 h1).1]
theorem C5 {α:Type} [BEq α] [LawfulBEq α] {a b:α} (h:a≠b):(a==b)=false:=by rw [beq_eq_false_iff_ne]; exact h
theorem rI {n:Int} (h:cH n=true):iC (P8 n)=true/\P9 (P8 n)=n:=by
 have h1:=K4 h;unfold P8;by_cases hn:n<0
 ·rw [if_pos hn];have:n=-1:=by omega
  subst this;exact ⟨rfl,rfl⟩
 ·rw [if_neg hn];have hd:=w7 (n:=n) (T9.2 ⟨by omega,by omega⟩);unfold iC P9;rw [C5 (show (114::a0i n:List UInt8)≠[45] by intro e; cases e),L3,hd.1,hd.2];simp only [cond_false,a5a,a5k];refine ⟨?_,trivial⟩;rw [decide_eq_true (by omega)];rfl
theorem fG (n:Int):rgT n=P8 n:=by
 unfold rgT P8;by_cases h:n<0
 ·rw [decide_eq_true h,if_pos h]; rfl
 ·rw [decide_eq_false h,if_neg h]; rfl
theorem ES {p:List UInt8} (h:smB p=true):rgT (P9 p)=p:=by
 unfold smB at h;rw [a0g] at h;rw [fG];exact gC h.1
theorem ET {n:Int} (h:N0 n=true):smB (rgT n)=true/\P9 (rgT n)=n:=by
 have h1:=fw h;have h2:=rI (n:=n) (by unfold cH; simp; omega);rw [fG];unfold smB;rw [h2.1,h2.2];refine ⟨?_,rfl⟩;rw [decide_eq_true (by omega)];rfl
theorem xY:∀ (ps:List (List UInt8)) (l:List Int),bE l ps=psG smB P9 l ps
 | [],l=>rfl
 | p::ps,l=>by rw [bE,psG,xY ps]
theorem It {s:List UInt8} (h:lB s=true):[91]++lS s++[93]=s:=by
 unfold lB at h;rw [a0g] at h;unfold lS;rw [a1g,<- DG h.2];exact (gv h.1).symm
theorem Iu (t:List UInt8):lB ([91]++t++[93])=true/\lS ([91]++t++[93])=t:=by
 have e:([91]++t++[93]:List UInt8)=91::(t++[93]):=rfl;unfold lB lS;rw [e,aP,L3,(la t 93).1,(la t 93).2];exact ⟨rfl,rfl⟩
theorem lz {α:Type} {B:List UInt8->Bool} {N:List UInt8->α} (tx:α->List UInt8) (hB:∀ p,B p=true->tx (N p)=p) {s:List UInt8} (h:(lB s&&(psG B N [] (c8 59 (lS s))).2)=true) :
  [91]++a1u ((psG B N [] (c8 59 (lS s))).1.map tx) [59]++[93]=s:=by
 rw [a0g] at h;have:=rp tx hB (c8 59 (lS s)) [] (psG B N [] (c8 59 (lS s))).1 (by rw [<- h.2]);rw [this,List.map_nil,List.nil_append,dP,It h.1]
theorem lA {α:Type} {B:List UInt8->Bool} {N:List UInt8->α} (tx:α->List UInt8) (m:List α) (hm:∀ a∈m,B (tx a)=true/\N (tx a)=a) (hl:(m.length:Int)<=16) (h59:∀ a∈m,(59:UInt8) ∉ tx a) (E0:∀ a∈m,tx a≠[]) :
  lB ([91]++a1u (m.map tx) [59]++[93])=true/\psG B N [] (c8 59 (lS ([91]++a1u (m.map tx) [59]++[93])))=(m,true):=by
 obtain ⟨h1,h2⟩:=Iu (a1u (m.map tx) [59]);refine ⟨h1,?_⟩;rw [h2,iF 59 (m.map tx) (λw hw=>by obtain ⟨a,ha,rfl⟩:=a1d.1 hw; exact h59 a ha) (λw hw=>by obtain ⟨a,ha,rfl⟩:=a1d.1 hw; exact E0 a ha),rq tx m [] hm (by simp; omega)];rfl
def bF (b:UInt8):Prop:=F2 b∨b=33∨b=44∨b=59∨b=64∨b=91∨b=93∨b=114
theorem Mo {b c:UInt8} (h:bF b) (hc:c=32∨c=10):c≠b:=by
 rintro rfl;rcases hc with rfl|rfl
 ·rcases h with h | h | h | h | h | h | h | h
  ·exact V4 h (by decide) rfl
  all_goals exact absurd h (by decide)
 ·rcases h with h | h | h | h | h | h | h | h
  ·exact V4 h (by decide) rfl
  all_goals exact absurd h (by decide)
theorem y6 {a b:List UInt8} (ha:∀ x∈a,bF x) (hb:∀ x∈b,bF x):∀ x∈a++b,bF x:=λx hx=>(a2s.1 hx).elim (ha x) (hb x)
theorem F0 {c:UInt8} (h:bF c):∀ x∈[c],bF x:=λx hx=>by rw [a0d.1 hx]; exact h
theorem I2 (n:Int):∀ x∈a0i n,bF x:=λx hx=>.inl (w5 n x hx)
theorem tH (s:List UInt8):∀ x∈J2 s,bF x:=λx hx=>.inl (X8 s x hx)
theorem Iv (v:Bool):∀ x∈ab v,bF x:=λx hx=>.inl (iG v x hx)
theorem c44:bF 44:=.inr (.inr (.inl rfl))
theorem tI (t:Ty):∀ x∈y9 t,bF x :=
 y6 (y6 (y6 (y6 (y6 (y6 (y6 (y6 (I2 _) (F0 c44)) (I2 _)) (F0 c44)) (I2 _)) (F0 c44)) (Iv _)) (F0 c44)) (tH _)
theorem Mp (t:Fm):∀ x∈E9 t,bF x :=
 y6 (y6 (y6 (y6 (y6 (y6 (I2 _) (F0 c44)) (I2 _)) (F0 c44)) (I2 _)) (F0 c44)) (tH _)
theorem na (n:Int):∀ x∈P8 n,bF x:=by
 unfold P8;split
 ·exact F0 (.inl (.inl rfl))
 ·exact y6 (a:=[114]) (F0 (.inr (.inr (.inr (.inr (.inr (.inr (.inr rfl)))))))) (I2 _)
theorem EU (n:Int):∀ x∈prT n,bF x:=by
 unfold prT;split
 ·exact y6 (a:=[33]) (F0 (.inr (.inl rfl))) (F0 (.inl (.inl rfl)))
 ·exact y6 (a:=[33]) (F0 (.inr (.inl rfl))) (I2 _)
theorem EV {l:List (List UInt8)} (h:∀ w∈l,∀ x∈w,bF x):∀ x∈a1u l [59],bF x:=by
 induction l with
 | nil=>intro x hx; cases hx
 | cons w l ih =>
  cases l with
  | nil=>rw [Lib.join_one]; exact h w (a0f ..)
  | cons v l =>
   rw [cL];exact y6 (h w (a0f ..)) (y6 (a:=[59]) (F0 (.inr (.inr (.inr (.inl rfl))))) (ih (λw hw=>h w (a0e _ hw))))
theorem tJ {α:Type} (tx:α->List UInt8) (h:∀ a,∀ x∈tx a,bF x) (m:List α):∀ x∈[91]++a1u (m.map tx) [59]++[93],bF x :=
 y6 (y6 (F0 (.inr (.inr (.inr (.inr (.inr (.inl rfl))))))) (EV λw hw=>by obtain ⟨a,_,rfl⟩:=a1d.1 hw; exact h a)) (F0 (.inr (.inr (.inr (.inr (.inr (.inr (.inl rfl))))))))
theorem Iw (f:Fl) (x:In):∀ b∈f.txt x,bF b:=by
 have VL:∀ n:Int,∀ b∈64::a0i n,bF b:=λn=>y6 (a:=[64]) (F0 (.inr (.inr (.inr (.inr (.inl rfl)))))) (I2 _);cases f
 case D=>exact na _
 case A=>exact na _
 case B=>exact na _
 case N=>exact I2 _
 case M=>exact I2 _
 case P=>exact I2 _
 case T=>exact tI _
 case U=>exact tI _
 case W=>exact tI _
 case V=>exact y6 (y6 (I2 _) (F0 c44)) (tH _)
 case L=>exact tJ rgT (λa=>by rw [fG]; exact na a) x.l
 case Y=>exact tJ y9 tI x.y
 case F=>exact tJ E9 Mp x.f
 case Sz=>show ∀ b∈Z2 _,bF b; cases a5i .S x<;>exact F0 (.inl (.inr (.inr (.inl (by decide)))))
 case Rg=>show ∀ b∈Z2 _,bF b; cases a5i .R x<;>exact F0 (.inl (.inr (.inr (.inl (by decide)))))
 case aN=>exact VL _
 case aM=>exact VL _
 case pN=>exact EU _
 case pM=>exact EU _
 case far=>exact y6 (y6 (y6 (F0 (.inr (.inl rfl))) (I2 _)) (F0 (.inr (.inr (.inr (.inr (.inl rfl))))))) (I2 _)
theorem vV {l:List UInt8} (h:(B7 (a0o l [64])&&a2d l [64])=true):64::a0i (t8 (a0o l [64]))=l:=by
 rw [a0g] at h;rw [(E6 h.1).1];exact (gv h.2).symm
theorem vW {n:Int} (h:fo n=true):(B7 (a0o (64::a0i n) [64])&&a2d (64::a0i n) [64])=true/\t8 (a0o (64::a0i n) [64])=n:=by
 obtain ⟨k,e,hk⟩:=jQ h;have hd:=w7 (n:=n) (T9.2 ⟨by omega,by omega⟩);rw [L3,aP,hd.1,hd.2];exact ⟨rfl,rfl⟩
theorem vX {l:List UInt8} (h:prB l=true):prT (prN l)=l:=by
 unfold prB at h;unfold prN;cases e:(a0o l [33]==[45]) with
 | true =>
  rw [e] at h;simp only [cond_true] at h ⊢;have e2:=gv h;rw [beq_iff_eq.1 e] at e2;rw [e2]; rfl
 | false =>
  rw [e] at h;simp only [cond_false,a0g,decide_eq_true_eq] at h ⊢;unfold prT;rw [if_neg (by omega),(E6 h.1.1).1];exact (gv h.1.2).symm
theorem rJ {n:Int} (h:0<=n):(a0i n==[45])=false:=by
 refine C5 (λe=>?_);have e2:a0i n=Lib.decDigits n.toNat:=by unfold a0i; rw [if_neg (by omega)]
 have:=dJ n.toNat 45 (by rw [<- e2,e]; exact a0d.2 rfl);simp at this
theorem vY {n:Int} (h:0<=n/\n<=100000∨n=-1):prB (prT n)=true/\prN (prT n)=n:=by
 rcases h with h|rfl
 ·have hd:=w7 (n:=n) (T9.2 ⟨by omega,by omega⟩);unfold prT;rw [if_neg (by omega)];unfold prB prN;rw [L3,aP,rJ h.1,hd.1,hd.2];simp only [cond_false,a5a,decide_eq_true_eq];exact ⟨h.1,trivial⟩
 ·exact ⟨rfl,rfl⟩
theorem nb {no:Bool} {n:Int} (h:bD no n=true):0<=n/\n<=100000∨n=-1:=by
 unfold bD at h;simp only [a0g,a3w,decide_eq_true_eq,beq_iff_eq] at h;omega
theorem rK {s a b:List UInt8} {c:UInt8} (h:a3d s [c]=(a,b,true)):s=a++c::b:=by
 rw [gk] at h
 induction s generalizing a with
 | nil=>simp [O6] at h
 | cons x l ih =>
  unfold O6 at h;by_cases hx:(x==c)=true
  ·rw [if_pos hx] at h;simp only [a1f,and_true] at h;rw [<- h.1,<- h.2,beq_iff_eq.1 hx]; rfl
  ·rw [if_neg hx] at h;simp only [a1f] at h;obtain ⟨h1,h2,h3⟩:=h;rw [<- h1];rw [List.cons_append,<- ih (a:=(O6 c l).1) (by rw [<- h2,<- h3])]
theorem Ix {b:List UInt8} {c:UInt8}:∀ {a:List UInt8},c ∉ a->a3d (a++c::b) [c]=(a,b,true):=by
 intro a h;rw [gk]
 induction a with
 | nil=>simp [O6]
 | cons x l ih =>
  rw [List.cons_append,O6,C5 (λe=>h (by rw [e]; exact a0f ..)),if_neg (by decide),ih (λhm=>h (a0e _ hm))]
theorem BG {l:List UInt8} (h:frB l=true):T3 { (C2:In) with p:=t8 (ac l).1,n:=t8 (ac l).2.1 }=l:=by
 unfold frB at h;simp only [a0g] at h;obtain ⟨⟨⟨h1,h2⟩,h3⟩,h4⟩:=h;unfold T3;simp only;rw [(E6 h3).1,(E6 h4).1];have e:=rK (s:=a0o l [33]) (a:=(ac l).1) (b:=(ac l).2.1) (c:=64) (by rw [<- h2]; rfl);have e2:=gv h1;rw [e] at e2;refine Eq.trans ?_ e2.symm;simp
theorem BH {x:In} (h:O5 x=true):frB (T3 x)=true/\t8 (ac (T3 x)).1=x.p/\t8 (ac (T3 x)).2.1=x.n:=by
 unfold O5 at h;simp only [a0g,decide_eq_true_eq] at h;have hp:=w7 (n:=x.p) (T9.2 ⟨by omega,by omega⟩);have hn:=w7 (n:=x.n) (T9.2 ⟨by omega,by omega⟩);have e:T3 x=33::(a0i x.p++64::a0i x.n):=by unfold T3; simp
 have hc:ac (T3 x)=(a0i x.p,a0i x.n,true):=by
  unfold ac;rw [e,L3,Ix (λhm=>V4 (w5 _ _ hm) (by decide) rfl)]
 unfold frB;rw [hc,e,aP];simp only;rw [hp.1,hn.1];exact ⟨rfl,hp.2,hn.2⟩
theorem EW {l:List UInt8} (h:vlB l=true):a0i (t8 (pC l 0))++[44]++J2 (unN (pC l 1))=l:=by
 unfold vlB at h;simp only [a0g,beq_iff_eq] at h;obtain ⟨⟨h0,h2⟩,h5⟩:=h;have e:a0i (t8 (pC l 0))++[44]++J2 (unN (pC l 1))=a1u [a0i (t8 (pC l 0)),J2 (unN (pC l 1))] [44]:=by simp [Lib.join_cons,Lib.joinTail]
 rw [e,(E6 h2).1,oQ h5,<- Lr h0,dP]
theorem EX {x:In} (h:n9 x.vn=true):vlB (dO x)=true/\t8 (pC (dO x) 0)=x.vn/\unN (pC (dO x) 1)=x.vs:=by
 have e:=vt x;have p0:pC (dO x) 0=a0i x.vn:=by unfold pC; rw [e]; rfl
 have p1:pC (dO x) 1=J2 x.vs:=by unfold pC; rw [e]; rfl
 unfold vlB;rw [p0,p1,(w7 h).1,(w7 h).2,(cM _).1,(cM _).2,e];exact ⟨rfl,rfl,rfl⟩
theorem BI (f:Fl) (l:List UInt8) (x:In) (h:(f.prs l x).1=true) (hy:f.fr x):f.txt (f.prs l x).2=l:=by
 have ht:∀ s,tyB s=true->y9 (tyV s)=s:=λs h=>vp h;have hb:((l==[48])||(l==[49]))=true->Z2 (l==[49])=l:=by
  intro h;rw [a3w,beq_iff_eq,beq_iff_eq] at h;rcases h with rfl|rfl<;>rfl
 cases f
 case D=>exact gC h
 case A=>exact gC h
 case B=>exact gC h
 case N=>exact (E6 h).1
 case M=>exact (E6 h).1
 case P=>exact (E6 h).1
 case T=>exact ht _ h
 case U=>exact ht _ h
 case W=>exact ht _ h
 case V=>exact EW h
 case L =>
  have hy:x.l=[]:=hy;have h:(lB l&&(bE x.l (c8 59 (lS l))).2)=true:=h;show [91]++a1u ((bE x.l (c8 59 (lS l))).1.map rgT) [59]++[93]=l;rw [hy,xY] at h ⊢;exact lz rgT (λp hp=>ES hp) h
 case Y =>
  have hy:x.y=[]:=hy;have h:(lB l&&(psG tyB tyV x.y (c8 59 (lS l))).2)=true:=h;show [91]++a1u ((psG tyB tyV x.y (c8 59 (lS l))).1.map y9) [59]++[93]=l;rw [hy] at h ⊢;exact lz y9 (λp hp=>vp hp) h
 case F =>
  have hy:x.f=[]:=hy;have h:(lB l&&(psG fmB fmV x.f (c8 59 (lS l))).2)=true:=h;show [91]++a1u ((psG fmB fmV x.f (c8 59 (lS l))).1.map E9) [59]++[93]=l;rw [hy] at h ⊢;exact lz E9 (λp hp=>DB hp) h
 case Sz=>exact hb h
 case Rg=>exact hb h
 case aN=>exact vV h
 case aM=>exact vV h
 case pN=>exact vX h
 case pM=>exact vX h
 case far=>exact BG h
theorem BJ (f:Fl) (x y:In) (h:f.fineB x=true) (hy:f.fr y):f.prs (f.txt x) y=(true,f.mv x y):=by
 have hr:∀ n:Int,cH n=true->iC (P8 n)=true/\P9 (P8 n)=n:=λn h=>rI h;have hd:∀ n:Int,n9 n=true->B7 (a0i n)=true/\t8 (a0i n)=n:=λn h=>w7 h;have ht:∀ t:Ty,J4 t=true->tyB (y9 t)=true/\tyV (y9 t)=t:=λt h=>by
  unfold J4 at h;simp only [a0g] at h;exact DC h.1.1.1 h.1.1.2 h.1.2
 have hb:∀ v:Bool,((Z2 v==[48])||(Z2 v==[49]))=true/\(Z2 v==[49])=v:=by intro v; cases v<;>decide
 cases f
 case D =>
  show (iC (P8 (a0u .D x)),a1i .D y (P9 (P8 (a0u .D x))))=_;rw [(hr _ h).1,(hr _ h).2]; rfl
 case A =>
  show (iC (P8 (a0u .A x)),a1i .A y (P9 (P8 (a0u .A x))))=_;rw [(hr _ h).1,(hr _ h).2]; rfl
 case B =>
  show (iC (P8 (a0u .B x)),a1i .B y (P9 (P8 (a0u .B x))))=_;rw [(hr _ h).1,(hr _ h).2]; rfl
 case N =>
  show (B7 (a0i (a0u .N x)),a1i .N y (t8 (a0i (a0u .N x))))=_;rw [(hd _ h).1,(hd _ h).2]; rfl
 case M =>
  show (B7 (a0i (a0u .M x)),a1i .M y (t8 (a0i (a0u .M x))))=_;rw [(hd _ h).1,(hd _ h).2]; rfl
 case P =>
  show (B7 (a0i (a0u .P x)),a1i .P y (t8 (a0i (a0u .P x))))=_;rw [(hd _ h).1,(hd _ h).2]; rfl
 case T =>
  show (tyB (y9 (a3l .T x)),a4q .T y (tyV (y9 (a3l .T x))))=_;rw [(ht _ h).1,(ht _ h).2]; rfl
 case U =>
  show (tyB (y9 (a3l .U x)),a4q .U y (tyV (y9 (a3l .U x))))=_;rw [(ht _ h).1,(ht _ h).2]; rfl
 case W =>
  show (tyB (y9 (a3l .W x)),a4q .W y (tyV (y9 (a3l .W x))))=_;rw [(ht _ h).1,(ht _ h).2]; rfl
 case V =>
  obtain ⟨v1,v2,v3⟩:=EX (x:=x) (O8 h);show (vlB (dO x),({ y with vn:=t8 (pC (dO x) 0),vs:=unN (pC (dO x) 1) }:In))=_;rw [v1,v2,v3]; rfl
 case L =>
  have hy:y.l=[]:=hy;have h1:∀ n∈x.l,N0 n=true:=a0y.1 (O8 h);obtain ⟨e1,e2⟩:=lA (B:=smB) (N:=P9) rgT x.l (λa ha=>ET (h1 a ha)) (of_decide_eq_true (O9 h)) (λa ha hm=>by
   rw [fG] at hm;unfold P8 at hm;split at hm
   ·exact absurd (a0d.1 hm) (by decide)
   ·rcases a0k.1 hm with hm | hm
    ·exact absurd hm (by decide)
    ·exact V4 (w5 _ _ hm) (by decide) rfl) (λa ha=>by
   rw [fG];unfold P8;split<;>exact a3i _ _)
  show (lB _&&(bE y.l (c8 59 (lS _))).2,({ y with l:=(bE y.l (c8 59 (lS _))).1 }:In))=_;rw [hy,xY];show (lB ([91]++a1u (x.l.map rgT) [59]++[93])&&(psG smB P9 [] (c8 59 (lS ([91]++a1u (x.l.map rgT) [59]++[93])))).2,({ y with l:=(psG smB P9 [] (c8 59 (lS ([91]++a1u (x.l.map rgT) [59]++[93])))).1 }:In))=_;rw [e1,e2]; rfl
 case Y =>
  have hy:y.y=[]:=hy;have h1:∀ n∈x.y,J4 n=true:=a0y.1 (O8 h);obtain ⟨e1,e2⟩:=lA (B:=tyB) (N:=tyV) y9 x.y (λa ha=>ht a (h1 a ha)) (of_decide_eq_true (O9 h)) (λa ha hm=>zw a hm) (λa ha=>DE a);show (lB ([91]++a1u (x.y.map y9) [59]++[93])&&(psG tyB tyV y.y (c8 59 (lS ([91]++a1u (x.y.map y9) [59]++[93])))).2,({ y with y:=(psG tyB tyV y.y (c8 59 (lS ([91]++a1u (x.y.map y9) [59]++[93])))).1 }:In))=_;rw [hy,e1,e2]; rfl
 case F =>
  have hy:y.f=[]:=hy;have h1:∀ n∈x.f,Q9 n=true:=a0y.1 (O8 h);obtain ⟨e1,e2⟩:=lA (B:=fmB) (N:=fmV) E9 x.f (λa ha=>by
   have h:=h1 a ha;unfold Q9 at h;simp only [a0g] at h;exact DD h.1.1.1 h.1.1.2 h.1.2) (of_decide_eq_true (O9 h)) (λa ha hm=>zx a hm) (λa ha=>DF a)
  show (lB ([91]++a1u (x.f.map E9) [59]++[93])&&(psG fmB fmV y.f (c8 59 (lS ([91]++a1u (x.f.map E9) [59]++[93])))).2,({ y with f:=(psG fmB fmV y.f (c8 59 (lS ([91]++a1u (x.f.map E9) [59]++[93])))).1 }:In))=_;rw [hy,e1,e2]; rfl
 case Sz =>
  show ((Z2 (a5i .S x)==[48])||(Z2 (a5i .S x)==[49]),a6z .S y (Z2 (a5i .S x)==[49]))=_;rw [(hb _).1,(hb _).2]; rfl
 case Rg =>
  show ((Z2 (a5i .R x)==[48])||(Z2 (a5i .R x)==[49]),a6z .R y (Z2 (a5i .R x)==[49]))=_;rw [(hb _).1,(hb _).2]; rfl
 case aN =>
  have hp:=vW (n:=a0u .N x) h;show (B7 (a0o (64::a0i (a0u .N x)) [64])&&a2d (64::a0i (a0u .N x)) [64],a1i .N y (t8 (a0o (64::a0i (a0u .N x)) [64])))=_;rw [hp.1,hp.2]; rfl
 case aM =>
  have hp:=vW (n:=a0u .M x) h;show (B7 (a0o (64::a0i (a0u .M x)) [64])&&a2d (64::a0i (a0u .M x)) [64],a1i .M y (t8 (a0o (64::a0i (a0u .M x)) [64])))=_;rw [hp.1,hp.2]; rfl
 case pN =>
  have hp:=vY (n:=a0u .N x) (nb (no:=false) h);show (prB (prT (a0u .N x)),a1i .N y (prN (prT (a0u .N x))))=_;rw [hp.1,hp.2]; rfl
 case pM =>
  have hp:=vY (n:=a0u .M x) (nb (no:=true) h);show (prB (prT (a0u .M x)),a1i .M y (prN (prT (a0u .M x))))=_;rw [hp.1,hp.2]; rfl
 case far =>
  obtain ⟨v1,v2,v3⟩:=BH (x:=x) h;show (frB (T3 x),({ y with p:=t8 (ac (T3 x)).1,n:=t8 (ac (T3 x)).2.1 }:In))=_;rw [v1,v2,v3]; rfl
end Go.Proofs
end
section
namespace Go.Proofs
open Go Go.SX
def Fl.key:Fl->List Nat
 | .D=>[1] | .A=>[2] | .B=>[3] | .N=>[19] | .M=>[20] | .P=>[21] | .T=>[4] | .U=>[9] | .W=>[14] | .V=>[22] | .L=>[25] | .Y=>[26] | .F=>[24]
 | .Sz=>[27] | .Rg=>[28] | .aN=>[19] | .aM=>[20] | .pN=>[19] | .pM=>[20] | .far=>[19,21]
def Fl.ind (f g:Fl):Bool:=f.key.all λk=>!g.key.contains k
theorem Iy (f g:Fl) (l:List UInt8) (y:In) (h:f.ind g=true):f.txt (g.prs l y).2=f.txt y:=by
 cases f<;>cases g<;>first | exact absurd h (by decide)|rfl
theorem Mq (f g:Fl) (l:List UInt8) (y:In) (h:f.ind g=true) (hy:f.fr y):f.fr (g.prs l y).2:=by
 cases f<;>cases g<;>first | exact absurd h (by decide) | exact hy
theorem Mr (g:Fl) (l:List UInt8) (y:In):(g.prs l y).2.op=y.op:=by cases g<;>rfl
theorem zZ:∀ (l:List Fl) (ws:List (List UInt8)) (y z:In),ax l ws y=some z->z.op=y.op
 | [],ws,y,z,h=>by cases h; rfl
 | f::l,ws,y,z,h=>by
  rw [aS] at h;split at h
  ·rw [zZ l _ _ z h,Mr]
  ·cases h
theorem rL (f:Fl):∀ (l:List Fl) (ws:List (List UInt8)) (y z:In),(∀ g∈l,f.ind g=true)->ax l ws y=some z->f.txt z=f.txt y
 | [],ws,y,z,_,h=>by cases h; rfl
 | g::l,ws,y,z,hi,h=>by
  rw [aS] at h;split at h
  ·rw [rL f l _ _ z (λg hg=>hi g (a0e _ hg)) h,Iy f g _ _ (hi g (a0f ..))]
  ·cases h
def lC:List Fl->Bool
 | []=>true
 | f::l=>l.all (λg=>f.ind g&&g.ind f)&&lC l
theorem px:∀ (l:List Fl) (ws:List (List UInt8)) (y z:In),lC l=true->(∀ f∈l,f.fr y)->ws.length=l.length->ax l ws y=some z->R8 z l=ws
 | [],[],y,z,_,_,_,_=>rfl
 | [],_::_,y,z,_,_,hl,_=>by simp at hl
 | f::l,[],y,z,_,_,hl,_=>by simp at hl
 | f::l,w::ws,y,z,hi,hy,hl,h=>by
  rw [aS] at h;simp only [a5k,a6t,List.drop_zero] at h;unfold lC at hi;rw [a0g,a0y] at hi;split at h
  ·rename_i ho;have h1:=rL f l ws _ z (λg hg=>O8 (hi.1 g hg)) h;rw [BI f w y ho (hy f (a0f ..))] at h1;have h2:=px l ws _ z hi.2 (λg hg=>Mq g f w y (O9 (hi.1 g hg)) (hy g (a0e _ hg))) (by simpa using hl) h;show f.txt z::R8 z l=_;rw [h1,h2]
  ·cases h
theorem EY (f g:Fl) (x y:In) (h:f.ind g=true) (hy:f.fr y):f.fr (g.mv x y):=by
 cases f<;>cases g<;>first | exact absurd h (by decide) | exact hy
theorem py (x:In):∀ (l:List Fl) (y:In),lC l=true->(∀ f∈l,f.fineB x=true)->(∀ f∈l,f.fr y)->ax l (R8 x l) y=some (mvL x l y)
 | [],y,_,_,_=>rfl
 | f::l,y,hi,hf,hy=>by
  unfold lC at hi;rw [a0g,a0y] at hi;have e:R8 x (f::l)=f.txt x::R8 x l:=rfl;rw [aS,e,a5k,BJ f x y (hf f (a0f ..)) (hy f (a0f ..)),if_pos rfl,a6t,List.drop_zero];exact py x l (f.mv x y) hi.2 (λg hg=>hf g (a0e _ hg)) (λg hg=>EY g f x y (O9 (hi.1 g hg)) (hy g (a0e _ hg)))
theorem jR {o:Nat} (ho:F8 o=true):lC (c6 o)=true:=D7 (p:=λo=>lC (c6 o)) kq ho
theorem fH (f:Fl) (n:Int):f.fr (f0 n):=by cases f<;>first|rfl | trivial
theorem Iz (o:Nat) (ho:F8 o=true) (c:UInt8) (hc:c=32∨c=10):c ∉ s6 o:=by
 have:=D7 (p:=λo=>!(s6 o).contains 32&&!(s6 o).contains 10) kq ho;simp only [a0g,Bool.not_eq_true',List.contains_eq_mem,decide_eq_false_iff_not] at this;rcases hc with rfl|rfl
 ·exact this.1
 ·exact this.2
theorem nd {x:In} (h:j2 x=true):∃ o,F8 o=true/\x.op=(o:Int):=by
 by_cases f7:1<=x.op/\x.op<=38
 ·exact ⟨x.op.toNat,(p6 _).2 (by omega),by omega⟩
 ·have:j2 x=false:=by unfold j2 n7; rw [if_neg f7]
  rw [this] at h; cases h
theorem vZ {x:In} {o:Nat} (ho:F8 o=true) (e:x.op=(o:Int)) (h:j2 x=true):(∀ f∈c6 o,f.fineB x=true)/\mvL x (c6 o) (f0 (o:Int))=x:=by
 have h1:=(p6 o).1 ho;have F5:n7 x.op=some (c6 o):=by unfold n7; rw [if_pos (by omega),e]; rfl
 have hc:j2 x=((c6 o).all (λf=>f.fineB x)&&Z3 x (mvL x (c6 o) (f0 x.op))):=by unfold j2; rw [F5]
 rw [hc] at h;refine ⟨a0y.1 (O8 h),?_⟩;rw [<- e];exact (tE (O9 h)).symm
theorem pz (x:In) (o:Nat) (ho:F8 o=true):d4 32 (aj x o)=s6 o::R8 x (c6 o):=by
 refine iD 32 _ (a3i _ _) (λw hw hm=>?_);rcases a0k.1 hw with rfl | hw
 ·exact Iz o ho 32 (.inl rfl) hm
 ·obtain ⟨f,_,rfl⟩:=a1d.1 hw;exact Mo (Iw f x _ hm) (.inl rfl) rfl
theorem gD {s:List UInt8} {x:In} (h:A8 (d4 32 s)=some x):∃ o,F8 o=true/\x.op=(o:Int)/\j2 x=true/\aj x o=s:=by
 unfold A8 at h;cases hf:K6 ((d4 32 s).getD 0 []) with
 | none=>rw [hf] at h; cases h
 | some o =>
  rw [hf] at h;simp only at h;have hm:=List.mem_of_find?_eq_some hf;obtain ⟨i,hi,rfl⟩:=a1d.1 hm;have Xh:=a3f.1 hi;have ho:F8 (i+1)=true:=(p6 _).2 (by omega);have wM:s6 (i+1)=(d4 32 s).getD 0 []:=by simpa using List.find?_some hf
  split at h
  ·rename_i n8;cases hp:ax (c6 (i+1)) ((d4 32 s).drop 1) (f0 ((i+1:Nat):Int)) with
   | none=>rw [hp] at h; cases h
   | some y =>
    rw [hp] at h;simp only at h;split at h
    ·rename_i pY;cases h;refine ⟨i+1,ho,zZ _ _ _ _ hp,pY,?_⟩;have hs:=px _ _ _ _ (jR ho) (λf _=>fH f _) (by rw [a2p]; omega) hp;unfold aj;rw [hs,wM];have e:(d4 32 s).getD 0 []::(d4 32 s).drop 1=d4 32 s:=by
      cases hc:d4 32 s with
      | nil=>exact absurd hc (cK 32 s)
      | cons a l=>rfl
     rw [e,iE]
    ·cases h
  ·cases h
theorem BK {x:In} {o:Nat} (ho:F8 o=true) (e:x.op=(o:Int)) (h:j2 x=true):A8 (d4 32 (aj x o))=some x:=by
 obtain ⟨h1,h2⟩:=vZ ho e h;rw [pz x o ho];unfold A8;rw [a5k,bW ho];simp only;rw [if_pos (by simp [R8]),a6t,List.drop_zero,py x (c6 o) _ (jR ho) h1 (λf _=>fH f _),h2];simp only;rw [if_pos h]
theorem mq (c:UInt8):∀ (k:Nat) (s:List UInt8),s.length<k->Lib.countFrom [c] k s+1=(d4 c s).length/\Lib.splitK [c] 0 (Lib.countFrom [c] k s) s=d4 c s
 | 0,s,h=>absurd h (a0x _)
 | k+1,s,h=>by
  have bA:=Lib.index_ge s [c];have Gr:=bt c s;rw [<- gk] at Gr;unfold Lib.countFrom;by_cases hi:(Lib.index s [c]==-1)=true
  ·have ao:Lib.index s [c]=-1:=by simpa using hi
   rw [if_pos hi];have e:a3d s [c]=(s,[],false):=by unfold a3d; rw [ao]; rfl
   rw [Gr,e];exact ⟨rfl,rfl⟩
  ·have ao:0<=Lib.index s [c]:=by
    have:Lib.index s [c]≠-1:=by simpa using hi
    omega
   have e:a3d s [c]=(s.take (Lib.index s [c]).toNat,s.drop ((Lib.index s [c]).toNat+1),true):=by unfold a3d; rw [if_pos ao]; rfl
   have E0:s≠[]:=by
    rintro rfl;simp [Lib.index] at hi
   have hl:(s.drop ((Lib.index s [c]).toNat+1)).length<k:=by
    rw [a2p];have:0<s.length:=List.length_pos_iff.2 E0;omega
   obtain ⟨h1,h2⟩:=mq c k (s.drop ((Lib.index s [c]).toNat+1)) hl;rw [if_neg hi,Gr,e];simp only [if_true,a0p,a1r,Nat.zero_add];refine ⟨by omega,?_⟩;rw [Nat.add_comm 1,Lib.splitK,if_neg hi];simp only [Nat.add_zero,a0p,a1r,Nat.zero_add];rw [h2]
theorem Aa (c:UInt8) (s:List UInt8):kW s [c]=d4 c s/\(d4 c s).length=Lib.countB ⟨s.toArray⟩ ⟨[c].toArray⟩+1:=by
 obtain ⟨h1,h2⟩:=mq c (s.length+1) s (a3p _);have e:Lib.countB ⟨s.toArray⟩ ⟨[c].toArray⟩=Lib.countFrom [c] (s.length+1) s:=by
  unfold Lib.countB Lib.count;simp
 refine ⟨?_,by rw [e]; exact h1.symm⟩;unfold kW;rw [Lib.splitB_data,e];simpa using h2
end Go.Proofs
end
section
namespace Go.Proofs
open Go Go.SX
def W5 (s:List UInt8):Int:=if (s==[45])=true then -1 else K2 (s.drop 1)
def rAt (c:UInt8) (s:List UInt8) (i:Nat):List UInt8:=(d4 c s).getD i []
def eL (s:List UInt8):Ty:=⟨K2 (rAt 44 s 0),K2 (rAt 44 s 1),K2 (rAt 44 s 2),rAt 44 s 3==[49],dN ((rAt 44 s 4).drop 1)⟩
def lD (s:List UInt8):Fm:=⟨K2 (rAt 44 s 0),K2 (rAt 44 s 1),K2 (rAt 44 s 2),dN ((rAt 44 s 3).drop 1)⟩
def S6 (s:List UInt8):List UInt8:=(s.take (s.length - 1)).drop 1
def ag {α:Type} (N:List UInt8->α) (l:List α) (s:List UInt8):List α:=if s.length<=2 then l else l++(d4 59 (S6 s)).map N
def Fl.tkn (f:Fl) (s:List UInt8) (y:In):In:=match f with
 | .D=>a1i .D y (W5 s)
 | .A=>a1i .A y (W5 s)
 | .B=>a1i .B y (W5 s)
 | .N=>a1i .N y (K2 s)
 | .M=>a1i .M y (K2 s)
 | .P=>a1i .P y (K2 s)
 | .T=>a4q .T y (eL s)
 | .U=>a4q .U y (eL s)
 | .W=>a4q .W y (eL s)
 | .V=>{ y with vn:=K2 (rAt 44 s 0),vs:=dN ((rAt 44 s 1).drop 1) }
 | .L=>{ y with l:=ag W5 y.l s }
 | .Y=>{ y with y:=ag eL y.y s }
 | .F=>{ y with f:=ag lD y.f s }
 | .Sz=>a6z .S y (s==[49])
 | .Rg=>a6z .R y (s==[49])
 | .aN=>a1i .N y (K2 (s.drop 1))
 | .aM=>a1i .M y (K2 (s.drop 1))
 | .pN=>a1i .N y (K2 (s.drop 1))
 | .pM=>a1i .M y (if (s==[33,45])=true then -1 else K2 (s.drop 1))
 | .far=>{ y with p:=K2 (rAt 64 (s.drop 1) 0),n:=K2 (rAt 64 (s.drop 1) 1) }
def cU:List Fl->List (List UInt8)->In->In
 | [],_,x=>x
 | f::l,ws,x=>cU l (ws.drop 1) (f.tkn (ws.getD 0 []) x)
def fI (s:List UInt8):Option In:=match K6 ((d4 32 s).getD 0 []) with
 | none=>none
 | some o=>if (d4 32 s).length=(c6 o).length+1 then
   (if (j2 (cU (c6 o) ((d4 32 s).drop 1) (f0 (o:Int)))&&(aj (cU (c6 o) ((d4 32 s).drop 1) (f0 (o:Int))) o==s))=true then some (cU (c6 o) ((d4 32 s).drop 1) (f0 (o:Int))) else none)
  else none
theorem ia {n:Int} (h:n9 n=true):-4294967296<=n/\n<=4294967296:=by have:=T9.1 h; omega
theorem tK {n:Int} (h:cH n=true):W5 (P8 n)=n:=by
 have h1:=K4 h;unfold P8 W5;by_cases hn:n<0
 ·have:n=-1:=by omega
  subst this; rfl
 ·rw [if_neg hn,C5 (show (114::a0i n:List UInt8)≠[45] by intro e; cases e),if_neg (by decide)];exact B5 (by omega)
theorem Ab {t:Ty} (h:J4 t=true):eL (y9 t)=t:=by
 unfold J4 at h;simp only [a0g] at h;have e:d4 44 (y9 t)=_:=(X6 (DE t)).symm.trans (vq t);unfold eL rAt;rw [e];show (⟨K2 (a0i t.k),K2 (a0i t.p),K2 (a0i t.q),ab t.v==[49],dN ((J2 t.s).drop 1)⟩:Ty)=t;rw [B5 (ia h.1.1.1),B5 (ia h.1.1.2),B5 (ia h.1.2),(kZ t.v).2];show (⟨t.k,t.p,t.q,t.v,dN (gQ t.s)⟩:Ty)=t;rw [jz]
theorem OT {t:Fm} (h:Q9 t=true):lD (E9 t)=t:=by
 unfold Q9 at h;simp only [a0g] at h;have e:d4 44 (E9 t)=_:=(X6 (DF t)).symm.trans (vr t);unfold lD rAt;rw [e];show (⟨K2 (a0i t.k),K2 (a0i t.w),K2 (a0i t.d),dN ((J2 t.s).drop 1)⟩:Fm)=t;rw [B5 (ia h.1.1.1),B5 (ia h.1.1.2),B5 (ia h.1.2)];show (⟨t.k,t.w,t.d,dN (gQ t.s)⟩:Fm)=t;rw [jz]
theorem xZ {α:Type} {N:List UInt8->α} (tx:α->List UInt8) (m:List α) (hm:∀ a∈m,N (tx a)=a) (h59:∀ a∈m,(59:UInt8) ∉ tx a) (E0:∀ a∈m,tx a≠[]) :
  ag N [] ([91]++a1u (m.map tx) [59]++[93])=m:=by
 cases m with
 | nil=>rfl
 | cons a m =>
  have hp:=iF 59 ((a::m).map tx) (λw hw=>by obtain ⟨a,ha,rfl⟩:=a1d.1 hw; exact h59 a ha) (λw hw=>by obtain ⟨a,ha,rfl⟩:=a1d.1 hw; exact E0 a ha);have hj:a1u ((a::m).map tx) [59]≠[]:=by
   intro e;rw [e] at hp;cases hp
  have Xq:0<(a1u ((a::m).map tx) [59]).length:=List.length_pos_iff.2 hj;rw [X6 hj] at hp;have NA:S6 ([91]++a1u ((a::m).map tx) [59]++[93])=a1u ((a::m).map tx) [59]:=by
   unfold S6;rw [a0c,List.length_singleton,a3x,List.take_left];rfl
  unfold ag;rw [if_neg (by simp only [a0c,a0p,a1r]; omega),NA,hp,List.nil_append,List.map_map];refine (List.map_congr_left λb hb=>?_).trans (List.map_id _);exact hm b hb
theorem IB (n:Int):(59:UInt8) ∉ rgT n:=by
 intro hm;rw [fG] at hm;unfold P8 at hm;split at hm
 ·exact absurd (a0d.1 hm) (by decide)
 ·rcases a0k.1 hm with hm | hm
  ·exact absurd hm (by decide)
  ·exact V4 (w5 _ _ hm) (by decide) rfl
theorem OU (n:Int):rgT n≠[]:=by
 rw [fG];unfold P8;split<;>exact a3i _ _
theorem BL (f:Fl) (x y:In) (h:f.fineB x=true) (hy:f.fr y):f.tkn (f.txt x) y=f.mv x y:=by
 have hp:∀ c n,((c::a0i n:List UInt8).drop 1)=a0i n:=λc n=>rfl;cases f
 case D=>exact congrArg (a1i .D y) (tK (n:=a0u .D x) h)
 case A=>exact congrArg (a1i .A y) (tK (n:=a0u .A x) h)
 case B=>exact congrArg (a1i .B y) (tK (n:=a0u .B x) h)
 case N=>exact congrArg (a1i .N y) (B5 (ia (n:=a0u .N x) h))
 case M=>exact congrArg (a1i .M y) (B5 (ia (n:=a0u .M x) h))
 case P=>exact congrArg (a1i .P y) (B5 (ia (n:=a0u .P x) h))
 case T=>exact congrArg (a4q .T y) (Ab (t:=a3l .T x) h)
 case U=>exact congrArg (a4q .U y) (Ab (t:=a3l .U x) h)
 case W=>exact congrArg (a4q .W y) (Ab (t:=a3l .W x) h)
 case V =>
  have e:d4 44 (dO x)=_:=(X6 (show dO x≠[] from List.append_ne_nil_of_right_ne_nil _ (a3i _ _))).symm.trans (vt x);show ({ y with vn:=K2 (rAt 44 (dO x) 0),vs:=dN ((rAt 44 (dO x) 1).drop 1) }:In)=_;unfold rAt;rw [e];show ({ y with vn:=K2 (a0i x.vn),vs:=dN (gQ x.vs) }:In)=_;rw [B5 (ia (O8 h)),jz];rfl
 case L =>
  have hy:y.l=[]:=hy;have h1:∀ n∈x.l,N0 n=true:=a0y.1 (O8 h);show ({ y with l:=ag W5 y.l ([91]++a1u (x.l.map rgT) [59]++[93]) }:In)={ y with l:=x.l };rw [hy,xZ rgT x.l (λa ha=>by rw [fG]; exact tK (O9 (h1 a ha))) (λa _=>IB a) (λa _=>OU a)]
 case Y =>
  have hy:y.y=[]:=hy;have h1:∀ n∈x.y,J4 n=true:=a0y.1 (O8 h);show ({ y with y:=ag eL y.y ([91]++a1u (x.y.map y9) [59]++[93]) }:In)={ y with y:=x.y };rw [hy,xZ y9 x.y (λa ha=>Ab (h1 a ha)) (λa _=>zw a) (λa _=>DE a)]
 case F =>
  have hy:y.f=[]:=hy;have h1:∀ n∈x.f,Q9 n=true:=a0y.1 (O8 h);show ({ y with f:=ag lD y.f ([91]++a1u (x.f.map E9) [59]++[93]) }:In)={ y with f:=x.f };rw [hy,xZ E9 x.f (λa ha=>OT (h1 a ha)) (λa _=>zx a) (λa _=>DF a)]
 case Sz =>
  show a6z .S y (Z2 (a5i .S x)==[49])=a6z .S y (a5i .S x);cases a5i .S x<;>rfl
 case Rg =>
  show a6z .R y (Z2 (a5i .R x)==[49])=a6z .R y (a5i .R x);cases a5i .R x<;>rfl
 case aN =>
  obtain ⟨k,e,hk⟩:=jQ (n:=a0u .N x) h;exact congrArg (a1i .N y) (B5 (n:=a0u .N x) (by omega))
 case aM =>
  obtain ⟨k,e,hk⟩:=jQ (n:=a0u .M x) h;exact congrArg (a1i .M y) (B5 (n:=a0u .M x) (by omega))
 case pN =>
  have h':bD false (a0u .N x)=true:=h;have hn:0<=a0u .N x:=by
   unfold bD at h';simp at h';omega
  show a1i .N y (K2 ((prT (a0u .N x)).drop 1))=a1i .N y (a0u .N x);unfold prT;rw [if_neg (by omega),hp,B5 (by have:=nb h'; omega)]
 case pM =>
  have h':bD true (a0u .M x)=true:=h;show a1i .M y (if (prT (a0u .M x)==[33,45])=true then -1 else K2 ((prT (a0u .M x)).drop 1))=a1i .M y (a0u .M x);rcases nb h' with hn | hn
  ·have e:prT (a0u .M x)=33::a0i (a0u .M x):=by unfold prT; rw [if_neg (by omega)]
   rw [e,if_neg (λe2=>by
    have e3:a0i (a0u .M x)=[45]:=by simpa using e2
    have e4:=rJ hn.1;rw [e3] at e4;cases e4),hp,B5 (by omega)]
  ·rw [hn]; rfl
 case far =>
  have h':=h;change O5 x=true at h';unfold O5 at h';simp only [a0g,decide_eq_true_eq] at h';have no64:∀ n:Int,(64:UInt8) ∉ a0i n:=λn hm=>V4 (w5 _ _ hm) (by decide) rfl;have e:(T3 x).drop 1=a0i x.p++64::a0i x.n:=by unfold T3; simp
  have e2:d4 64 ((T3 x).drop 1)=[a0i x.p,a0i x.n]:=by rw [e,gq 64 _ _ (no64 _),gr 64 _ (no64 _)]
  show ({ y with p:=K2 (rAt 64 ((T3 x).drop 1) 0),n:=K2 (rAt 64 ((T3 x).drop 1) 1) }:In)=_;unfold rAt;rw [e2];show ({ y with p:=K2 (a0i x.p),n:=K2 (a0i x.n) }:In)=_;rw [B5 (by omega),B5 (by omega)];rfl
theorem pA (x:In):∀ (l:List Fl) (y:In),lC l=true->(∀ f∈l,f.fineB x=true)->(∀ f∈l,f.fr y)->cU l (R8 x l) y=mvL x l y
 | [],y,_,_,_=>rfl
 | f::l,y,hi,hf,hy=>by
  unfold lC at hi;rw [a0g,a0y] at hi;have e:R8 x (f::l)=f.txt x::R8 x l:=rfl;rw [e,cU,a5k,BL f x y (hf f (a0f ..)) (hy f (a0f ..)),a6t,List.drop_zero];exact pA x l (f.mv x y) hi.2 (λg hg=>hf g (a0e _ hg)) (λg hg=>EY g f x y (O9 (hi.1 g hg)) (hy g (a0e _ hg)))
theorem Ms (g:Fl) (l:List UInt8) (y:In):(g.tkn l y).op=y.op:=by cases g<;>rfl
theorem tL:∀ (l:List Fl) (ws:List (List UInt8)) (y:In),(cU l ws y).op=y.op
 | [],_,_=>rfl
 | f::l,ws,y=>by rw [cU,tL l,Ms]
theorem EZ (s:List UInt8):fI s=A8 (d4 32 s):=by
 cases h:A8 (d4 32 s) with
 | some x =>
  obtain ⟨o,ho,e,hf,rfl⟩:=gD h;obtain ⟨h1,h2⟩:=vZ ho e hf;have hw:=pz x o ho;have ht:cU (c6 o) ((d4 32 (aj x o)).drop 1) (f0 (o:Int))=x:=by
   rw [hw,a6t,List.drop_zero,pA x (c6 o) _ (jR ho) h1 (λf _=>fH f _),h2]
  unfold fI;rw [show (d4 32 (aj x o)).getD 0 []=s6 o by rw [hw]; rfl,bW ho];simp only;rw [if_pos (by rw [hw]; simp [R8]),ht,if_pos (by rw [hf]; simp)]
 | none =>
  unfold fI;cases hf:K6 ((d4 32 s).getD 0 []) with
  | none=>rfl
  | some o =>
   simp only;have hm:=List.mem_of_find?_eq_some hf;obtain ⟨i,hi,rfl⟩:=a1d.1 hm;have Xh:=a3f.1 hi;have ho:F8 (i+1)=true:=(p6 _).2 (by omega);split
   ·split
    ·rename_i hc;rw [a0g,beq_iff_eq] at hc;have:=BK (x:=cU (c6 (i+1)) ((d4 32 s).drop 1) (f0 ((i+1:Nat):Int))) ho (tL _ _ _) hc.1;rw [hc.2,h] at this;cases this
    ·rfl
   ·rfl
end Go.Proofs
end
section
namespace Go.Proofs
open Go Go.SX
def Ext (X Y:RIn):Prop:=∃ t,Y.s=X.s++t
def Z5 {α:Type} (g h:RSt->α×RSt):Prop:=∀ r,(g r).2.bad=false->r.bad=false/\h r=g r
section
variable {X Y:RIn} (hE:Ext X Y)
include hE
theorem P4:Z5 (f6 X) (f6 Y):=by
 intro r h;obtain ⟨t,e⟩:=hE;unfold f6 at h ⊢;by_cases hl:r.at_<X.s.length
 ·rw [if_pos hl] at h ⊢;have de:r.at_<Y.s.length:=by rw [e,a0c]; omega
  rw [if_pos de];refine ⟨h,?_⟩;rw [e,a0r,List.getElem?_append_left hl];rfl
 ·rw [if_neg hl] at h;cases h
theorem wa:∀ (k z m n:Nat),Z5 (λr=>A7 X k r z m n) (λr=>A7 Y k r z m n)
 | 0,_,_,_=>λr h=>⟨h,rfl⟩
 | k+1,z,m,n=>λr h=>by
  have h:(A7 X (k+1) r z m n).2.bad=false:=h;show r.bad=false/\A7 Y (k+1) r z m n=A7 X (k+1) r z m n;rw [A7] at h;rw [A7,A7];by_cases c1:128<=(f6 X r).1.toNat/\n+1<6
  ·rw [if_pos c1] at h ⊢;obtain ⟨h1,h2⟩:=wa k _ _ _ _ h;obtain ⟨h3,h4⟩:=P4 hE r h1;rw [h4,if_pos c1];exact ⟨h3,h2⟩
  ·rw [if_neg c1] at h ⊢;by_cases c2:128<=(f6 X r).1.toNat∨(1<n+1/\(f6 X r).1.toNat=0)∨¬ n9 (A6 (z+(f6 X r).1.toNat % 128*m))=true
   ·rw [if_pos c2] at h;cases h
   ·rw [if_neg c2] at h ⊢;obtain ⟨h3,h4⟩:=P4 hE r h;rw [h4,if_neg c1,if_neg c2];exact ⟨h3,rfl⟩
theorem D9:Z5 (c7 X) (c7 Y):=wa hE 6 0 1 0
theorem fJ:Z5 (E5 X) (E5 Y):=by
 intro r h;unfold E5 at h ⊢;simp only [a2r] at h;obtain ⟨h3,h4⟩:=P4 hE r h.1;rw [h4];exact ⟨h3,rfl⟩
theorem ep:Z5 (B4 X) (B4 Y):=by
 intro r h;obtain ⟨t,e⟩:=hE;unfold B4 at h ⊢;simp only at h ⊢;by_cases c:(c7 X r).1<0∨255<(c7 X r).1∨(X.s.length:Int) - (c7 X r).2.at_<(c7 X r).1
 ·rw [if_pos c] at h;cases h
 ·rw [if_neg c] at h ⊢;obtain ⟨h3,h4⟩:=D9 ⟨t,e⟩ r h;have n8:Y.s.length=X.s.length+t.length:=by rw [e,a0c]
  rw [h4,if_neg (by omega)];refine ⟨h3,?_⟩;rw [e,List.take_append_of_le_length (by omega)]
theorem pB:Z5 (E8 X) (E8 Y):=by
 intro r h;unfold E8 at h ⊢;simp only at h ⊢;obtain ⟨h5,e5⟩:=ep hE _ h;obtain ⟨h4,e4⟩:=fJ hE _ h5;obtain ⟨h3,e3⟩:=D9 hE _ h4;obtain ⟨h2,e2⟩:=D9 hE _ h3;obtain ⟨h1,e1⟩:=D9 hE _ h2;rw [e1,e2,e3,e4,e5];exact ⟨h1,rfl⟩
theorem Fa:Z5 (Q3 X) (Q3 Y):=by
 intro r h;unfold Q3 at h ⊢;simp only at h ⊢;obtain ⟨h4,e4⟩:=ep hE _ h;obtain ⟨h3,e3⟩:=D9 hE _ h4;obtain ⟨h2,e2⟩:=D9 hE _ h3;obtain ⟨h1,e1⟩:=D9 hE _ h2;rw [e1,e2,e3,e4];exact ⟨h1,rfl⟩
theorem Ac:Z5 (gI X) (gI Y):=by
 intro r h;unfold gI at h ⊢;obtain ⟨h1,e1⟩:=D9 hE r h;rw [e1];exact ⟨h1,rfl⟩
omit hE in
theorem jS {α:Type} {g h:RSt->α×RSt} (hk:Z5 g h):∀ k,Z5 (o6 g k) (o6 h k)
 | 0=>λr hr=>⟨hr,rfl⟩
 | k+1=>λr hr=>by
  have eQ:(o6 g k (g r).2).2.bad=false:=hr;obtain ⟨h2,e2⟩:=jS hk k _ eQ;obtain ⟨h1,e1⟩:=hk r h2;refine ⟨h1,?_⟩;show ((h r).1::(o6 h k (h r).2).1,(o6 h k (h r).2).2)=((g r).1::(o6 g k (g r).2).1,(o6 g k (g r).2).2);rw [e1,e2]
theorem tM {α:Type} {g h:RSt->α×RSt} (hk:Z5 g h) (l:List α):Z5 (s4 X g l) (s4 Y h l):=by
 intro r hr;unfold s4 at hr ⊢;by_cases c:(decide ((c7 X r).1<0)||decide ((c7 X r).1>16))=true
 ·rw [if_pos c] at hr;cases hr
 ·rw [if_neg c] at hr ⊢;obtain ⟨h2,e2⟩:=jS hk _ _ hr;obtain ⟨h1,e1⟩:=D9 hE r h2;rw [e1,if_neg c,e2];exact ⟨h1,rfl⟩
theorem cV:Z5 (m3 X) (m3 Y):=by
 intro r h;unfold m3 at h ⊢;simp only at h ⊢;obtain ⟨h4,e4⟩:=P4 hE _ h;obtain ⟨h3,e3⟩:=P4 hE _ h4;obtain ⟨h2,e2⟩:=P4 hE _ h3;obtain ⟨h1,e1⟩:=P4 hE _ h2;rw [e1,e2,e3,e4];exact ⟨h1,rfl⟩
omit hE in
theorem Ad {rl:List (Int×Int)} {v:Int} {r:RSt} (h:(m4 rl v r).2.bad=false):r.bad=false:=by
 unfold m4 at h;split at h
 ·exact h
 ·cases h
theorem Fb (no:Bool) (rl:List (Int×Int)) (old:Int):Z5 (λr=>M5 no rl X r old) (λr=>M5 no rl Y r old):=by
 intro r h;simp only at h ⊢;have hb:(m3 X r).2.bad=false:=by
  unfold M5 at h;split at h
  ·exact h
  ·split at h
   ·exact Ad h
   ·cases h
 obtain ⟨h1,e1⟩:=cV hE r hb;refine ⟨h1,?_⟩;unfold M5;rw [e1]
theorem Mt (f:Fl) (rl:List (Int×Int)) (r:RSt) (x:In) (h:(f.rd rl X r x).1.bad=false):r.bad=false/\f.rd rl Y r x=f.rd rl X r x:=by
 cases f
 case D=>obtain ⟨h1,e⟩:=D9 hE r h; refine ⟨h1,?_⟩; simp only [Fl.rd]; rw [e]
 case A=>obtain ⟨h1,e⟩:=D9 hE r h; refine ⟨h1,?_⟩; simp only [Fl.rd]; rw [e]
 case B=>obtain ⟨h1,e⟩:=D9 hE r h; refine ⟨h1,?_⟩; simp only [Fl.rd]; rw [e]
 case N=>obtain ⟨h1,e⟩:=D9 hE r h; refine ⟨h1,?_⟩; simp only [Fl.rd]; rw [e]
 case M=>obtain ⟨h1,e⟩:=D9 hE r h; refine ⟨h1,?_⟩; simp only [Fl.rd]; rw [e]
 case P=>obtain ⟨h1,e⟩:=D9 hE r h; refine ⟨h1,?_⟩; simp only [Fl.rd]; rw [e]
 case T=>obtain ⟨h1,e⟩:=pB hE r h; refine ⟨h1,?_⟩; simp only [Fl.rd]; rw [e]
 case U=>obtain ⟨h1,e⟩:=pB hE r h; refine ⟨h1,?_⟩; simp only [Fl.rd]; rw [e]
 case W=>obtain ⟨h1,e⟩:=pB hE r h; refine ⟨h1,?_⟩; simp only [Fl.rd]; rw [e]
 case V =>
  obtain ⟨h2,e2⟩:=ep hE _ h;obtain ⟨h1,e1⟩:=D9 hE r h2;refine ⟨h1,?_⟩;simp only [Fl.rd];rw [e1,e2]
 case L=>obtain ⟨h1,e⟩:=tM hE (Ac hE) x.l r h; refine ⟨h1,?_⟩; simp only [Fl.rd]; rw [e]
 case Y=>obtain ⟨h1,e⟩:=tM hE (pB hE) x.y r h; refine ⟨h1,?_⟩; simp only [Fl.rd]; rw [e]
 case F=>obtain ⟨h1,e⟩:=tM hE (Fa hE) x.f r h; refine ⟨h1,?_⟩; simp only [Fl.rd]; rw [e]
 case Sz=>obtain ⟨h1,e⟩:=fJ hE r h; refine ⟨h1,?_⟩; simp only [Fl.rd]; rw [e]
 case Rg=>obtain ⟨h1,e⟩:=fJ hE r h; refine ⟨h1,?_⟩; simp only [Fl.rd]; rw [e]
 case aN=>obtain ⟨h1,e⟩:=cV hE r h; refine ⟨h1,?_⟩; simp only [Fl.rd]; rw [e]
 case aM=>obtain ⟨h1,e⟩:=cV hE r h; refine ⟨h1,?_⟩; simp only [Fl.rd]; rw [e]
 case pN=>obtain ⟨h1,e⟩:=Fb hE false rl (a0u .N x) r h; refine ⟨h1,?_⟩; simp only [Fl.rd]; simp only at e; rw [e]
 case pM=>obtain ⟨h1,e⟩:=Fb hE true rl (a0u .M x) r h; refine ⟨h1,?_⟩; simp only [Fl.rd]; simp only at e; rw [e]
 case far =>
  obtain ⟨h2,e2⟩:=cV hE _ h;refine ⟨Ad h2,?_⟩;simp only [Fl.rd];rw [e2]
omit hE in
theorem tN {rl:List (Int×Int)} {X:RIn}:∀ (l:List Fl) (s:RSt×In),s.1.bad=true->rdL rl X l s=s
 | [],s,_=>rfl
 | f::l,s,h=>by
  show rdL rl X l (if s.1.bad=true then s else f.rd rl X s.1 s.2)=s;rw [if_pos h];exact tN l s h
theorem jT (rl:List (Int×Int)):∀ (l:List Fl) (s:RSt×In),(rdL rl X l s).1.bad=false->s.1.bad=false/\rdL rl Y l s=rdL rl X l s
 | [],s,h=>⟨h,rfl⟩
 | f::l,s,h=>by
  have hu:rdL rl X (f::l) s=rdL rl X l (if s.1.bad=true then s else f.rd rl X s.1 s.2):=rfl;have hv:rdL rl Y (f::l) s=rdL rl Y l (if s.1.bad=true then s else f.rd rl Y s.1 s.2):=rfl;by_cases hb:s.1.bad=true
  ·rw [tN (f::l) s hb,hb] at h;cases h
  ·rw [hu,if_neg hb] at h;obtain ⟨h1,e1⟩:=jT rl l _ h;obtain ⟨h2,e2⟩:=Mt hE f rl s.1 s.2 h1;rw [hu,hv,if_neg hb,if_neg hb,e2,e1];exact ⟨h2,rfl⟩
end
def Fl.pr (f:Fl):Bool:=match f with
 | .pN | .pM | .far=>true
 | _=>false
def l8 (X:RIn) (r:RSt):Int×RSt:=if r.bad=true then (0,r) else match rfL X.s r.at_ 5 0 0 with
 | some p=>(p.1,⟨p.2,false⟩)
 | none=>(0,⟨r.at_,true⟩)
def B6 (X:RIn) (n:Int) (r:RSt):List UInt8×RSt :=
 if r.bad=true∨n<0∨1048576<n∨(X.s.length:Int)<(r.at_:Int)+n then ([],⟨r.at_,true⟩) else ((X.s.take (r.at_+n.toNat)).drop r.at_,⟨r.at_+n.toNat,false⟩)
def P5 (X:RIn) (r:RSt):List UInt8×RSt:=B6 X (l8 X r).1 ⟨(l8 X r).2.at_,(l8 X r).2.bad||decide ((l8 X r).1>255)⟩
def K7 (X:RIn) (r:RSt):Bool×RSt:=((B6 X 1 r).1==[1],⟨(B6 X 1 r).2.at_,(B6 X 1 r).2.bad||(!((B6 X 1 r).1==[0])&&!((B6 X 1 r).1==[1]))⟩)
def be (l:List UInt8):Nat:=l.foldl (λn c=>256*n+c.toNat) 0
def n5 (X:RIn) (r:RSt):Int×RSt:=((be (B6 X 4 r).1:Int),(B6 X 4 r).2)
def Y1 (X:RIn) (r:RSt):Ty×RSt :=
 let a:=l8 X r
 let b:=l8 X a.2
 let c:=l8 X b.2
 let d:=K7 X c.2
 let e:=P5 X d.2
 (⟨a.1,b.1,c.1,d.1,e.1⟩,e.2)
def mz (X:RIn) (r:RSt):Fm×RSt :=
 let a:=l8 X r
 let b:=l8 X a.2
 let c:=l8 X b.2
 let e:=P5 X c.2
 (⟨a.1,b.1,c.1,e.1⟩,e.2)
def tkI (X:RIn) (r:RSt):Int×RSt:=((l8 X r).1 - 1,(l8 X r).2)
def m9 (X:RIn) (r:RSt):Int×RSt:=if (l8 X r).1<0∨16<(l8 X r).1 then (0,⟨(l8 X r).2.at_,true⟩) else l8 X r
def Z6 {α:Type} (X:RIn) (g:RSt->α×RSt) (l:List α) (r:RSt):List α×RSt:=(l++(o6 g (m9 X r).1.toNat (m9 X r).2).1,(o6 g (m9 X r).1.toNat (m9 X r).2).2)
def Sm {α:Type} (p q:α×RSt):Prop:=(p.2.bad=true/\q.2.bad=true)∨(p.2.bad=false/\p=q)
def SmF {α:Type} (X:RIn) (g h:RSt->α×RSt):Prop:=∀ r,j8 X r->(r.bad=true->(g r).2.bad=true/\(h r).2.bad=true)/\(r.bad=false->Sm (g r) (h r))
def OkF {α:Type} (X:RIn) (g:RSt->α×RSt):Prop:=∀ r,j8 X r->j8 X (g r).2
theorem SmF.pure {α:Type} {X:RIn} (v:α):SmF X (λr=>(v,r)) (λr=>(v,r)):=λr _=>⟨λh=>⟨h,h⟩,λh=>.inr ⟨h,rfl⟩⟩
theorem SmF.bind {α β:Type} {X:RIn} {g h:RSt->α×RSt} {kg kh:α->RSt->β×RSt} (s:SmF X g h) (og:OkF X g) (oh:OkF X h) (k:∀ a,SmF X (kg a) (kh a)) :
  SmF X (λr=>kg (g r).1 (g r).2) (λr=>kh (h r).1 (h r).2):=λr hr=>by
 refine ⟨λhb=>?_,λhb=>?_⟩
 ·obtain ⟨h1,h2⟩:=(s r hr).1 hb;exact ⟨((k (g r).1 _ (og r hr)).1 h1).1,((k (h r).1 _ (oh r hr)).1 h2).2⟩
 ·rcases (s r hr).2 hb with ⟨h1,h2⟩ | ⟨h1,h2⟩
  ·exact .inl ⟨((k (g r).1 _ (og r hr)).1 h1).1,((k (h r).1 _ (oh r hr)).1 h2).2⟩
  ·have h3:=(k (g r).1 _ (og r hr)).2 h1;show Sm (kg (g r).1 (g r).2) (kh (h r).1 (h r).2);rw [<- h2];exact h3
theorem Fc {α:Type} {h:RSt->α×RSt} (k:Z5 h h) {r:RSt} (hb:r.bad=true):(h r).2.bad=true:=by
 cases e:(h r).2.bad with
 | true=>rfl
 | false=>have:=(k r e).1; rw [hb] at this; cases this
theorem v7 (X:RIn):Ext X X:=⟨[],(a1q _).symm⟩
theorem aU {X:RIn} {r:RSt} (h:r.bad=true):l8 X r=(0,r):=by unfold l8; rw [if_pos h]
theorem gE {X:RIn} {n:Int} {r:RSt} (h:r.bad=true):(B6 X n r).2.bad=true:=by unfold B6; rw [if_pos (.inl h)]
theorem L6 (X:RIn):SmF X (l8 X) (c7 X):=λr hr=>⟨λhb=>⟨by rw [aU hb]; exact hb,Fc (D9 (v7 X)) hb⟩,λhb=>by
 obtain ⟨a,b⟩:=r;simp only at hb;subst hb;have h:=xW X.s a 5 0 0 rfl hr.2 (λx hx=>by simp at hx) rfl;have hR:A7 (xIn X.s) (5+1) ⟨a+0,false⟩ 0 (128 ^ 0) 0=c7 X ⟨a,false⟩:=(jO X _ _ _ _ _).symm;rw [hR] at h;unfold l8;rw [if_neg (by simp)];simp only;cases e:rfL X.s a 5 0 0 with
 | none=>rw [e] at h; exact .inl ⟨rfl,h⟩
 | some p =>
  rw [e] at h;have h':c7 X ⟨a,false⟩=(p.1,⟨p.2,false⟩):=h;rw [h'];exact .inr ⟨rfl,rfl⟩⟩
theorem v8 {X:RIn} {r:RSt} (h:j8 X r):j8 X (l8 X r).2:=by
 cases hb:r.bad with
 | true=>rw [aU hb]; exact h
 | false =>
  rcases ((L6 X) r h).2 hb with ⟨h1,_⟩ | ⟨_,h2⟩
  ·unfold l8 at h1 ⊢;rw [if_neg (by rw [hb]; simp)] at h1 ⊢;split
   ·rename_i p e; rw [e] at h1; cases h1
   ·exact h
  ·rw [h2]; exact (l9 h).1
theorem pD {X:RIn} {n:Int} {r:RSt} (h:j8 X r):j8 X (B6 X n r).2:=by
 unfold B6;split
 ·exact h
 ·rename_i hc;exact ⟨h.1,by simp only; omega⟩
theorem ya (X:RIn):SmF X (P5 X) (B4 X):=λr hr=>⟨λhb=>⟨by
  unfold P5;exact gE (by rw [aU hb]; simp [hb]),Fc (ep (v7 X)) hb⟩,λhb=>by
 rcases (L6 X r hr).2 hb with ⟨h1,h2⟩ | ⟨h1,h2⟩
 ·refine .inl ⟨?_,?_⟩
  ·unfold P5;exact gE (by simp [h1])
  ·unfold B4;simp only;split
   ·rfl
   ·exact h2
 ·unfold P5 B4;rw [h2];rw [h2] at h1;simp only;generalize c7 X r=v at h1;obtain ⟨n,a,b⟩:=v;simp only at h1 ⊢;subst h1;by_cases hc:n<0∨255<n∨(X.s.length:Int) - a<n
  ·rw [if_pos hc];refine .inl ⟨?_,rfl⟩;unfold B6;rw [if_pos (by simp only [Bool.false_or,decide_eq_true_eq]; omega)]
  ·rw [if_neg hc];unfold B6;rw [if_neg (by simp only [Bool.false_or,decide_eq_true_eq]; omega)];exact .inr ⟨rfl,rfl⟩⟩
theorem yb {X:RIn} {r:RSt} {k:Nat} (hb:r.bad=false) (hk:k<=4):B6 X (k:Int) r=if r.at_+k<=X.s.length then ((X.s.take (r.at_+k)).drop r.at_,⟨r.at_+k,false⟩) else ([],⟨r.at_,true⟩):=by
 unfold B6;by_cases h:r.at_+k<=X.s.length
 ·rw [if_pos h,if_neg (by rw [hb]; simp; omega)];rfl
 ·rw [if_neg h,if_pos (by omega)]
theorem ay {X:RIn} {r:RSt} (hb:r.bad=false) (h:r.at_+1<=X.s.length):f6 X r=(X.s.getD r.at_ 0,⟨r.at_+1,false⟩):=by
 unfold f6;rw [if_pos (by omega),hb]
theorem fK {X:RIn} {r:RSt} (h:¬ r.at_+1<=X.s.length):(f6 X r).2.bad=true:=by
 unfold f6;rw [if_neg (by omega)]
theorem Fd {X:RIn} {r:RSt} (h:r.bad=true):(f6 X r).2.bad=true:=Fc (P4 (v7 X)) h
theorem gG (s:List UInt8) (a k:Nat) (h:a+(k+1)<=s.length):(s.take (a+(k+1))).drop a=s.getD a 0::(s.take (a+1+k)).drop (a+1):=by
 have h1:a<(s.take (a+(k+1))).length:=by rw [a2b]; omega
 rw [kU _ a 0 h1];congr 1
 ·rw [a0r,List.getElem?_take_of_lt (by omega),a0r]
 ·rw [show a+(k+1)=a+1+k by omega]
theorem tO (s:List UInt8) (a:Nat):(s.take (a+0)).drop a=[]:=by rw [a5t (by rw [a2b]; omega)]
theorem tP (X:RIn):SmF X (K7 X) (E5 X):=λr hr=>⟨λhb=>⟨by
  unfold K7;simp only;rw [gE hb];rfl,Fc (fJ (v7 X)) hb⟩,λhb=>by
 have W2:=yb (X:=X) (r:=r) (k:=1) hb (by decide);have W2:B6 X 1 r=_:=W2;unfold K7 E5;rw [W2];by_cases h:r.at_+1<=X.s.length
 ·rw [if_pos h,ay hb h,gG _ _ 0 h,tO];simp only;generalize X.s.getD r.at_ 0=c;by_cases h0:c.toNat=0
  ·have:c=0:=a4b.1 h0;subst this;exact .inr ⟨rfl,rfl⟩
  by_cases h1:c.toNat=1
  ·have:c=1:=a4b.1 h1;subst this;exact .inr ⟨rfl,rfl⟩
  ·refine .inl ⟨?_,?_⟩
   ·have e0:c≠0:=λe=>h0 (by rw [e]; rfl);have e1:c≠1:=λe=>h1 (by rw [e]; rfl);simp [e0,e1]
   ·simp;omega
 ·rw [if_neg h];exact .inl ⟨rfl,by simp only; rw [fK h]; rfl⟩⟩
theorem eM (X:RIn):OkF X (c7 X):=λ_ h=>(l9 h).1
theorem Fe (X:RIn):OkF X (B4 X):=λ_ h=>jx h
theorem Ki (X:RIn):OkF X (E5 X):=λ_ h=>aL h
theorem V9 (X:RIn):OkF X (l8 X):=λ_ h=>v8 h
theorem rM (X:RIn):OkF X (K7 X):=λ_ h=>pD (n:=1) h
theorem fL (X:RIn):OkF X (P5 X):=λ_ h=>pD (n:=_) (r:=⟨_,_⟩) (v8 h)
theorem Ae (X:RIn):SmF X (Y1 X) (E8 X):=by
 have h:=(L6 X).bind (V9 X) (eM X) (λa=>(L6 X).bind (V9 X) (eM X) (λb=>(L6 X).bind (V9 X) (eM X) (λc=>(tP X).bind (rM X) (Ki X) (λd=>(ya X).bind (fL X) (Fe X) (λe=>SmF.pure (⟨a,b,c,d,e⟩:Ty))))));exact h
theorem OV (X:RIn):SmF X (mz X) (Q3 X):=by
 have h:=(L6 X).bind (V9 X) (eM X) (λa=>(L6 X).bind (V9 X) (eM X) (λb=>(L6 X).bind (V9 X) (eM X) (λc=>(ya X).bind (fL X) (Fe X) (λe=>SmF.pure (⟨a,b,c,e⟩:Fm)))));exact h
theorem Mu (X:RIn):SmF X (tkI X) (gI X):=by
 have h:=(L6 X).bind (V9 X) (eM X) (λa=>SmF.pure (a - 1));exact h
theorem rN {α:Type} {X:RIn} {g:RSt->α×RSt} (o:OkF X g):∀ k,OkF X (o6 g k)
 | 0=>λ_ h=>h
 | k+1=>λr h=>rN o k _ (o r h)
theorem gH {α:Type} {X:RIn} {g h:RSt->α×RSt} (s:SmF X g h) (og:OkF X g) (oh:OkF X h):∀ k,SmF X (o6 g k) (o6 h k)
 | 0=>SmF.pure []
 | k+1=>by
  have h:=s.bind og oh (λa=>(gH s og oh k).bind (rN og k) (rN oh k) (λl=>SmF.pure (a::l)));exact h
theorem mr (X:RIn):OkF X (m9 X):=λr h=>by
 unfold m9;split
 ·exact ⟨h.1,(v8 h).2⟩
 ·exact v8 h
theorem yc {α:Type} {X:RIn} {g h:RSt->α×RSt} (s:SmF X g h) (og:OkF X g) (oh:OkF X h) (l:List α):SmF X (Z6 X g l) (s4 X h l):=λr hr=>by
 have hm:(m9 X r).2.bad=true->(Z6 X g l r).2.bad=true:=λhb=>((gH s og oh _ _ (mr X r hr)).1 hb).1;refine ⟨λhb=>⟨hm ?_,?_⟩,λhb=>?_⟩
 ·unfold m9;rw [aU hb,if_neg (by simp)];exact hb
 ·have Q5:=((L6 X r hr).1 hb).2;unfold s4;split
  ·rfl
  ·exact ((gH s og oh _ _ (eM X r hr)).1 Q5).2
 ·rcases (L6 X r hr).2 hb with ⟨h1,h2⟩ | ⟨h1,h2⟩
  ·refine .inl ⟨hm ?_,?_⟩
   ·unfold m9;split
    ·rfl
    ·exact h1
   ·unfold s4;split
    ·rfl
    ·exact ((gH s og oh _ _ (eM X r hr)).1 h2).2
  ·have hk:=mr X r hr;unfold Z6 s4;unfold m9 at hm hk ⊢;rw [h2] at h1 hm hk ⊢;by_cases hc:(c7 X r).1<0∨16<(c7 X r).1
   ·rw [if_pos (show (decide ((c7 X r).1<0)||decide ((c7 X r).1>16))=true by simpa using hc)];refine .inl ⟨?_,rfl⟩;rw [if_pos hc];exact ((gH s og oh _ _ (show j8 X ⟨(c7 X r).2.at_,true⟩ from ⟨hr.1,(eM X r hr).2⟩)).1 rfl).1
   ·rw [if_neg (show ¬ (decide ((c7 X r).1<0)||decide ((c7 X r).1>16))=true by simpa using hc),if_neg hc];rcases (gH s og oh (c7 X r).1.toNat _ (eM X r hr)).2 h1 with h3 | ⟨h3,h4⟩
    ·exact .inl h3
    ·refine .inr ⟨h3,?_⟩;rw [h4]
def J5 (n:Nat):Int:=if n<2147483648 then (n:Int) else (n:Int) - 4294967296
theorem Af {n b:Nat} (hn:n<16777216) (hb:b<256):orB (n:Int) (b:Int)=IntKind.i32.wrap ((n*256+b:Nat):Int):=by
 unfold orB;have e1:BitVec.ofInt 32 (IntKind.i32.wrap ((n:Int)*2 ^ 8))=BitVec.ofNat 32 (n*256):=by
  apply BitVec.eq_of_toNat_eq;rw [BitVec.toNat_ofInt,BitVec.toNat_ofNat];simp [a1s,a1t,a1p];omega
 have e2:BitVec.ofInt 32 (IntKind.i32.wrap (b:Int))=BitVec.ofNat 32 b:=by
  apply BitVec.eq_of_toNat_eq;rw [BitVec.toNat_ofInt,BitVec.toNat_ofNat];simp [a1s,a1t,a1p];omega
 rw [e1,e2];have e3:(BitVec.ofNat 32 (n*256) ||| BitVec.ofNat 32 b).toNat=n*256+b:=by
  rw [BitVec.toNat_or,BitVec.toNat_ofNat,BitVec.toNat_ofNat,Nat.mod_eq_of_lt (by omega),Nat.mod_eq_of_lt (by omega)];have:=Nat.two_pow_add_eq_or_of_lt (i:=8) (b:=b) (by omega) n;rw [Nat.mul_comm n 256];exact this.symm
 rw [e3]
theorem rO {n b:Nat} (hn:n<65536) (hb:b<256):orB (n:Int) (b:Int)=((n*256+b:Nat):Int):=by
 rw [Af (by omega) hb];simp [a1s,a1t,a1p];omega
theorem Kj {n b:Nat} (hn:n<16777216) (hb:b<256):a0h.wrap (orB (n:Int) (b:Int))=J5 (n*256+b):=by
 rw [Af hn hb];unfold J5;simp [a1s,a1t,a1p];split<;>omega
theorem fM {X:RIn} {r:RSt} (hr:j8 X r) (hb:r.bad=false) :
  ((n5 X r).2.bad=true/\(m3 X r).2.bad=true)∨∃ (n:Nat) (s:RSt),n<4294967296/\s.bad=false/\j8 X s/\n5 X r=((n:Int),s)/\m3 X r=(J5 n,s):=by
 have W2:B6 X 4 r=_:=yb (X:=X) (r:=r) (k:=4) hb (by decide);by_cases h:r.at_+4<=X.s.length
 ·rw [if_pos h] at W2;have c3:X.s.take (r.at_+4)=X.s.take (r.at_+(3+1)):=rfl;rw [c3,gG _ _ 3 h,gG _ _ 2 (by omega),gG _ _ 1 (by omega),gG _ _ 0 (by omega),tO] at W2;have t0:=ay (X:=X) (r:=r) hb (by omega);have t1:=ay (X:=X) (r:=⟨r.at_+1,false⟩) rfl (show r.at_+1+1<=X.s.length by omega);have t2:=ay (X:=X) (r:=⟨r.at_+1+1,false⟩) rfl (show r.at_+1+1+1<=X.s.length by omega);have t3:=ay (X:=X) (r:=⟨r.at_+1+1+1,false⟩) rfl (show r.at_+1+1+1+1<=X.s.length by omega);simp only at t1 t2 t3;generalize X.s.getD r.at_ 0=b0 at W2 t0;generalize X.s.getD (r.at_+1) 0=b1 at W2 t1;generalize X.s.getD (r.at_+1+1) 0=b2 at W2 t2;generalize X.s.getD (r.at_+1+1+1) 0=b3 at W2 t3;have l0:=b0.toNat_lt;have l1:=b1.toNat_lt;have l2:=b2.toNat_lt;have l3:=b3.toNat_lt;refine .inr ⟨((b0.toNat*256+b1.toNat)*256+b2.toNat)*256+b3.toNat,⟨r.at_+4,false⟩,by omega,rfl,⟨hr.1,h⟩,?_,?_⟩
  ·unfold n5;rw [W2];simp [be];omega
  ·unfold m3;simp only [t0,t1,t2,t3];have e0:orB 0 (b0.toNat:Int)=((b0.toNat:Nat):Int):=by
    have:=rO (n:=0) (b:=b0.toNat) (by decide) (by omega);simpa using this
   rw [e0,rO (by omega) (by omega),rO (by omega) (by omega),Kj (by omega) (by omega)]
 ·rw [if_neg h] at W2;refine .inl ⟨by unfold n5; rw [W2],?_⟩;have hx:∀ r:RSt,r.bad=true->(f6 X r).2.bad=true:=λr hb=>Fd hb;have h4:(f6 X (f6 X (f6 X (f6 X r).2).2).2).2.bad=true:=by
   by_cases c0:r.at_+1<=X.s.length
   ·rw [ay hb c0];simp only;by_cases c1:r.at_+1+1<=X.s.length
    ·rw [ay (r:=⟨r.at_+1,false⟩) rfl c1];simp only;by_cases c2:r.at_+1+1+1<=X.s.length
     ·rw [ay (r:=⟨r.at_+1+1,false⟩) rfl c2];simp only;exact fK (r:=⟨r.at_+1+1+1,false⟩) (show ¬ r.at_+1+1+1+1<=X.s.length by omega)
     ·exact hx _ (fK (r:=⟨r.at_+1+1,false⟩) c2)
    ·exact hx _ (hx _ (fK (r:=⟨r.at_+1,false⟩) c1))
   ·exact hx _ (hx _ (hx _ (fK c0)))
  exact h4
theorem yd {X:RIn} {r:RSt} (h:r.bad=true):(m3 X r).2.bad=true:=Fc (cV (v7 X)) h
theorem pE {X:RIn} {r:RSt} (h:r.bad=true):(n5 X r).2.bad=true:=gE (n:=4) h
def jU (f:Fl) (rl:List (Int×Int)) (X:RIn) (r:RSt) (x:In):RSt×In:=match f with
 | .D=>((l8 X r).2,a1i .D x ((l8 X r).1 - 1))
 | .A=>((l8 X r).2,a1i .A x ((l8 X r).1 - 1))
 | .B=>((l8 X r).2,a1i .B x ((l8 X r).1 - 1))
 | .N=>((l8 X r).2,a1i .N x (l8 X r).1)
 | .M=>((l8 X r).2,a1i .M x (l8 X r).1)
 | .P=>((l8 X r).2,a1i .P x (l8 X r).1)
 | .T=>((Y1 X r).2,a4q .T x (Y1 X r).1)
 | .U=>((Y1 X r).2,a4q .U x (Y1 X r).1)
 | .W=>((Y1 X r).2,a4q .W x (Y1 X r).1)
 | .V=>((P5 X (l8 X r).2).2,{ x with vn:=(l8 X r).1,vs:=(P5 X (l8 X r).2).1 })
 | .L=>((Z6 X (tkI X) x.l r).2,{ x with l:=(Z6 X (tkI X) x.l r).1 })
 | .Y=>((Z6 X (Y1 X) x.y r).2,{ x with y:=(Z6 X (Y1 X) x.y r).1 })
 | .F=>((Z6 X (mz X) x.f r).2,{ x with f:=(Z6 X (mz X) x.f r).1 })
 | .Sz=>((K7 X r).2,a6z .S x (K7 X r).1)
 | .Rg=>((K7 X r).2,a6z .R x (K7 X r).1)
 | .aN=>((n5 X r).2,a1i .N x (n5 X r).1)
 | .aM=>((n5 X r).2,a1i .M x (n5 X r).1)
 | .pN=>(⟨(n5 X (m4 rl (r.at_:Int) r).2).2.at_,(!((n5 X (m4 rl (r.at_:Int) r).2).1==0))||(n5 X (m4 rl (r.at_:Int) r).2).2.bad⟩,a1i .N x (m4 rl (r.at_:Int) r).1)
 | .pM=>if ((n5 X r).1==4294967295)=true then ((n5 X r).2,a1i .M x (-1))
  else (⟨(m4 rl (r.at_:Int) (n5 X r).2).2.at_,(!((n5 X r).1==0))||(m4 rl (r.at_:Int) (n5 X r).2).2.bad⟩,a1i .M x (m4 rl (r.at_:Int) (n5 X r).2).1)
 | .far=>((n5 X (m4 rl (r.at_:Int) r).2).2,{ x with p:=(m4 rl (r.at_:Int) r).1,n:=(n5 X (m4 rl (r.at_:Int) r).2).1 })
def Fl.pl (f:Fl):Bool:=match f with
 | .aN | .aM | .far=>true
 | _=>false
def FlR (f:Fl) (p q:RSt×In):Prop:=(p.1.bad=true/\q.1.bad=true)∨(p.1.bad=false/\p=q)∨(f.pl=true/\p.1.bad=false/\p.1=q.1/\f.fineB p.2=false/\f.fineB q.2=false/\p.2.op=q.2.op)
theorem wb {n:Nat} (h:¬ n<2147483648):fo (n:Int)=false:=by unfold fo; simp; omega
theorem wc {n:Nat} (h:¬ n<2147483648) (h':n<4294967296):fo (J5 n)=false:=by unfold fo J5; rw [if_neg h]; simp; omega
theorem FlR.of {α:Type} {f:Fl} {p q:α×RSt} (s:Sm p q) (g:α->In):FlR f (p.2,g p.1) (q.2,g q.1):=by
 rcases s with h | ⟨h1,h2⟩
 ·exact .inl h
 ·exact .inr (.inl ⟨h1,by rw [h2]⟩)
theorem OW (f:Fl) (rl:List (Int×Int)) (X:RIn) (r:RSt) (x:In) (hr:j8 X r) (hb:r.bad=false):FlR f (jU f rl X r x) (f.rd rl X r x):=by
 cases f
 case D=>exact FlR.of ((L6 X r hr).2 hb) (λv=>a1i .D x (v - 1))
 case A=>exact FlR.of ((L6 X r hr).2 hb) (λv=>a1i .A x (v - 1))
 case B=>exact FlR.of ((L6 X r hr).2 hb) (λv=>a1i .B x (v - 1))
 case N=>exact FlR.of ((L6 X r hr).2 hb) (λv=>a1i .N x v)
 case M=>exact FlR.of ((L6 X r hr).2 hb) (λv=>a1i .M x v)
 case P=>exact FlR.of ((L6 X r hr).2 hb) (λv=>a1i .P x v)
 case T=>exact FlR.of ((Ae X r hr).2 hb) (λv=>a4q .T x v)
 case U=>exact FlR.of ((Ae X r hr).2 hb) (λv=>a4q .U x v)
 case W=>exact FlR.of ((Ae X r hr).2 hb) (λv=>a4q .W x v)
 case V =>
  have h:=(L6 X).bind (V9 X) (eM X) (λa=>(ya X).bind (fL X) (Fe X) (λs=>SmF.pure ((a,s):Int×List UInt8)));exact FlR.of ((h r hr).2 hb) (λv=>{ x with vn:=v.1,vs:=v.2 })
 case L=>exact FlR.of ((yc (Mu X) (λ_ h=>v8 h) (λ_ h=>(l9 h).1) x.l r hr).2 hb) (λv=>{ x with l:=v })
 case Y=>exact FlR.of ((yc (Ae X) (λ_ h=>fL X _ (rM X _ (V9 X _ (V9 X _ (V9 X _ h))))) (λ_ h=>Fe X _ (Ki X _ (eM X _ (eM X _ (eM X _ h))))) x.y r hr).2 hb) (λv=>{ x with y:=v })
 case F=>exact FlR.of ((yc (OV X) (λ_ h=>fL X _ (V9 X _ (V9 X _ (V9 X _ h)))) (λ_ h=>Fe X _ (eM X _ (eM X _ (eM X _ h)))) x.f r hr).2 hb) (λv=>{ x with f:=v })
 case Sz=>exact FlR.of ((tP X r hr).2 hb) (λv=>a6z .S x v)
 case Rg=>exact FlR.of ((tP X r hr).2 hb) (λv=>a6z .R x v)
 case aN =>
  rcases fM hr hb with h | ⟨n,s,hn,hs,_,e1,e2⟩
  ·exact .inl h
  ·show FlR .aN ((n5 X r).2,a1i .N x (n5 X r).1) ((m3 X r).2,a1i .N x (m3 X r).1);rw [e1,e2];by_cases h:n<2147483648
   ·exact .inr (.inl ⟨hs,by unfold J5; rw [if_pos h]⟩)
   ·exact .inr (.inr ⟨rfl,hs,rfl,wb h,wc h hn,rfl⟩)
 case aM =>
  rcases fM hr hb with h | ⟨n,s,hn,hs,_,e1,e2⟩
  ·exact .inl h
  ·show FlR .aM ((n5 X r).2,a1i .M x (n5 X r).1) ((m3 X r).2,a1i .M x (m3 X r).1);rw [e1,e2];by_cases h:n<2147483648
   ·exact .inr (.inl ⟨hs,by unfold J5; rw [if_pos h]⟩)
   ·exact .inr (.inr ⟨rfl,hs,rfl,wb h,wc h hn,rfl⟩)
 case pN =>
  show FlR .pN (⟨(n5 X (m4 rl (r.at_:Int) r).2).2.at_,(!((n5 X (m4 rl (r.at_:Int) r).2).1==0))||(n5 X (m4 rl (r.at_:Int) r).2).2.bad⟩,a1i .N x (m4 rl (r.at_:Int) r).1)
   ((M5 false rl X r (a0u .N x)).2,a1i .N x (M5 false rl X r (a0u .N x)).1)
  unfold M5 m4;simp only [Bool.false_and,a4n,if_false];cases e:Z1 (r.at_:Int) rl with
  | none =>
   refine .inl ⟨?_,?_⟩
   ·simp only;rw [pE rfl];simp
   ·simp only;split<;>rfl
  | some p =>
   simp only;rcases fM hr hb with h | ⟨n,s,hn,hs,_,e1,e2⟩
   ·refine .inl ⟨?_,?_⟩
    ·simp only;rw [h.1];simp
    ·simp only;split
     ·exact h.2
     ·rfl
   ·rw [e1,e2];by_cases h:n=0
    ·subst h;refine .inr (.inl ⟨by simpa using hs,?_⟩);obtain ⟨sa,sb⟩:=s;simp only at hs;subst hs;rfl
    ·refine .inl ⟨?_,?_⟩
     ·simp only;have:((n:Int)==0)=false:=by simp; omega
      rw [this];rfl
     ·have:¬ (J5 n==0)=true:=by unfold J5; simp; split<;>omega
      rw [if_neg this]
 case pM =>
  show FlR .pM (if ((n5 X r).1==4294967295)=true then ((n5 X r).2,a1i .M x (-1))
   else (⟨(m4 rl (r.at_:Int) (n5 X r).2).2.at_,(!((n5 X r).1==0))||(m4 rl (r.at_:Int) (n5 X r).2).2.bad⟩,a1i .M x (m4 rl (r.at_:Int) (n5 X r).2).1))
   ((M5 true rl X r (a0u .M x)).2,a1i .M x (M5 true rl X r (a0u .M x)).1)
  unfold M5;rcases fM hr hb with h | ⟨n,s,hn,hs,_,e1,e2⟩
  ·refine .inl ⟨?_,?_⟩
   ·split
    ·exact h.1
    ·simp only;have:(m4 rl (r.at_:Int) (n5 X r).2).2.bad=true:=by
      unfold m4;split
      ·exact h.1
      ·rfl
     rw [this];simp
   ·simp only;split
    ·exact h.2
    ·split
     ·unfold m4;split
      ·exact h.2
      ·rfl
     ·rfl
  ·rw [e1,e2];by_cases hm:n=4294967295
   ·subst hm;exact .inr (.inl ⟨hs,rfl⟩)
   ·have m1:¬ ((n:Int)==4294967295)=true:=by simp; omega
    have m2:¬ (true&&J5 n==-1)=true:=by unfold J5; simp; split<;>omega
    rw [if_neg m1,if_neg m2];by_cases h:n=0
    ·subst h;rw [if_pos (show (J5 0==0)=true from rfl)];simp only;unfold m4;cases e:Z1 (r.at_:Int) rl with
     | none=>exact .inl ⟨rfl,rfl⟩
     | some p =>
      simp only;refine .inr (.inl ⟨by simpa using hs,?_⟩);obtain ⟨sa,sb⟩:=s;simp only at hs;subst hs;rfl
    ·have:¬ (J5 n==0)=true:=by unfold J5; simp; split<;>omega
     rw [if_neg this];refine .inl ⟨?_,rfl⟩;simp only;have:((n:Int)==0)=false:=by simp; omega
     rw [this];rfl
 case far =>
  show FlR .far ((n5 X (m4 rl (r.at_:Int) r).2).2,{ x with p:=(m4 rl (r.at_:Int) r).1,n:=(n5 X (m4 rl (r.at_:Int) r).2).1 })
   ((m3 X (m4 rl (r.at_:Int) r).2).2,{ x with p:=(m4 rl (r.at_:Int) r).1,n:=(m3 X (m4 rl (r.at_:Int) r).2).1 })
  unfold m4;cases e:Z1 (r.at_:Int) rl with
  | none=>exact .inl ⟨pE rfl,yd rfl⟩
  | some p =>
   simp only;rcases fM hr hb with h | ⟨n,s,hn,hs,_,e1,e2⟩
   ·exact .inl h
   ·rw [e1,e2];by_cases h:n<2147483648
    ·exact .inr (.inl ⟨hs,by unfold J5; rw [if_pos h]⟩)
    ·refine .inr (.inr ⟨rfl,hs,rfl,?_,?_,rfl⟩)
     ·show O5 _=false;unfold O5;simp;omega
     ·show O5 _=false;unfold O5 J5;rw [if_neg h];simp;omega
def tkL (rl:List (Int×Int)) (X:RIn) (l:List Fl) (s:RSt×In):RSt×In:=l.foldl (λs f=>if s.1.bad=true then s else jU f rl X s.1 s.2) s
theorem tQ {rl:List (Int×Int)} {X:RIn}:∀ (l:List Fl) (s:RSt×In),s.1.bad=true->tkL rl X l s=s
 | [],s,_=>rfl
 | f::l,s,h=>by
  show tkL rl X l (if s.1.bad=true then s else jU f rl X s.1 s.2)=s;rw [if_pos h];exact tQ l s h
theorem Mv (f:Fl) (rl:List (Int×Int)) (X:RIn) (r:RSt) (x:In):(f.rd rl X r x).2.op=x.op:=by cases f<;>rfl
theorem ye (rl:List (Int×Int)) (X:RIn):∀ (l:List Fl) (s:RSt×In),(rdL rl X l s).2.op=s.2.op
 | [],s=>rfl
 | f::l,s=>by
  show (rdL rl X l (if s.1.bad=true then s else f.rd rl X s.1 s.2)).2.op=_;rw [ye rl X l];split
  ·rfl
  ·exact Mv f rl X s.1 s.2
def Sq (l:List Fl) (p q:RSt×In):Prop:=(p.1.bad=true/\q.1.bad=true)∨(p.1.bad=false/\p=q)∨(p.1.bad=false/\p.1=q.1/\∃ f∈l,f.fineB p.2=false/\f.fineB q.2=false/\p.2.op=q.2.op)
theorem Ag (rl:List (Int×Int)) (X:RIn):∀ (l:List Fl) (s:RSt×In),j8 X s.1->s.1.bad=false->(∀ f∈l.dropLast,f.pl=false)->Sq l (tkL rl X l s) (rdL rl X l s)
 | [],s,_,hb,_=>.inr (.inl ⟨hb,rfl⟩)
 | f::l,s,hr,hb,hp=>by
  have hu:tkL rl X (f::l) s=tkL rl X l (jU f rl X s.1 s.2):=by
   show tkL rl X l (if s.1.bad=true then s else jU f rl X s.1 s.2)=_;rw [if_neg (by rw [hb]; decide)]
  have hv:rdL rl X (f::l) s=rdL rl X l (f.rd rl X s.1 s.2):=by
   show rdL rl X l (if s.1.bad=true then s else f.rd rl X s.1 s.2)=_;rw [if_neg (by rw [hb]; decide)]
  rw [hu,hv];have x7:=(vB f (rl:=rl) (x:=s.2) hr).1;rcases OW f rl X s.1 s.2 hr hb with ⟨h1,h2⟩ | ⟨h1,h2⟩ | ⟨h0,h1,h2,h3,h4,h5⟩
  ·rw [tQ l _ h1,tN l _ h2];exact .inl ⟨h1,h2⟩
  ·rw [h2] at h1 ⊢;have ko:∀ g∈l.dropLast,g.pl=false:=λg hg=>hp g (by
    cases l with
    | nil=>cases hg
    | cons a l=>exact a0e _ hg)
   rcases Ag rl X l _ x7 h1 ko with h | h | ⟨k1,k2,g,hg,k3⟩
   ·exact .inl h
   ·exact .inr (.inl h)
   ·exact .inr (.inr ⟨k1,k2,g,a0e _ hg,k3⟩)
  ·cases l with
   | nil=>exact .inr (.inr ⟨h1,h2,f,a0f ..,h3,h4,h5⟩)
   | cons a l =>
    have:=hp f (a0f ..);rw [h0] at this;cases this
def bz (rl:List (Int×Int)) (X:RIn) (a:Nat):RSt×In:=tkL rl X ((n7 ((X.s.getD a 0).toNat:Int)).getD []) (⟨a+1,false⟩,f0 ((X.s.getD a 0).toNat:Int))
def W0 (rl:List (Int×Int)) (X:RIn) (a:Nat):Bool:=decide (a<X.s.length)&&!(bz rl X a).1.bad&&j2 (bz rl X a).2
theorem rP {x:In} {l:List Fl} {f:Fl} (h:n7 x.op=some l) (hf:f∈l) (hn:f.fineB x=false):j2 x=false:=by
 unfold j2;rw [h];have:l.all (λf=>f.fineB x)=false:=by
  cases e:l.all (λf=>f.fineB x) with
  | false=>rfl
  | true=>rw [a0y.1 e f hf] at hn; cases hn
 simp only;rw [this];rfl
theorem Mw (rl:List (Int×Int)) (X:RIn) (a:Nat) (x7:j8 X ⟨a,false⟩):W0 rl X a=B1 rl X a/\(B1 rl X a=true->bz rl X a=t7 rl X a):=by
 by_cases ha:a<X.s.length
 ·have ht:=ay (X:=X) (r:=⟨a,false⟩) rfl (by show a+1<=_; omega);simp only at ht;unfold W0 B1 bz t7;rw [ht];simp only;generalize ((X.s.getD a 0).toNat:Int)=o;rw [show decide (a<X.s.length)=true by simpa using ha];cases e:n7 o with
  | none =>
   have:j2 (f0 o)=false:=by unfold j2; rw [show (f0 o).op=o from rfl,e]
   simp [tkL,this]
  | some l =>
   have hl:l=c6 o.toNat/\F8 o.toNat=true:=by
    unfold n7 at e;split at e
    ·rename_i h; cases e; exact ⟨rfl,(p6 _).2 (by omega)⟩
    ·cases e
   have M3:∀ f∈l.dropLast,f.pl=false:=by
    have:=D7 (p:=λo=>(c6 o).dropLast.all (λf=>!f.pl)) kq hl.2;rw [hl.1];intro f hf;simpa using a0y.1 this f hf
   simp only [a1e,Option.isSome_some,a5a];have f7:(rdL rl X l (⟨a+1,false⟩,f0 o)).2.op=o:=ye rl X l _;rcases Ag rl X l (⟨a+1,false⟩,f0 o) ⟨x7.1,ha⟩ rfl M3 with ⟨h1,h2⟩ | ⟨h1,h2⟩ | ⟨h1,h2,f,hf,h3,h4,h5⟩
   ·rw [h1,h2];simp
   ·rw [h2];simp
   ·rw [f7] at h5;have c1:=rP (show n7 _=some l by rw [h5]; exact e) hf h3;have c2:=rP (show n7 _=some l by rw [f7]; exact e) hf h4;rw [c1,c2];simp
 ·have ht:f6 X ⟨a,false⟩=(0,⟨a,true⟩):=by unfold f6; rw [if_neg ha]
  have e1:W0 rl X a=false:=by unfold W0; rw [show decide (a<X.s.length)=false by simpa using ha]; rfl
  have e2:B1 rl X a=false:=by unfold B1; rw [ht]; rfl
  rw [e1,e2];exact ⟨rfl,λh=>by cases h⟩
end Go.Proofs
end
section
namespace Go.Proofs
open Go Go.SX
def De {α:Type} (X:RIn) (g:RSt->α×RSt) (e:α->List UInt8):Prop:=∀ r,j8 X r->(g r).2.bad=false->X.s.drop r.at_=e (g r).1++X.s.drop (g r).2.at_
theorem wg (b:List UInt8) (a:Nat):∀ (k i z:Nat) (p:Int×Nat),rfL b a k i z=some p->∃ j,p.2=a+j+1/\q9 9 (zz p.1)=(b.drop a).take (j+1)
 | 0,i,z,p,h=>by cases h
 | k+1,i,z,p,h=>by
  rw [rfL] at h;split at h
  ·split at h
   ·exact wg b a k _ _ p h
   ·split at h
    ·rename_i hc;cases h;exact ⟨i,rfl,hc.2⟩
    ·cases h
  ·cases h
theorem Y2 (X:RIn):De X (c7 X) N3:=λr hr hb=>by
 have VQ:=(D9 (v7 X) r hb).1;obtain ⟨a,b⟩:=r;simp only at VQ;subst VQ;have h:=xW X.s a 5 0 0 rfl hr.2 (λx hx=>by simp at hx) rfl;have hR:A7 (xIn X.s) (5+1) ⟨a+0,false⟩ 0 (128 ^ 0) 0=c7 X ⟨a,false⟩:=(jO X _ _ _ _ _).symm;rw [hR] at h;cases e:rfL X.s a 5 0 0 with
 | none =>
  rw [e] at h;have h':(c7 X ⟨a,false⟩).2.bad=true:=h;rw [h'] at hb; cases hb
 | some p =>
  rw [e] at h;have h':c7 X ⟨a,false⟩=(p.1,⟨p.2,false⟩):=h;obtain ⟨j,h1,h2⟩:=wg _ _ _ _ _ _ e;rw [h'];simp only;have h3:N3 p.1=(X.s.drop a).take (j+1):=h2;rw [h1,h3,show a+j+1=a+(j+1) by omega,<- List.drop_drop,a6g]
theorem yf (X:RIn):De X (B4 X) fl:=λr hr hb=>by
 have hn:=(l9 hr).1;unfold B4 at hb ⊢;simp only at hb ⊢;split at hb
 ·cases hb
 ·rename_i hc;rw [if_neg hc];have h1:=Y2 X r hr hb;have hl:((X.s.take ((c7 X r).2.at_+(c7 X r).1.toNat)).drop (c7 X r).2.at_).length=(c7 X r).1.toNat:=by
   rw [a2p,a2b];have:=hn.2;omega
  have e:fl ((X.s.take ((c7 X r).2.at_+(c7 X r).1.toNat)).drop (c7 X r).2.at_)=N3 (c7 X r).1++(X.s.take ((c7 X r).2.at_+(c7 X r).1.toNat)).drop (c7 X r).2.at_:=by
   unfold fl;rw [hl];congr 2;omega
  rw [e,h1,a1g];congr 1;rw [List.drop_take,Nat.add_sub_cancel_left,<- List.drop_drop,a6g]
theorem Ff {s:List UInt8} {a:Nat} (h:a<s.length):s.drop a=s.getD a 0::s.drop (a+1):=by
 rw [List.drop_eq_getElem_cons h,a0r,a0b h]; rfl
theorem gJ (X:RIn):De X (f6 X) (λc=>[c]):=λr hr hb=>by
 unfold f6 at hb ⊢;split at hb
 ·rename_i h;rw [if_pos h];exact Ff h
 ·cases hb
theorem tR (X:RIn):De X (E5 X) (λv=>[sK v]):=λr hr hb=>by
 have B8:((f6 X r).2.bad||decide (1<(f6 X r).1.toNat))=false:=hb;rw [a2r,decide_eq_false_iff_not] at B8;have h1:=gJ X r hr B8.1;have e:sK ((f6 X r).1.toNat==1)=(f6 X r).1:=by
  have WT:(f6 X r).1.toNat=0∨(f6 X r).1.toNat=1:=by omega
  rcases WT with h | h
  ·rw [h]; apply a4b.1; rw [h]; rfl
  ·rw [h]; apply a4b.1; rw [h]; rfl
 show X.s.drop r.at_=[sK ((f6 X r).1.toNat==1)]++_;rw [e];exact h1
theorem Ah (X:RIn):De X (E8 X) M9:=λr hr hb=>by
 have Jy:(B4 X (E5 X (c7 X (c7 X (c7 X r).2).2).2).2).2.bad=false:=hb;have GW:=(ep (v7 X) _ Jy).1;have eO:=(fJ (v7 X) _ GW).1;have Q5:=(D9 (v7 X) _ eO).1;have ie:=(D9 (v7 X) _ Q5).1;have o0:=(l9 hr).1;have o1:=(l9 o0).1;have o2:=(l9 o1).1;have o3:=aL o2;have e0:=Y2 X r hr ie;have e1:=Y2 X _ o0 Q5;have e2:=Y2 X _ o1 eO;have e3:=tR X _ o2 GW;have e4:=yf X _ o3 Jy;show _=M9 ⟨_,_,_,_,_⟩++X.s.drop (B4 X (E5 X (c7 X (c7 X (c7 X r).2).2).2).2).2.at_;rw [e0,e1,e2,e3,e4];simp [M9]
theorem OX (X:RIn):De X (Q3 X) W4:=λr hr hb=>by
 have Jy:(B4 X (c7 X (c7 X (c7 X r).2).2).2).2.bad=false:=hb;have eO:=(ep (v7 X) _ Jy).1;have Q5:=(D9 (v7 X) _ eO).1;have ie:=(D9 (v7 X) _ Q5).1;have o0:=(l9 hr).1;have o1:=(l9 o0).1;have o2:=(l9 o1).1;have e0:=Y2 X r hr ie;have e1:=Y2 X _ o0 Q5;have e2:=Y2 X _ o1 eO;have e4:=yf X _ o2 Jy;show _=W4 ⟨_,_,_,_⟩++X.s.drop (B4 X (c7 X (c7 X (c7 X r).2).2).2).2.at_;rw [e0,e1,e2,e4];simp [W4]
theorem tT (X:RIn):De X (gI X) eI:=λr hr hb=>by
 have h:=Y2 X r hr hb;show _=N3 ((c7 X r).1 - 1+1)++_;rw [Int.sub_add_cancel];exact h
theorem Ai {α:Type} {X:RIn} {g:RSt->α×RSt} {e:α->List UInt8} (h:De X g e) (o:OkF X g) (k0:Z5 g g):∀ k,De X (o6 g k) (λl=>l.flatMap e)
 | 0,r,hr,hb=>rfl
 | k+1,r,hr,hb=>by
  have Q5:(o6 g k (g r).2).2.bad=false:=hb;have ie:=(jS k0 k _ Q5).1;have e1:=Ai h o k0 k _ (o r hr) Q5;show _=((g r).1::(o6 g k (g r).2).1).flatMap e++X.s.drop (o6 g k (g r).2).2.at_;rw [h r hr ie,e1,a2z,a1g]
theorem yg {α:Type} {X:RIn} {g:RSt->α×RSt} {e:α->List UInt8} (h:De X g e) (o:OkF X g) (k0:Z5 g g):De X (s4 X g []) (ae e):=λr hr hb=>by
 have hn:=(l9 hr).1;unfold s4 at hb ⊢;split at hb
 ·cases hb
 ·rename_i hc;rw [if_neg hc];simp only at hb ⊢;have ie:=(jS k0 _ _ hb).1;have h1:=Y2 X r hr ie;have h2:=Ai h o k0 _ _ hn hb;simp only [a3w,decide_eq_true_eq,not_or] at hc;unfold ae;rw [List.nil_append,iH,h1,h2,a1g,Int.toNat_of_nonneg (by omega)]
theorem IC {n:Nat} {a b c d:UInt8} (h:((a.toNat*256+b.toNat)*256+c.toNat)*256+d.toNat=n):Z0 (n:Int)=[a,b,c,d]:=by
 have ha:=a.toNat_lt;have hb:=b.toNat_lt;have hc:=c.toNat_lt;have hd:=d.toNat_lt;have e:∀ (k:Nat) (x:UInt8),n / 2 ^ k % 256=x.toNat->E4 (n:Int) k=x:=λk x hx=>by
  apply a4b.1;rw [xX,hx]
 show [E4 (n:Int) 24,E4 (n:Int) 16,E4 (n:Int) 8,E4 (n:Int) 0]=_;rw [e 24 a (by omega),e 16 b (by omega),e 8 c (by omega),e 0 d (by omega)]
theorem pG {X:RIn} {r:RSt} (hr:j8 X r) (hb:(m3 X r).2.bad=false):∃ a b c d:UInt8,X.s.drop r.at_=[a,b,c,d]++X.s.drop (m3 X r).2.at_/\(m3 X r).1=J5 (((a.toNat*256+b.toNat)*256+c.toNat)*256+d.toNat):=by
 have GW:(f6 X (f6 X (f6 X (f6 X r).2).2).2).2.bad=false:=hb;have eO:=(P4 (v7 X) _ GW).1;have Q5:=(P4 (v7 X) _ eO).1;have ie:=(P4 (v7 X) _ Q5).1;have o0:=F4 hr;have o1:=F4 o0;have o2:=F4 o1;have e0:=gJ X r hr ie;have e1:=gJ X _ o0 Q5;have e2:=gJ X _ o1 eO;have e3:=gJ X _ o2 GW;refine ⟨(f6 X r).1,(f6 X (f6 X r).2).1,(f6 X (f6 X (f6 X r).2).2).1,(f6 X (f6 X (f6 X (f6 X r).2).2).2).1,?_,?_⟩
 ·rw [e0,e1,e2,e3]; rfl
 ·have ha:=(f6 X r).1.toNat_lt;have hb:=(f6 X (f6 X r).2).1.toNat_lt;have hc:=(f6 X (f6 X (f6 X r).2).2).1.toNat_lt;have hd:=(f6 X (f6 X (f6 X (f6 X r).2).2).2).1.toNat_lt;show a0h.wrap (orB (orB (orB (orB 0 _) _) _) _)=_;rw [show orB 0 ((f6 X r).1.toNat:Int)=((0*256+(f6 X r).1.toNat:Nat):Int) from rO (n:=0) (by decide) ha,Nat.zero_mul,Nat.zero_add,rO (by omega) hb,rO (by omega) hc,Kj (by omega) hd]
theorem ng {X:RIn} {r:RSt} (hr:j8 X r) (hb:(m3 X r).2.bad=false) (h0:0<=(m3 X r).1):X.s.drop r.at_=Z0 (m3 X r).1++X.s.drop (m3 X r).2.at_:=by
 obtain ⟨a,b,c,d,h1,h2⟩:=pG hr hb;rw [h1];congr 1;have e9:((a.toNat*256+b.toNat)*256+c.toNat)*256+d.toNat<2147483648:=by
  rw [h2] at h0;have ha:=a.toNat_lt; have hb:=b.toNat_lt; have hc:=c.toNat_lt; have hd:=d.toNat_lt;unfold J5 at h0;split at h0
  ·assumption
  ·omega
 have h3:J5 (((a.toNat*256+b.toNat)*256+c.toNat)*256+d.toNat)=((((a.toNat*256+b.toNat)*256+c.toNat)*256+d.toNat:Nat):Int):=by unfold J5; rw [if_pos e9]
 rw [h2,h3,IC rfl]
theorem Mx {X:RIn} {r:RSt} (hr:j8 X r) (hb:(m3 X r).2.bad=false) (h0:(m3 X r).1=-1):X.s.drop r.at_=Z0 (-1)++X.s.drop (m3 X r).2.at_:=by
 obtain ⟨a,b,c,d,h1,h2⟩:=pG hr hb;rw [h1];congr 1;have ha:=a.toNat_lt; have hb:=b.toNat_lt; have hc:=c.toNat_lt; have hd:=d.toNat_lt;rw [h0] at h2;unfold J5 at h2;split at h2
 ·omega
 ·have e:∀ x:UInt8,x.toNat=255->x=255:=λx hx=>a4b.1 (by rw [hx]; rfl);rw [e a (by omega),e b (by omega),e c (by omega),e d (by omega)];rfl
theorem BM {rl:List (Int×Int)} {v p:Int} (h:Z1 v rl=some p):∃ q∈rl,q.2=p:=by
 unfold Z1 at h;obtain ⟨q,hq,e⟩:=a1y.1 h;exact ⟨q,List.mem_of_find?_eq_some hq,e⟩
theorem pH {rl:List (Int×Int)} {v:Int} {r:RSt} (hp:∀ q∈rl,0<=q.2) (hb:(m4 rl v r).2.bad=false):0<=(m4 rl v r).1/\(m4 rl v r).2=r:=by
 unfold m4 at hb ⊢;cases h:Z1 v rl with
 | none=>rw [h] at hb; cases hb
 | some p =>
  obtain ⟨q,hq,e⟩:=BM h;exact ⟨by have:=hp q hq; simp only; omega,rfl⟩
theorem Kk {no:Bool} {rl:List (Int×Int)} {X:RIn} {r:RSt} {old:Int} (hp:∀ q∈rl,0<=q.2) (hr:j8 X r) (hb:(M5 no rl X r old).2.bad=false):X.s.drop r.at_=fp (M5 no rl X r old).1++X.s.drop (M5 no rl X r old).2.at_:=by
 unfold M5 at hb ⊢;split at hb
 ·rename_i h;rw [if_pos h];rw [a0g,beq_iff_eq] at h;exact Mx hr hb h.2
 ·rename_i h;rw [if_neg h];split at hb
  ·rename_i h0;rw [if_pos h0];rw [beq_iff_eq] at h0;obtain ⟨g1,g2⟩:=pH hp hb;rw [g2] at hb;have:=ng hr hb (by omega);rw [g2,this,h0];congr 1;unfold fp;rw [if_neg (by omega)]
  ·cases hb
theorem OY (f:Fl) (rl:List (Int×Int)) (hp:∀ q∈rl,0<=q.2) (X:RIn) (r:RSt) (y:In) (hr:j8 X r) (hb:(f.rd rl X r y).1.bad=false) (hf:f.fineB (f.rd rl X r y).2=true) (hy:f.fr y) :
  X.s.drop r.at_=f.enc (f.rd rl X r y).2++X.s.drop (f.rd rl X r y).1.at_:=by
 have pl:∀ v:Int,fo v=true->0<=v:=λv h=>by obtain ⟨k,e,_⟩:=jQ h; omega
 cases f
 case D=>exact tT X r hr hb
 case A=>exact tT X r hr hb
 case B=>exact tT X r hr hb
 case N=>exact Y2 X r hr hb
 case M=>exact Y2 X r hr hb
 case P=>exact Y2 X r hr hb
 case T=>exact Ah X r hr hb
 case U=>exact Ah X r hr hb
 case W=>exact Ah X r hr hb
 case V =>
  have Q5:(B4 X (c7 X r).2).2.bad=false:=hb;have ie:=(ep (v7 X) _ Q5).1;show _=(N3 (c7 X r).1++fl (B4 X (c7 X r).2).1)++X.s.drop (B4 X (c7 X r).2).2.at_;rw [Y2 X r hr ie,yf X _ (l9 hr).1 Q5,a1g]
 case L =>
  have hy:y.l=[]:=hy;have hb:(s4 X (gI X) y.l r).2.bad=false:=hb;show _=ae eI (s4 X (gI X) y.l r).1++X.s.drop (s4 X (gI X) y.l r).2.at_;rw [hy] at hb ⊢;exact yg (tT X) (λ_ h=>(l9 h).1) (Ac (v7 X)) r hr hb
 case Y =>
  have hy:y.y=[]:=hy;have hb:(s4 X (E8 X) y.y r).2.bad=false:=hb;show _=ae M9 (s4 X (E8 X) y.y r).1++X.s.drop (s4 X (E8 X) y.y r).2.at_;rw [hy] at hb ⊢;exact yg (Ah X) (λ_ h=>dV h) (pB (v7 X)) r hr hb
 case F =>
  have hy:y.f=[]:=hy;have hb:(s4 X (Q3 X) y.f r).2.bad=false:=hb;show _=ae W4 (s4 X (Q3 X) y.f r).1++X.s.drop (s4 X (Q3 X) y.f r).2.at_;rw [hy] at hb ⊢;exact yg (OX X) (λ_ h=>mW h) (Fa (v7 X)) r hr hb
 case Sz=>exact tR X r hr hb
 case Rg=>exact tR X r hr hb
 case aN=>exact ng hr hb (pl _ hf)
 case aM=>exact ng hr hb (pl _ hf)
 case pN=>exact Kk hp hr hb
 case pM=>exact Kk hp hr hb
 case far =>
  have Q5:(m3 X (m4 rl (r.at_:Int) r).2).2.bad=false:=hb;have ie:=(cV (v7 X) _ Q5).1;obtain ⟨g1,g2⟩:=pH hp ie;have KF:O5 { y with p:=(m4 rl (r.at_:Int) r).1,n:=(m3 X (m4 rl (r.at_:Int) r).2).1 }=true:=hf;unfold O5 at KF;simp only [a0g,decide_eq_true_eq] at KF;show _=Z0 (m3 X (m4 rl (r.at_:Int) r).2).1++X.s.drop (m3 X (m4 rl (r.at_:Int) r).2).2.at_;rw [g2] at Q5 KF ⊢;exact ng hr Q5 KF.1.2
theorem ID (f g:Fl) (rl:List (Int×Int)) (X:RIn) (r:RSt) (y:In) (h:f.ind g=true):f.enc (g.rd rl X r y).2=f.enc y:=by
 cases f<;>cases g<;>first | exact absurd h (by decide)|rfl
theorem Fg (f g:Fl) (rl:List (Int×Int)) (X:RIn) (r:RSt) (y:In) (h:f.ind g=true):f.fineB (g.rd rl X r y).2=f.fineB y:=by
 cases f<;>cases g<;>first | exact absurd h (by decide)|rfl
theorem OZ (f g:Fl) (rl:List (Int×Int)) (X:RIn) (r:RSt) (y:In) (h:f.ind g=true) (hy:f.fr y):f.fr (g.rd rl X r y).2:=by
 cases f<;>cases g<;>first | exact absurd h (by decide) | exact hy
theorem wh (rl:List (Int×Int)) (X:RIn) (f:Fl) (l:List Fl) (r:RSt) (y:In) (hb:r.bad=false):rdL rl X (f::l) (r,y)=rdL rl X l (f.rd rl X r y):=by
 unfold rdL;rw [List.foldl_cons];simp only [hb,a4n,if_false]
theorem wi (f:Fl) (rl:List (Int×Int)) (X:RIn):∀ (l:List Fl) (s:RSt×In),(∀ g∈l,f.ind g=true)->(rdL rl X l s).1.bad=false->f.enc (rdL rl X l s).2=f.enc s.2/\f.fineB (rdL rl X l s).2=f.fineB s.2
 | [],s,_,_=>⟨rfl,rfl⟩
 | g::l,(r,y),hi,hb=>by
  have ie:=(jT (v7 X) rl (g::l) (r,y) hb).1;rw [wh rl X g l r y ie] at hb ⊢;have h:=wi f rl X l (g.rd rl X r y) (λg hg=>hi g (a0e _ hg)) hb;rw [h.1,h.2,ID f g rl X r y (hi g (a0f ..)),Fg f g rl X r y (hi g (a0f ..))];exact ⟨rfl,rfl⟩
theorem pJ (rl:List (Int×Int)) (hp:∀ q∈rl,0<=q.2) (X:RIn):∀ (l:List Fl) (r:RSt) (y:In),lC l=true->(∀ f∈l,f.fr y)->j8 X r->(rdL rl X l (r,y)).1.bad=false->(∀ f∈l,f.fineB (rdL rl X l (r,y)).2=true) ->
  X.s.drop r.at_=l.flatMap (λf=>f.enc (rdL rl X l (r,y)).2)++X.s.drop (rdL rl X l (r,y)).1.at_
 | [],r,y,_,_,_,_,_=>rfl
 | f::l,r,y,hi,hy,hr,hb,hf=>by
  unfold lC at hi;rw [a0g,a0y] at hi;have ie:=(jT (v7 X) rl (f::l) (r,y) hb).1;rw [wh rl X f l r y ie] at hb hf ⊢;have Q5:=(jT (v7 X) rl l (f.rd rl X r y) hb).1;have hs:=wi f rl X l (f.rd rl X r y) (λg hg=>O8 (hi.1 g hg)) hb;have h1:=OY f rl hp X r y hr Q5 (by rw [<- hs.2]; exact hf f (a0f ..)) (hy f (a0f ..));have h2:=pJ rl hp X l (f.rd rl X r y).1 (f.rd rl X r y).2 hi.2 (λg hg=>OZ g f rl X r y (O9 (hi.1 g hg)) (hy g (a0e _ hg))) (vB f hr).1 hb (λg hg=>hf g (a0e _ hg));rw [a2z,hs.1,h1,a1g,<- h2]
theorem My (rl:List (Int×Int)) (hp:∀ q∈rl,0<=q.2) (X:RIn) (a:Nat) (x7:j8 X ⟨a,false⟩) (h:B1 rl X a=true):X.s.drop a=(J6 (t7 rl X a).2).1++X.s.drop (t7 rl X a).1.at_/\j2 (t7 rl X a).2=true:=by
 unfold B1 at h;simp only [a0g,Bool.not_eq_true'] at h;obtain ⟨⟨h0,h1⟩,h2⟩:=h;refine ⟨?_,h2⟩;obtain ⟨o,ho,e⟩:=nd h2;have f7:(t7 rl X a).2.op=((f6 X ⟨a,false⟩).1.toNat:Int):=by unfold t7; rw [ye]; rfl
 have eo:(f6 X ⟨a,false⟩).1.toNat=o:=by rw [f7] at e; omega
 have Xz:=(p6 o).1 ho;have F5:n7 (o:Int)=some (c6 o):=by unfold n7; rw [if_pos (by omega)]; rfl
 have hR:t7 rl X a=rdL rl X (c6 o) ((f6 X ⟨a,false⟩).2,f0 (o:Int)):=by unfold t7; rw [eo,F5]; rfl
 have q7:=(vZ ho e h2).1;rw [hR] at h1 q7;have ie:=(jT (v7 X) rl _ _ h1).1;have ht:=gJ X ⟨a,false⟩ x7 ie;have hl:=pJ rl hp X (c6 o) _ (f0 (o:Int)) (jR ho) (λf _=>fH f _) (F4 x7) h1 q7;have hE:(J6 (t7 rl X a).2).1=a1c o::(c6 o).flatMap (λf=>f.enc (t7 rl X a).2):=by
  unfold J6;rw [e,F5,zY];simp
 rw [hE,hR];have hc:(f6 X ⟨a,false⟩).1=a1c o:=by rw [<- eo]; simp
 rw [ht,hl,hc];rfl
theorem Aj (rl:List (Int×Int)) (hp:∀ q∈rl,0<=q.2) (X:RIn):∀ (k n:Nat) (s:List In×List Int),j8 X ⟨n,false⟩->tkS rl X k n=some s->X.s.drop n=s.1.flatMap (λx=>(J6 x).1)/\∀ x∈s.1,j2 x=true
 | 0,n,s,_,h=>by cases h
 | k+1,n,s,x7,h=>by
  rw [tkS] at h;split at h
  ·rename_i e9;split at h
   ·rename_i hd;obtain ⟨t,ht,rfl⟩:=a1y.1 h;obtain ⟨h1,h2⟩:=My rl hp X n x7 hd;obtain ⟨h3,h4⟩:=Aj rl hp X k _ t ⟨x7.1,(eh rl X n x7 e9).2.2⟩ ht;refine ⟨?_,λx hx=>?_⟩
    ·rw [h1,h3]; rfl
    ·rcases a0k.1 hx with rfl | hx
     ·exact h2
     ·exact h4 x hx
   ·cases h
  ·cases h;refine ⟨?_,λx hx=>by cases hx⟩;rw [a5t (by omega)]; rfl
end Go.Proofs
end
section
namespace Go.Proofs
open Go Go.SX
def lnT (x:In):List UInt8:=aj x x.op.toNat
def lsT (l:List In):List UInt8:=l.flatMap λx=>lnT x++[10]
def asG:List (List UInt8)->List In->Nat->List In×Nat×Bool
 | [],l,n=>(l,n,true)
 | [w],l,n=>(l,n,w==[])
 | w::v::r,l,n=>match A8 (d4 32 w) with
  | none=>(l,n,false)
  | some x=>asG (v::r) (l++[x]) (n+1)
theorem wj (c:UInt8):∀ s:List UInt8,(O6 c s).2.2=false->(O6 c s).1=s
 | [],_=>rfl
 | x::l,h=>by
  have e:O6 c (x::l)=if x==c then ([],l,true) else (x::(O6 c l).1,(O6 c l).2.1,(O6 c l).2.2):=rfl
  rw [e] at h ⊢;split at h
  ·cases h
  ·rename_i hx;rw [if_neg hx];simp only at h ⊢;rw [wj c l h]
theorem IE {s:List UInt8} (hs:s≠[]) (l:List In) (n:Nat) :
  asG (d4 10 s) l n=if (a3d s [10]).2.2=true then (match A8 (d4 32 (a3d s [10]).1) with
   | none=>(l,n,false)
   | some x=>asG (d4 10 (a3d s [10]).2.1) (l++[x]) (n+1)) else (l,n,false):=by
 rw [bt,gk];cases h:(O6 10 s).2.2 with
 | false =>
  rw [if_neg (by decide),if_neg (by decide),wj 10 s h];unfold asG;rw [show (s==[])=false from beq_eq_false_iff_ne.2 hs]
 | true =>
  rw [if_pos rfl,if_pos rfl];cases h2:d4 10 (O6 10 s).2.1 with
  | nil=>exact absurd h2 (cK _ _)
  | cons v r=>rfl
theorem IF (l:List In) (n:Nat):asG (d4 10 []) l n=(l,n,true):=rfl
theorem tU {x:In} {o:Nat} (e:x.op=(o:Int)):lnT x=aj x o:=by unfold lnT; rw [e]; rfl
theorem wk:∀ (ws:List (List UInt8)) (l:List In) (n:Nat),(∀ x∈l,j2 x=true)->∀ x∈(asG ws l n).1,j2 x=true
 | [],l,n,h=>h
 | [w],l,n,h=>h
 | w::v::r,l,n,h=>by
  rw [asG];cases e:A8 (d4 32 w) with
  | none=>exact h
  | some y =>
   refine wk (v::r) _ _ (λx hx=>?_);rcases a2s.1 hx with hx | hx
   ·exact h x hx
   ·obtain ⟨o,_,_,hf,_⟩:=gD e;rw [a0d.1 hx]; exact hf
theorem wl:∀ (l:List In) (s:List UInt8×List (Int×Int)),(l.foldl (λs x=>(s.1++(J6 x).1,s.2++shR s.1.length (J6 x).2)) s).1=s.1++l.flatMap λx=>(J6 x).1
 | [],s=>by simp
 | x::l,s=>by rw [List.foldl_cons,wl l,a2z,a1g]
theorem Fh (l:List In):(mdS l).1=l.flatMap λx=>(J6 x).1:=by unfold mdS; rw [wl]; rfl
theorem Mz (f:Fl) (x:In) (n:Nat) (h:f.fineB x=true):∀ e∈f.rel x n,0<=e.2:=by
 have hp:∀ v:Int,∀ e∈X5 v n,0<=e.2:=λv e he=>by
  unfold X5 at he;split at he
  ·cases he
  ·rw [a0d.1 he]; simp only; omega
 cases f
 case pN=>exact hp _
 case pM=>exact hp _
 case far =>
  have h':O5 x=true:=h;unfold O5 at h';simp only [a0g,decide_eq_true_eq] at h';show ∀ e∈[((n:Int),x.p)],_;intro e he;rw [a0d.1 he]; simp only; omega
 all_goals exact λe he=>absurd he (a1a)
theorem Ak (x:In):∀ (l:List Fl) (s:List UInt8×List (Int×Int)),(∀ f∈l,f.fineB x=true)->(∀ e∈s.2,0<=e.2)->∀ e∈(putL x l s).2,0<=e.2
 | [],s,_,h=>h
 | f::l,s,ha,h=>by
  refine Ak x l (s.1++f.enc x,s.2++f.rel x s.1.length) (λg hg=>ha g (a0e _ hg)) (λe he=>?_);rcases a2s.1 he with he | he
  ·exact h e he
  ·exact Mz f x _ (ha f (a0f ..)) e he
theorem IG {x:In} (h:j2 x=true):∀ e∈(J6 x).2,0<=e.2 :=
 Ak x _ _ (a0y.1 (V8 h).2) (λe he=>absurd he (a1a))
theorem Fi:∀ (l:List In) (s:List UInt8×List (Int×Int)),(∀ x∈l,j2 x=true)->(∀ e∈s.2,0<=e.2)->∀ e∈(l.foldl (λs x=>(s.1++(J6 x).1,s.2++shR s.1.length (J6 x).2)) s).2,0<=e.2
 | [],s,_,h=>h
 | x::l,s,hf,h=>by
  rw [List.foldl_cons];refine Fi l _ (λy hy=>hf y (a0e _ hy)) (λe he=>?_);rcases a2s.1 he with he | he
  ·exact h e he
  ·obtain ⟨q,hq,rfl⟩:=a1d.1 he;exact IG (hf x (a0f ..)) q hq
theorem IH (a b:Int×Int) (h:eqR a b=true):a=b:=by
 unfold eqR at h;rw [a0g,beq_iff_eq,beq_iff_eq] at h;exact Prod.ext h.1 h.2
theorem Al {rl:List (Int×Int)} {X:RIn} {pr rg:Int} {s:List In×List Int} (hs:X.s.length<=1000000000) (h:vdS rl X pr rg=some s):mdS s.1=(X.s,rl)/\(∀ x∈s.1,j2 x=true/\x.okL)/\s.1.length<=X.s.length:=by
 unfold vdS at h;split at h
 ·cases h
 cases ht:B2 rl X with
 | none=>rw [ht] at h; cases h
 | some t =>
  rw [ht] at h;simp only at h;split at h
  ·rename_i hc;cases h;rw [a0g] at hc;have hr:=pv IH hc.1;have x7:=ln hs ht;refine ⟨Prod.ext ?_ hr,x7.1,x7.2.2.2.1⟩;have hp:∀ q∈rl,0<=q.2:=by
    rw [<- hr];exact Fi s.1 ([],[]) (λx hx=>(x7.1 x hx).1) (λe he=>absurd he (a1a))
   unfold B2 at ht;obtain ⟨s',N6,rfl⟩:=a1y.1 ht;have:=(Aj rl hp X _ 0 s' ⟨hs,a0s _⟩ N6).1;rw [Fh];exact this.symm
  ·cases h
end Go.Proofs
end
section
namespace Go.Proofs
open Go Go.SX
theorem MA (s:List UInt8) (i:Nat):((d4 32 s).getD i []).length<=s.length:=by
 rw [a0r];cases e:(d4 32 s)[i]? with
 | none=>simp
 | some p=>exact L4 32 s p (a0v e)
theorem MC (K:Kc) (hK:K.ok) (s:List UInt8) (hs:s.length<1900000) :
  CallsK a0a 64 [.agg [.val (.map (some K.gF)),.val (.map (some K.gO))],.one (.str s)] (stP [cdP K,j7]) (rdP (d4 32 s)) rdV (λy=>z8 (lsP y.1 y.2.1)) :=
 vH K hK s (d4 32 s) (Aa 32 s).1 (by omega) (Aa 32 s).2 (by have:=I1 32 s; omega) (λo _ _ i _=>by
  unfold Fl.pok;have:=MA s (i+1);exact decide_eq_true (by omega))
theorem Fj {x:In} {o:Nat} (ho:F8 o=true) (e:x.op=(o:Int)) (h:j2 x=true):(c6 o).all (λf=>f.tok x)=true :=
 a0y.2 λf hf=>(vZ ho e h).1 f hf
theorem Fk (K:Kc) (hK:K.ok) (x:In) (A:IA) (hx:x.okL) (h:j2 x=true) :
  CallsK a0a 61 [.agg [.val (.map (some K.gF)),.val (.map (some K.gO))],.agg (inV x A)] (stP (cdP K::j7::lsP x A)) (λ_:Unit=>True) (λ_=>ov (.str (lnT x))) (λ_=>stP []):=by
 obtain ⟨o,ho,e⟩:=nd h;rw [tU e];exact Ka K hK x A hx o ho e (Fj ho e h)
def txA (x:In):List UInt8×Int:=bif j2 x then (lnT x,0) else ([],170)
def prO:Option In->In×Int
 | some x=>(x,0)
 | none=>(C2,222)
def prA (s:List UInt8):In×Int:=prO (A8 (d4 32 s))
end Go.Proofs
end
section
namespace Go.SX
def II (g:Nat) (b:Bool):RV->RV
 | .grd g' pol c x=>match a1m g' g with
  | true=>match pol,b with
   | true,true | false,false=>.v x
   | _,_=>.v (.one (.val undef))
  | false=>.grd g' pol c x
 | v=>v
def nh (g:Nat) (b:Bool):List (Nat×RV)->List (Nat×RV)
 | []=>[]
 | (k,v)::l=>(k,II g b v)::nh g b l
theorem az {g:Nat} {b:Bool}:∀ {l:List (Nat×RV)} {i:Nat},look (nh g b l) i=(look l i).map (II g b)
 | [],i=>rfl
 | (k,v)::l,i=>by
  simp only [nh,look];cases a1m k i with
  | true=>rfl
  | false=>exact az
def jV (g:Nat):List Nat->List Nat
 | []=>[]
 | k::l=>match a1m k g with
  | true=>jV g l
  | false=>k::jV g l
theorem fN {g i:Nat}:∀ {l:List Nat},p5 l i=true->g≠i->p5 (jV g l) i=true
 | [],h,_=>h
 | k::l,h,hn=>by
  simp only [jV];simp only [p5] at h;cases e:a1m k g with
  | true =>
   have:=a6d e;subst this;cases e2:a1m k i with
   | true=>exact absurd (a6d e2) hn
   | false=>rw [e2] at h; exact fN h hn
  | false =>
   simp only [p5];cases e2:a1m k i with
   | true=>rfl
   | false=>rw [e2] at h; exact fN h hn
variable {C:Ctx}
theorem K8 (g:Nat) (b e:Bool) {c:Cfg} (hl:look c.st.slots g=some (.v (.one (.sb e)))) (he:e=b)
  (h:V C ⟨c.todo,{ c.st with slots:=upd (nh g b c.st.slots) g (.v (.one (.bool b))),gs:=jV g c.st.gs }⟩):V C c:=by
 subst he;intro ρ a w hS;refine h ρ a w ⟨hS.n,λi v hv=>?_,λi g' pol c' x hv=>?_,hS.heap,hS.inj,hS.lt,hS.defers,hS.chg,hS.rows,hS.rowsD,hS.pers,hS.fix⟩
 ·simp only [s8] at hv;by_cases ei:g=i
  ·rw [if_pos ei] at hv;cases hv;subst ei;exact ⟨(hS.slots g _ hl).1,trivial⟩
  ·rw [if_neg ei,az] at hv;cases h0:look c.st.slots i with
   | none=>rw [h0] at hv; cases hv
   | some v0 =>
    rw [h0] at hv;cases hv;obtain ⟨k1,k2⟩:=hS.slots i v0 h0;cases v0 with
    | grd g' pol c' x =>
     simp only [II];cases eg:a1m g' g with
     | false=>exact ⟨k1,k2⟩
     | true =>
      have:=a6d eg;subst this;have k3:=(hS.grds i g' pol c' x h0).2;rw [hl] at k3;cases k3;cases pol<;>cases e
      ·exact ⟨k1,k2 rfl⟩
      ·exact ⟨k1,trivial⟩
      ·exact ⟨k1,trivial⟩
      ·exact ⟨k1,k2 rfl⟩
    | v x=>exact ⟨k1,k2⟩
    | _=>exact ⟨k1,k2⟩
 ·simp only [s8] at hv ⊢;by_cases ei:g=i
  ·rw [if_pos ei] at hv; cases hv
  ·rw [if_neg ei,az] at hv;cases h0:look c.st.slots i with
   | none=>rw [h0] at hv; cases hv
   | some v0 =>
    rw [h0] at hv;cases v0 with
    | grd g2 pol2 c2 x2 =>
     simp only [a2u,II] at hv;cases eg:a1m g2 g with
     | true=>rw [eg] at hv; cases pol2<;>cases e<;>cases hv
     | false =>
      rw [eg] at hv;cases hv;obtain ⟨k1,k2⟩:=hS.grds i g' pol c' x h0;have E0:g≠g':=λe'=>by subst e'; rw [a4h] at eg; cases eg
      refine ⟨fN k1 E0,?_⟩;rw [if_neg E0,az,k2];rfl
    | v x=>cases hv
    | _=>cases hv
end Go.SX
end
section
namespace Go.Proofs
open Go Go.SX
def aIn:Con a0a:=r6 Tryz.func81 false [] [] kq kq
def wm:Con a0a:=r6 Tryz.func55 false [⟨aIn,[]⟩] [] kq kq
def Kl:Con a0a:=r6 Tryz.func119 true [⟨wm,[]⟩] [] kq kq
def Pa:Con a0a:=r6 Tryz.func120 true [⟨wm,[]⟩] [] kq kq
def Fl.ch:Fl->UInt8
 | .D=>68 | .A=>65 | .B=>66 | .N=>78 | .M=>77 | .P=>80 | .T=>84 | .U=>85 | .W=>87 | .V=>86 | .L=>76 | .Y=>89 | .F=>70 | .Sz=>83 | .Rg=>82
 | .aN=>110 | .aM=>109 | .pN=>99 | .pM=>111 | .far=>103
def cW (o:Nat):List UInt8:=(c6 o).map Fl.ch
def rfT:List (List UInt8×List UInt8):=(a2f 39).map λo=>if o=0 then ([],[]) else (s6 o,cW o)
def rfN (n:Int):List UInt8×List UInt8:=if 1<=n/\n<39 then rfT.getD n.toNat ([],[]) else ([],[])
def frC (k:Nat):Cfg:=⟨[.code (I5 Tryz.f62)],stF Tryz.f62.ntmps [.one (.int .i64 (k:Int))] noF true⟩
def frD (k:Nat):Cfg:=(SX.runC a0a [] 100 (frC k)).1
def frO (k:Nat):List Prop:=[(0:Int)<=(k:Int)/\(k:Int)<((39:Nat):Int),(0:Int)<=0/\(0:Int)<((2:Nat):Int),(0:Int)<=(k:Int)/\(k:Int)<((39:Nat):Int),(0:Int)<=1/\(1:Int)<((2:Nat):Int)]
theorem BN (k:Nat) (hk:k<39) (h1:(SX.runC a0a [] 100 (frC k)).2=frO k) (h2:uM a0a 62 noF.next (frD k)=some (.tup [.one (.str (rfN k).1),.one (.str (rfN k).2)],r8 noF))
  (h3:(ew (frD k).todo&&(a1m (frD k).st.fx noF.next&&(lZ noF.next noF.heap noF.heap&&(od noF.next noF.heap&&(bf noF.rows&&nU noF.next noF.heap)))))=true) :
  CallsK a0a 62 [.one (.int .i64 (k:Int))] noF (λ_:Unit=>True) (λ_=>.tup [.one (.str (rfN k).1),.one (.str (rfN k).2)]) (λ_=>noF):=by
 refine a0j true Tryz.func62 (fun ρ w=>?_);have key:V ⟨a0a,62,N9 ρ noF (λ_:Unit=>True) (λ_=>.tup [.one (.str (rfN k).1),.one (.str (rfN k).2)]) (λ_=>noF) w,n6 ρ noF,w,ρ,none⟩ (frD k):=dw () [] h2 h3 rfl trivial;exact V.runC (c:=frC k) [] 100 (frO k) h1 rfl ⟨⟨by omega,by omega⟩,⟨by decide,by decide⟩,⟨by omega,by omega⟩,⟨by decide,by decide⟩⟩ key
theorem BO (k:Nat) (h:1<=k/\k<39):CallsK a0a 62 [.one (.int .i64 (k:Int))] noF (λ_:Unit=>True) (λ_=>.tup [.one (.str (rfN k).1),.one (.str (rfN k).2)]) (λ_=>noF):=by
 rcases (show k=1∨k=2∨k=3∨k=4∨k=5∨k=6∨k=7∨k=8∨k=9∨k=10∨k=11∨k=12∨k=13∨k=14∨k=15∨k=16∨k=17∨k=18∨k=19∨k=20∨k=21∨k=22∨k=23∨k=24∨k=25∨k=26∨k=27∨k=28∨k=29∨k=30∨k=31∨k=32∨k=33∨k=34∨k=35∨k=36∨k=37∨k=38 by omega) with rfl|rfl|rfl|rfl|rfl|rfl|rfl|rfl|rfl|rfl|rfl|rfl|rfl|rfl|rfl|rfl|rfl|rfl|rfl|rfl|rfl|rfl|rfl|rfl|rfl|rfl|rfl|rfl|rfl|rfl|rfl|rfl|rfl|rfl|rfl|rfl|rfl|rfl
 all_goals exact BN _ (by decide) kq kq kq
theorem Z7 (n:Int):CallsK a0a 62 [.one (.int .i64 n)] noF (λ_:Unit=>True) (λ_=>.tup [.one (.str (rfN n).1),.one (.str (rfN n).2)]) (λ_=>noF):=by
 by_cases hn:1<=n/\n<39
 ·obtain ⟨k,rfl⟩:∃ k:Nat,n=(k:Int):=⟨n.toNat,by omega⟩;exact BO k (by omega)
 ·have e:rfN n=([],[]):=by
   unfold rfN;rw [if_neg hn]
  rw [e];exact a0j true Tryz.func62 fun ρ w=>V.q<|m0 52 (decide (n<1)||decide (n>=39)) true (by simp; omega)<|V.q<|V.z
def MD (op:Int):List SV:=(inV (f0 op) IA0).map λy=>match y with
 | .sb b=>.bool b
 | y=>y
theorem ni (op:Int):CallsK a0a 66 [.one (.int .i64 op)] noF (λ_:Unit=>True) (λ_=>.v (.agg (inV (f0 op) IA0))) (λ_=>noF):=by
 refine CallsK.as (v:=λ_=>.v (.agg (MD op))) ?_ _ (λ_ _ _=>rfl) (λ_ _=>?_)
 ·exact a0j true Tryz.func66 fun ρ w=>V.q<|V.z
 ·intro y hy;simp only [inV,inC,a0k,a1a,or_false] at hy;rcases hy with rfl|rfl|rfl|rfl|rfl|rfl|rfl|rfl|rfl|rfl|rfl|rfl|rfl|rfl|rfl|rfl|rfl|rfl|rfl|rfl|rfl|rfl|rfl|rfl|rfl|rfl|rfl|rfl|rfl<;>trivial
def BP (A:IA) (l:List Fl) (B:IA):IA:=l.foldl (λB f=>f.mvA A B) B
theorem lE {o:Nat} (ho:F8 o=true):rfN (o:Int)=(s6 o,cW o):=by
 have h:=(p6 o).1 ho;unfold rfN;rw [if_pos (by omega),a1h];have:=D7 (p:=λo=>decide (rfT.getD o ([],[])=(s6 o,cW o))) kq ho;simpa using this
theorem Fn (x:In) (o:Nat) (ho:F8 o=true) (f7:x.op=(o:Int)):CallsK a0a 62 [.one (.int .i64 x.op)] noF (λ_:Unit=>True) (λ_=>.tup [.one (.str (s6 o)),.one (.str (cW o))]) (λ_=>noF):=by
 have h:=Z7 x.op;rw [f7,lE ho] at h;rw [f7];exact h
def MF:List SV:=(inV ⟨0,0,0,0,ty0,ty0,ty0,0,0,0,0,[],[],[],[],false,false⟩ IA0).map λy=>match y with
 | .sb b=>.bool b
 | y=>y
structure CoI where
 y:In
 B:IA
 i:Nat
def Sr (x:In) (A:IA) (o:Nat) (j:CoI):St :=
 { n:=113,slots:=[(1,ov (.ptr 0 0)),(2,ov (.ptr 1 0)),(4,ov (.str (cW o))),(5,ov (.ptr 2 0)),(6,ov (.int .i64 (j.i:Int)))],gs:=[],
    heap:=[(0,⟨inV x A,30,true⟩),(1,⟨MF,30,true⟩),(2,⟨inV j.y j.B,30,true⟩)],next:=3,rows:=[],nr:=0,pers:=[],wr:=true,fx:=0 }
def Fl.nc:Fl->Nat
 | .D=>1 | .A=>2 | .B=>3 | .N=>4 | .aN=>5 | .pN=>6 | .M=>7 | .aM=>8 | .pM=>9 | .P=>10 | .far=>11 | .T=>12 | .U=>13 | .W=>14 | .V=>15 | .L=>16 | .Y=>17 | .F=>18 | .Sz=>19 | .Rg=>20
theorem IJ (x:In) (A:IA) (o:Nat) (ho:F8 o=true) (f7:x.op=(o:Int)):CallsK a0a 118 [.agg (inV x A)] noF (λ_:Unit=>True) (λ_=>.v (.agg (inV (mvL x (c6 o) (f0 x.op)) (BP A (c6 o) IA0)))) (λ_=>noF):=by
 have lK:(c6 o).length<=7:=by
  have:=D7 (p:=λo=>decide ((c6 o).length<=7)) kq ho;simpa using this
 have KQ:(cW o).length=(c6 o).length:=a1k _;refine a0j true Tryz.func118 fun ρ w=>V.q<|V.c [] (Fn x o ho f7) λ_ _=>V.q<|V.c [] (ni x.op) λ_ _=>V.q<|a1l<|C0 [1,2,4,5,6] [0,1,2] [] [] (λj:CoI=>(c6 o).length - j.i) (Sr x A o) (λj=>j.i<=(c6 o).length/\j.y=mvL x ((c6 o).take j.i) (f0 x.op)/\j.B=BP A ((c6 o).take j.i) IA0) ⟨f0 x.op,IA0,0⟩ kq ⟨a0s _,rfl,rfl⟩ (λj hj ih=>?_);obtain ⟨y,B,i⟩:=j;obtain ⟨hi,hy,hB⟩:=hj;simp only at hi hy hB;refine V.q<|f9 19 (decide ((i:Int)<(cW o).length)) (λhb=>?_) (λhb=>?_)
 ·have e9:i<(c6 o).length:=by rw [<- KQ]; simpa using hb
  obtain ⟨f,hf⟩:∃ f,(c6 o).getD i .D=f:=⟨_,rfl⟩;have N5:(cW o).getD i 0=f.ch:=by
   rw [<- hf,cW,a0r,a2t,a0b e9,a0r,a0b e9];rfl
  have C4:mvL x ((c6 o).take (i+1)) (f0 x.op)=f.mv x y:=by
   rw [a2c,a0b e9];rw [a0r,a0b e9] at hf;simp only [a1e] at hf;rw [hf,hy];simp [mvL,a4r]
  have Gy:BP A ((c6 o).take (i+1)) IA0=f.mvA A B:=by
   rw [a2c,a0b e9];rw [a0r,a0b e9] at hf;simp only [a1e] at hf;rw [hf,hB];simp [BP,a4r]
  have key:=ih ⟨f.mv x y,f.mvA A B,i+1⟩ ⟨e9,C4.symm,Gy.symm⟩ (by simp only; omega);refine V.t [] [(0:Int)<=i/\(i:Int)<(cW o).length] ⟨by omega,by omega⟩<|V.s 24 (.one (.int .u8 (((cW o).getD i 0).toNat:Int))) (.one (.int .u8 (f.ch.toNat:Int))) (λ_=>by rw [N5])<|V.s 25 (.one (.sb ((((cW o).getD i 0).toNat:Int)==68))) (.one (.sb ((f.ch.toNat:Int)==68))) (λ_=>by rw [N5]) ?_;clear hf N5 C4 Gy ih;cases f
  case D =>
   exact l6 [] (Fl.nc .D) [] trivial<|V.q<|a3v 6 i (by omega)<|a1l<|s5 [1,2,4,5,6] [0,1,2] [] [] key kq kq
  case A =>
   exact l6 [] (Fl.nc .A) [] trivial<|V.q<|a3v 6 i (by omega)<|a1l<|s5 [1,2,4,5,6] [0,1,2] [] [] key kq kq
  case B =>
   exact l6 [] (Fl.nc .B) [] trivial<|V.q<|a3v 6 i (by omega)<|a1l<|s5 [1,2,4,5,6] [0,1,2] [] [] key kq kq
  case N =>
   exact l6 [] (Fl.nc .N) [] trivial<|V.q<|a3v 6 i (by omega)<|a1l<|s5 [1,2,4,5,6] [0,1,2] [] [] key kq kq
  case M =>
   exact l6 [] (Fl.nc .M) [] trivial<|V.q<|a3v 6 i (by omega)<|a1l<|s5 [1,2,4,5,6] [0,1,2] [] [] key kq kq
  case P =>
   exact l6 [] (Fl.nc .P) [] trivial<|V.q<|a3v 6 i (by omega)<|a1l<|s5 [1,2,4,5,6] [0,1,2] [] [] key kq kq
  case T =>
   exact l6 [] (Fl.nc .T) [] trivial<|V.q<|a3v 6 i (by omega)<|a1l<|s5 [1,2,4,5,6] [0,1,2] [] [] key kq kq
  case U =>
   exact l6 [] (Fl.nc .U) [] trivial<|V.q<|a3v 6 i (by omega)<|a1l<|s5 [1,2,4,5,6] [0,1,2] [] [] key kq kq
  case W =>
   exact l6 [] (Fl.nc .W) [] trivial<|V.q<|a3v 6 i (by omega)<|a1l<|s5 [1,2,4,5,6] [0,1,2] [] [] key kq kq
  case V =>
   exact l6 [] (Fl.nc .V) [] trivial<|V.q<|a3v 6 i (by omega)<|a1l<|s5 [1,2,4,5,6] [0,1,2] [] [] key kq kq
  case L =>
   exact l6 [] (Fl.nc .L) [] trivial<|V.q<|a3v 6 i (by omega)<|a1l<|s5 [1,2,4,5,6] [0,1,2] [] [] key kq kq
  case Y =>
   exact l6 [] (Fl.nc .Y) [] trivial<|V.q<|a3v 6 i (by omega)<|a1l<|s5 [1,2,4,5,6] [0,1,2] [] [] key kq kq
  case F =>
   exact l6 [] (Fl.nc .F) [] trivial<|V.q<|a3v 6 i (by omega)<|a1l<|s5 [1,2,4,5,6] [0,1,2] [] [] key kq kq
  case Sz =>
   exact l6 [] (Fl.nc .Sz) [] trivial<|V.q<|a3v 6 i (by omega)<|a1l<|s5 [1,2,4,5,6] [0,1,2] [] [] key kq kq
  case Rg =>
   exact l6 [] (Fl.nc .Rg) [] trivial<|V.q<|a3v 6 i (by omega)<|a1l<|s5 [1,2,4,5,6] [0,1,2] [] [] key kq kq
  case aN =>
   exact l6 [] (Fl.nc .aN) [] trivial<|V.q<|a3v 6 i (by omega)<|a1l<|s5 [1,2,4,5,6] [0,1,2] [] [] key kq kq
  case aM =>
   exact l6 [] (Fl.nc .aM) [] trivial<|V.q<|a3v 6 i (by omega)<|a1l<|s5 [1,2,4,5,6] [0,1,2] [] [] key kq kq
  case pN =>
   exact l6 [] (Fl.nc .pN) [] trivial<|V.q<|a3v 6 i (by omega)<|a1l<|s5 [1,2,4,5,6] [0,1,2] [] [] key kq kq
  case pM =>
   exact l6 [] (Fl.nc .pM) [] trivial<|V.q<|a3v 6 i (by omega)<|a1l<|s5 [1,2,4,5,6] [0,1,2] [] [] key kq kq
  case far =>
   exact l6 [] (Fl.nc .far) [] trivial<|V.q<|a3v 6 i (by omega)<|a1l<|s5 [1,2,4,5,6] [0,1,2] [] [] key kq kq
 ·have B0:(c6 o).length=i:=by
   have:¬ i<(cW o).length:=by simpa using hb
   omega
  rw [<- B0,a1o] at hy hB;refine V.q ?_;subst hy hB;exact V.z
def W6 (x:In):List Fl:=(n7 x.op).getD []
def yOf (x:In):In:=mvL x (W6 x) (f0 x.op)
def bOf (x:In) (A:IA):IA:=BP A (W6 x) IA0
theorem pK {x:In} {o:Nat} (ho:F8 o=true) (f7:x.op=(o:Int)):W6 x=c6 o:=by
 have h:=(p6 o).1 ho;unfold W6 n7;rw [if_pos (by omega),f7];rfl
theorem tV {x:In} (h:¬ (1<=x.op/\x.op<=38)):W6 x=[]:=by
 unfold W6 n7;rw [if_neg h];rfl
theorem yh {n:Int} (h:¬ (1<=n/\n<=38)):rfN n=([],[]):=by
 unfold rfN;rw [if_neg (by omega)]
theorem jW {n:Int} (h:1<=n/\n<=38):∃ o:Nat,F8 o=true/\n=(o:Int):=⟨n.toNat,(p6 _).2 (by omega),by omega⟩
theorem IK (x:In):(rfN x.op).2=(W6 x).map Fl.ch:=by
 by_cases h:1<=x.op/\x.op<=38
 ·obtain ⟨o,ho,f7⟩:=jW h;rw [pK ho f7,f7,lE ho];rfl
 ·rw [tV h,yh h];rfl
theorem IL (x:In):(W6 x).length<=7:=by
 by_cases h:1<=x.op/\x.op<=38
 ·obtain ⟨o,ho,f7⟩:=jW h;rw [pK ho f7];have:=D7 (p:=λo=>decide ((c6 o).length<=7)) kq ho;simpa using this
 ·rw [tV h];decide
theorem Fo (x:In) (A:IA):CallsK a0a 118 [.agg (inV x A)] noF (λ_:Unit=>True) (λ_=>.v (.agg (inV (yOf x) (bOf x A)))) (λ_=>noF):=by
 by_cases h:1<=x.op/\x.op<=38
 ·obtain ⟨o,ho,f7⟩:=jW h;have:=IJ x A o ho f7;rw [<- pK ho f7] at this;exact this
 ·have hr:=Z7 x.op;rw [yh h] at hr;rw [show yOf x=f0 x.op by unfold yOf; rw [tV h]; rfl,show bOf x A=IA0 by unfold bOf; rw [tV h]; rfl];exact a0j true Tryz.func118 fun ρ w=>V.q<|V.c [] hr λ_ _=>V.q<|V.c [] (ni x.op) λ_ _=>V.q<|a1l<|V.q<|m0 19 (decide ((0:Int)<(([]:List UInt8).length:Int))) false (by decide)<|V.q<|V.z
theorem jE.mvL {x:In} {A:IA}:∀ {l:List Fl} {y:In} {B:IA},jE x A y B->jE x A (mvL x l y) (BP A l B)
 | [],_,_,h=>h
 | f::l,y,B,h=>jE.mvL (l:=l) (h.mv f)
theorem Pb (x:In) (A:IA):jE x A (yOf x) (bOf x A):=jE.mvL (jE.zero x A x.op)
theorem Pc {x:In} (h:x.okM) (A:IA):(yOf x).okM:=by
 obtain ⟨h1,h2,h3⟩:=Pb x A;obtain ⟨k1,k2,k3⟩:=h;refine ⟨?_,?_,?_⟩
 ·rcases h1 with ⟨e,_⟩ | ⟨e,_⟩
  ·rw [e]; decide
  ·rw [e]; exact k1
 ·rcases h2 with ⟨e,_⟩ | ⟨e,_⟩
  ·rw [e]; decide
  ·rw [e]; exact k2
 ·rcases h3 with ⟨e,_⟩ | ⟨e,_⟩
  ·rw [e]; decide
  ·rw [e]; exact k3
def IM (x:In) (A:IA):Con a0a:=R7 118 [] [.agg (inV x A)] (.v (.agg (inV (yOf x) (bOf x A)))) (CallsK.gives (Fo x A) ⟨rfl,rfl,rfl⟩ (λ_ _=>rfl))
def TW (x:In) (A:IA) (hx:x.okM):List (Ent a0a):=[⟨IM x A,[]⟩,⟨Ij (yOf x) x (bOf x A) A (Pc hx A),[3,4,5,2,1,0]⟩,⟨aIn,[]⟩,⟨wm,[]⟩,⟨Kl,[]⟩]
def rwB (x:In):Bool:=((rfN x.op).1==[])||!(Z3 (yOf x) x)||!(inR x.d (-1) 3999)||!(inR x.a (-1) 3999)||!(inR x.b (-1) 3999)||!(U1 x.n)||!(U1 x.m)||!(U1 x.p)||!(tyR x.t)||!(tyR x.u)||!(tyR x.w)||!(U1 x.vn)||decide ((x.vs.length:Int)>255)
theorem cX {x:In} (h:j2 x=true):∃ o,F8 o=true/\x.op=(o:Int)/\Z3 (yOf x) x=true/\jL x/\∀ f∈W6 x,fE f x=true:=by
 by_cases f7:1<=x.op/\x.op<=38
 ·obtain ⟨o,ho,e⟩:=jW f7;refine ⟨o,ho,e,?_⟩;have:=(rG x o ho e).1 h;unfold yOf;rw [pK ho e];exact this
 ·have:j2 x=false:=by unfold j2 n7; rw [if_neg f7]
  rw [this] at h;cases h
theorem IN {x:In} (h:j2 x=true):rwB x=false:=by
 obtain ⟨o,ho,e,h1,g,_⟩:=cX h;have h0:((rfN x.op).1==[])=false:=by
  rw [e,lE ho];have:=D7 (p:=λo=>!(s6 o==[])) kq ho;simpa using this
 have h2:decide ((x.vs.length:Int)>255)=false:=by
  have:=g.gvs;simp only [decide_eq_true_eq] at this;exact decide_eq_false (by omega)
 unfold rwB;rw [h0,h1,g.gd,g.ga,g.gb,g.gn,g.gm,g.gp,g.gt,g.gu,g.gw,g.gvn,h2];rfl
theorem Pd {x:In} (h:rwB x=false):∃ o,F8 o=true/\x.op=(o:Int):=by
 by_cases f7:1<=x.op/\x.op<=38
 ·exact jW f7
 ·unfold rwB at h;rw [yh f7] at h;simp at h
theorem IO {x:In} (h:rwB x=false) (h2:(decide ((x.f.length:Int)>16)||decide ((x.l.length:Int)>16)||decide ((x.y.length:Int)>16))=false) (hf:x.f.all fmR=true) (hl:(x.l.all λn=>inR n 0 3999)=true) (hy:x.y.all tyR=true)
  (e9:∀ f∈W6 x,fE f x=true):j2 x=true:=by
 obtain ⟨o,ho,e⟩:=Pd h;refine (rG x o ho e).2 ?_;unfold rwB at h;simp only [a2r,a5x,decide_eq_false_iff_not] at h h2;obtain ⟨⟨⟨⟨⟨⟨⟨⟨⟨⟨⟨⟨_,k1⟩,k2⟩,k3⟩,k4⟩,k5⟩,k6⟩,k7⟩,k8⟩,k9⟩,k10⟩,k11⟩,k12⟩:=h;have AA:=pK ho e;unfold yOf at k1;rw [AA] at k1 e9;exact ⟨k1,⟨k2,k3,k4,k5,k6,k7,k8,k9,k10,k11,decide_eq_true (by omega),decide_eq_true (by omega),decide_eq_true (by omega),decide_eq_true (by omega),hf,hl,hy⟩,e9⟩
def weT:List Item:=hU 100 [.code (I5 Tryz.f60)]
def Pe (x:In) (A:IA):St :=
 { n:=220,slots:=[(1,ov (.ptr 0 0)),(4,ov (.str (rfN x.op).2)),(91,ov (.sb (rwB x)))],gs:=[],
    heap:=[(0,⟨inV x A,30,true⟩)],next:=1,rows:=[],nr:=0,pers:=lsP x A,wr:=true,fx:=0 }
def IP (x:In) (A:IA) (t i:Nat):St :=
 { n:=220,slots:=[(1,ov (.ptr 0 0)),(4,ov (.str (rfN x.op).2)),(t,ov (.int .i64 (i:Int)))],gs:=[],
    heap:=[(0,seB x A 0)],next:=1,rows:=[(0,C7 x A),(1,C1 x A),(2,E7 x A)],nr:=3,pers:=[],wr:=true,fx:=0 }
theorem _root_.Go.SX.V.byK {C:Ctx} (t:Nat) (e:Bool) {c:Cfg} (hl:SX.look c.st.slots t=some (.v (.one (.sb e)))) (h1:e=true->V C (c.know t true)) (h2:e=false->V C (c.know t false)):V C c:=by
 by_cases he:e=true
 ·exact jc t e true hl he (h1 he)
 ·exact jc t e false hl (by simpa using he) (h2 (by simpa using he))
theorem yi (x:In) (A:IA) (hx:x.okM) (r:Bool) (hr:r=j2 x) (ρ:Nat->Nat) (w:World):V ⟨a0a,60,N9 ρ (stP (lsP x A)) (λ_:Unit=>True) (λ_=>ov (.sb r)) (λ_=>noF) w,n6 ρ (stP (lsP x A)),w,ρ,none⟩ ⟨weT,Pe x A⟩:=by
 have bad:(j2 x=true->False)->r=false:=λh=>by
  rw [hr];cases e:j2 x with
  | false=>rfl
  | true=>exact (h e).elim
 refine f9 91 (rwB x) (λh0=>?_) (λh0=>?_)
 ·refine V.q ?_;have hz:r=false:=bad λh=>by rw [IN h] at h0; cases h0
  subst hz;exact a4o 2 false<|V.z
 refine V.q<|f9 107 (decide ((x.f.length:Int)>16)||decide ((x.l.length:Int)>16)||decide ((x.y.length:Int)>16)) (λh1=>?_) (λh1=>?_)
 ·refine V.q ?_;have hz:r=false:=bad λh=>by
   obtain ⟨o,ho,e,_,g,_⟩:=cX h;have k1:=g.nf;have k2:=g.nl;have k3:=g.ny;simp only [a3w,decide_eq_true_eq] at h1 k1 k2 k3;omega
  subst hz;exact a4o 2 false<|V.z
 have Xm:x.f.length<=16/\x.l.length<=16/\x.y.length<=16:=by
  simp only [a2r,decide_eq_false_iff_not] at h1;omega
 refine jK<|M2 0 (C7 x A) kq rfl<|M2 1 (C1 x A) kq rfl<|M2 2 (E7 x A) kq rfl<|K5 0 24 0 ⟨inV x A,30,true⟩ (C7 x A) kq kq kq<|K5 0 25 1 ⟨inC x (.row 0 A.qf x.f.length A.cf) (.val (.slice A.ql x.l.length A.cl)) (.val (.slice A.qy x.y.length A.cy)),30,true⟩ (C1 x A) kq kq kq<|K5 0 26 2 ⟨inC x (.row 0 A.qf x.f.length A.cf) (.row 1 A.ql x.l.length A.cl) (.val (.slice A.qy x.y.length A.cy)),30,true⟩ (E7 x A) kq kq kq<|V.q<|a1l<|C0 [1,4,5] [0] [0,1,2] [] (λi:Nat=>x.f.length - i) (IP x A 5) (λi=>i<=x.f.length/\(x.f.take i).all fmR=true) 0 kq ⟨a0s _,rfl⟩ (λi hi ih=>?_);obtain ⟨GT,q7⟩:=hi;refine V.q<|f9 112 (decide ((i:Int)<(x.f.length:Int))) (λhc=>?_) (λhc=>?_)
 ·have e9:i<x.f.length:=by simpa using hc
  refine V.t [⟨Pa,[]⟩] [(0:Int)<=i/\(i:Int)<x.f.length] ⟨by omega,by omega⟩<|f9 121 (!(fmR (x.f.getD i fm0))) (λhh=>?_) (λhh=>?_)
  ·refine V.q ?_;have hz:r=false:=bad λh=>by
    obtain ⟨o,ho,e,_,g,_⟩:=cX h;have:=g.gf;rw [dQ e9 fm0 (by simpa using hh)] at this;cases this
   subst hz;exact a4o 2 false<|V.z
  ·exact V.q<|a3v 5 i (by omega)<|a1l<|s5 [1,4,5] [0] [0,1,2] [] (ih (i+1) ⟨e9,K3 e9 fm0 q7 (by simpa using hh)⟩ (by omega)) kq kq
 have B0:x.f.length=i:=by
  have:¬ i<x.f.length:=by simpa using hc
  omega
 have hF:x.f.all fmR=true:=by rw [<- B0,a1o] at q7; exact q7
 refine V.q<|a1l ?_;clear ih q7 hc B0 GT;refine C0 [1,4,6] [0] [0,1,2] [] (λi:Nat=>x.l.length - i) (IP x A 6) (λi=>i<=x.l.length/\((x.l.take i).all λn=>inR n 0 3999)=true) 0 kq ⟨a0s _,rfl⟩ (λi hi ih=>?_);obtain ⟨GT,q7⟩:=hi;refine V.q<|f9 126 (decide ((i:Int)<(x.l.length:Int))) (λhc=>?_) (λhc=>?_)
 ·have e9:i<x.l.length:=by simpa using hc
  refine V.t [⟨aIn,[]⟩] [(0:Int)<=i/\(i:Int)<x.l.length] ⟨by omega,by omega⟩<|f9 135 (!(inR (x.l.getD i 0) 0 3999)) (λhh=>?_) (λhh=>?_)
  ·refine V.q ?_;have hz:r=false:=bad λh=>by
    obtain ⟨o,ho,e,_,g,_⟩:=cX h;have:=g.gl;rw [dQ e9 0 (by simpa using hh)] at this;cases this
   subst hz;exact a4o 2 false<|V.z
  ·exact V.q<|a3v 6 i (by omega)<|a1l<|s5 [1,4,6] [0] [0,1,2] [] (ih (i+1) ⟨e9,K3 e9 0 q7 (by simpa using hh)⟩ (by omega)) kq kq
 have B0:x.l.length=i:=by
  have:¬ i<x.l.length:=by simpa using hc
  omega
 have hL:(x.l.all λn=>inR n 0 3999)=true:=by rw [<- B0,a1o] at q7; exact q7
 refine V.q<|a1l ?_;clear ih q7 hc B0 GT;refine C0 [1,4,7] [0] [0,1,2] [] (λi:Nat=>x.y.length - i) (IP x A 7) (λi=>i<=x.y.length/\(x.y.take i).all tyR=true) 0 kq ⟨a0s _,rfl⟩ (λi hi ih=>?_);obtain ⟨GT,q7⟩:=hi;refine V.q<|f9 140 (decide ((i:Int)<(x.y.length:Int))) (λhc=>?_) (λhc=>?_)
 ·have e9:i<x.y.length:=by simpa using hc
  refine V.t [⟨Kl,[]⟩] [(0:Int)<=i/\(i:Int)<x.y.length] ⟨by omega,by omega⟩<|f9 149 (!(tyR (x.y.getD i ty0))) (λhh=>?_) (λhh=>?_)
  ·refine V.q ?_;have hz:r=false:=bad λh=>by
    obtain ⟨o,ho,e,_,g,_⟩:=cX h;have:=g.gy;rw [dQ e9 ty0 (by simpa using hh)] at this;cases this
   subst hz;exact a4o 2 false<|V.z
  ·exact V.q<|a3v 7 i (by omega)<|a1l<|s5 [1,4,7] [0] [0,1,2] [] (ih (i+1) ⟨e9,K3 e9 ty0 q7 (by simpa using hh)⟩ (by omega)) kq kq
 have B0:x.y.length=i:=by
  have:¬ i<x.y.length:=by simpa using hc
  omega
 have hY:x.y.all tyR=true:=by rw [<- B0,a1o] at q7; exact q7
 refine V.q<|a1l ?_;clear ih q7 hc B0 GT;have lK:=IL x;have N5:=IK x;have KQ:(rfN x.op).2.length=(W6 x).length:=by rw [N5,a1k]
 refine C0 [1,4,8] [0] [0,1,2] [] (λi:Nat=>(W6 x).length - i) (IP x A 8) (λi=>i<=(W6 x).length/\((W6 x).take i).all (λf=>fE f x)=true) 0 kq ⟨a0s _,rfl⟩ (λi hi ih=>?_);obtain ⟨GT,q7⟩:=hi;refine V.q<|f9 153 (decide ((i:Int)<((rfN x.op).2.length:Int))) (λhc=>?_) (λhc=>?_)
 ·have e9:i<(W6 x).length:=by rw [<- KQ]; simpa using hc
  have hB:(0:Int)<=i/\(i:Int)<((rfN x.op).2.length:Int):=by rw [KQ]; omega
  obtain ⟨f,GP⟩:∃ f,(W6 x).getD i .D=f:=⟨_,rfl⟩;have kk:(rfN x.op).2.getD i 0=f.ch:=by
   rw [<- GP,N5,a0r,a2t,a0b e9,a0r,a0b e9];rfl
  have Aw:j2 x=true->fE f x=true:=λh=>by
   obtain ⟨o,ho,e,_,g,hl⟩:=cX h;refine hl f ?_;rw [<- GP,a0r,a0b e9];exact List.getElem_mem e9
  refine V.t [⟨aIn,[]⟩] [(0:Int)<=i/\(i:Int)<((rfN x.op).2.length:Int),((((rfN x.op).2.getD i 0).toNat:Int)==110&&!(inR x.n 0 1048576))=false->(0:Int)<=i/\(i:Int)<((rfN x.op).2.length:Int)] ⟨hB,λ_=>hB⟩<|V.byK 166 ((((rfN x.op).2.getD i 0).toNat:Int)==110&&!(inR x.n 0 1048576)) kq (λe1=>?_) (λe1=>?_)
  ·refine V.q ?_;have hz:r=false:=bad λh=>by
    have hg:=Aw h;rw [kk] at e1;clear kk Aw GP;cases f<;>simp_all [Fl.ch,fE]
   subst hz;exact a4o 2 false<|V.z
  refine V.t [⟨aIn,[]⟩] [((((rfN x.op).2.getD i 0).toNat:Int)==109&&!(inR x.m 0 1048576))=false->(0:Int)<=i/\(i:Int)<((rfN x.op).2.length:Int)] (λ_=>hB)<|V.byK 178 ((((rfN x.op).2.getD i 0).toNat:Int)==109&&!(inR x.m 0 1048576)) kq (λe2=>?_) (λe2=>?_)
  ·refine V.q ?_;have hz:r=false:=bad λh=>by
    have hg:=Aw h;rw [kk] at e2;clear kk Aw GP;cases f<;>simp_all [Fl.ch,fE]
   subst hz;exact a4o 2 false<|V.z
  refine V.t [⟨aIn,[]⟩] [((((rfN x.op).2.getD i 0).toNat:Int)==99&&!(inR x.n 0 63))=false->(0:Int)<=i/\(i:Int)<((rfN x.op).2.length:Int)] (λ_=>hB)<|V.byK 190 ((((rfN x.op).2.getD i 0).toNat:Int)==99&&!(inR x.n 0 63)) kq (λe3=>?_) (λe3=>?_)
  ·refine V.q ?_;have hz:r=false:=bad λh=>by
    have hg:=Aw h;rw [kk] at e3;clear kk Aw GP;cases f<;>simp_all [Fl.ch,fE]
   subst hz;exact a4o 2 false<|V.z
  refine V.t [⟨aIn,[]⟩] [((((rfN x.op).2.getD i 0).toNat:Int)==111&&!(inR x.m (-1) 63))=false->(0:Int)<=i/\(i:Int)<((rfN x.op).2.length:Int)] (λ_=>hB)<|V.byK 202 ((((rfN x.op).2.getD i 0).toNat:Int)==111&&!(inR x.m (-1) 63)) kq (λe4=>?_) (λe4=>?_)
  ·refine V.q ?_;have hz:r=false:=bad λh=>by
    have hg:=Aw h;rw [kk] at e4;clear kk Aw GP;cases f<;>simp_all [Fl.ch,fE]
   subst hz;exact a4o 2 false<|V.z
  refine V.byK 207 ((((rfN x.op).2.getD i 0).toNat:Int)==103) kq (λe5=>?_) (λe5=>?_)
  ·refine V.t [⟨aIn,[]⟩] [] trivial<|f9 219 (!(inR x.n 0 1048576)||!(inR x.p 0 63)) (λe6=>?_) (λe6=>?_)
   ·refine V.q ?_;have hz:r=false:=bad λh=>by
     have hg:=Aw h;rw [kk] at e5;clear kk Aw GP;cases f<;>simp_all [Fl.ch,fE]
    subst hz;exact a4o 2 false<|V.z
   refine V.q ?_;have x7:fE f x=true:=by
    rw [kk] at e1 e2 e3 e4 e5;clear kk Aw GP ih;cases f<;>simp_all [Fl.ch,fE]
   exact a3v 8 i (by omega)<|a1l<|s5 [1,4,8] [0] [0,1,2] [] (ih (i+1) ⟨e9,K3 e9 .D q7 (by rw [GP]; exact x7)⟩ (by omega)) kq kq
  ·refine V.t [⟨aIn,[]⟩] [] trivial ?_;have x7:fE f x=true:=by
    rw [kk] at e1 e2 e3 e4 e5;clear kk Aw GP ih;cases f<;>simp_all [Fl.ch,fE]
   exact a3v 8 i (by omega)<|a1l<|s5 [1,4,8] [0] [0,1,2] [] (ih (i+1) ⟨e9,K3 e9 .D q7 (by rw [GP]; exact x7)⟩ (by omega)) kq kq
 ·have B0:(W6 x).length=i:=by
   have:¬ i<(rfN x.op).2.length:=by simpa using hc
   omega
  have Xl:∀ f∈W6 x,fE f x=true:=by
   rw [<- B0,a1o] at q7;exact λf hf=>a0y.1 q7 f hf
  have hz:r=true:=hr.trans (IO h0 h1 hF hL hY Xl);refine V.q ?_;subst hz;exact a4o 2 true<|V.z
theorem Km (x:In) (A:IA) (hx:x.okM) (r:Bool) (hr:r=j2 x):CallsK a0a 60 [.agg (inV x A)] (stP (lsP x A)) (λ_:Unit=>True) (λ_=>ov (.sb r)) (λ_=>noF):=by
 refine a0j true Tryz.func60 fun ρ w=>V.q<|V.c [] (Z7 x.op) (λ_ _=>?_);have GA:=Pb x A;obtain ⟨f1,f2⟩:=gx (f:=Fm.cells) (d:=fm0) (e:=93) (sz:=4) GA.f;obtain ⟨l1,l2⟩:=gx (f:=C6) (d:=0) (e:=3) (sz:=1) GA.l;obtain ⟨y1,y2⟩:=gx (f:=Ty.cells) (d:=ty0) (e:=23) (sz:=5) GA.y;exact O3 [(0,false)] [e8 (C7 x A)] (e8 (C7 (yOf x) (bOf x A))) kq f1 f2 (l7 _)<|O3 [(2,false)] [e8 (C1 x A)] (e8 (C1 (yOf x) (bOf x A))) kq l1 l2 (l7 _)<|O3 [(4,false)] [e8 (E7 x A)] (e8 (E7 (yOf x) (bOf x A))) kq y1 y2 (l7 _)<|V.t (TW x A hx) [((rfN x.op).1==[])=false->([.agg (inV x A)]:List CV)=[.agg (inV x A)],((rfN x.op).1==[])=false->([.agg (inV (yOf x) (bOf x A)),.agg (inV x A)]:List CV)=[.agg (inV (yOf x) (bOf x A)),.agg (inV x A)]] ⟨λ_=>rfl,λ_=>rfl⟩<|s5 [1,4,91] [0] [] [false,false,false,true,true,true] (yi x A hx r hr ρ w) kq kq
theorem IQ (x:In) (A:IA) (hx:x.okM):CallsK a0a 21 [.agg (inV x A)] (stP (lsP x A)) (λ_:Unit=>True) (λ_=>ov (.int .i64 (bif j2 x then 0 else 170))) (λ_=>noF):=by
 have key:=Km x A hx _ rfl;cases h:j2 x with
 | true =>
  rw [h] at key;exact a0j true Tryz.func21 fun ρ w=>V.q<|V.c [(0,false),(1,false),(2,false)] key λ_ _=>V.q<|m0 7 (!true) false rfl<|V.q<|V.z
 | false =>
  rw [h] at key;exact a0j true Tryz.func21 fun ρ w=>V.q<|V.c [(0,false),(1,false),(2,false)] key λ_ _=>V.q<|m0 7 (!false) true rfl<|V.q<|V.z
end Go.Proofs
end
section
namespace Go.SX
open Go
section
variable {C:Ctx} {T TR:List Nat} {L:Nat} {c0:Cfg} {d:u7}
theorem VX.pushes {α:Type} (f:α->List SV) (dl:α) (l ys:List α) (r:Nat) (q:Option Addr) (cap:Nat) (e:TypeId) (sz:Nat) (m:Nat) (get:Nat->List SV) (bytes:Nat)
  (hA:(AQ C.P c0 d).map (λA=>(A.r,A.R,A.m,A.get,A.bytes))=some (r,d5 f dl l q cap e sz true,m,get,bytes)) (hm:m=ys.length) (hr:p5 TR r=true) (fT:look c0.st.rows r=some (d5 f dl l q cap e sz true)) (hb:(l.length+m)*bytes<=140737488355328) (hx:∀ i,i<m->f (ys.getD i dl)=get i)
  (I9:∀ q cap,(va c0 d r (d5 f dl (l++ys) q cap e sz true)).isSome=true)
  (k:∀ q cap,VX C T TR L c0 (qY c0 d r (d5 f dl (l++ys) q cap e sz true))):VX C T TR L c0 d:=by
 intro D hD a1 a2 a3 a4 a5 a6 hL D4 aT aTR e9 A9;cases da:AQ C.P c0 d with
 | none=>rw [da] at hA; cases hA
 | some A =>
  rw [da] at hA;simp only [a2u,a0l,a1f] at hA;obtain ⟨e1,e2,e3,e4,e5⟩:=hA;have n8:(l++ys).length=l.length+m:=by simp [hm]
  have W3:∀ q cap,A.R.next q A.m cap (λi=>f ((l++ys).getD i dl))=d5 f dl (l++ys) q cap e sz true:=by
   intro q cap;rw [e2,e3];simp only [Row.next,d5,n8]
  have hn:A.R.n+A.m=(l++ys).length:=by rw [e2,e3,n8]; rfl
  unfold AQ at da;split at da
  case h_2=>cases da
  rename_i i o U2;split at da
  case h_2=>cases da
  rename_i cl hg U4;obtain ⟨C3,⟨n,hf⟩,ho⟩:=dC U2;have tail:∀ q cap,∃ s',(d.st.rowTo r (d5 f dl (l++ys) q cap e sz true)).put o.dst (.v (.one (.row d.st.nr q (l++ys).length cap)))=some s' /\
    qY c0 d r (d5 f dl (l++ys) q cap e sz true)=⟨n,d.listed.setIfInBounds i true,s'⟩:=by
   intro q cap;have h1:=I9 q cap;unfold qY;unfold va at h1 ⊢;rw [U2] at h1 ⊢;simp only at h1 ⊢;split at h1
   ·rename_i s' N6;refine ⟨s',N6,?_⟩;simp only [a1e,hf,a3x]
   ·cases h1
  refine VD.append i A (λi=>f ((l++ys).getD i dl)) C3 hf ho hg U4 da (by rw [hn,e5,n8]; exact hb) ?_ ?_ (λk hk=>aTR r ((w9 _ _).1 hr) _ fT k (by rw [e2] at hk; exact hk)) (λq cap=>?_) (λq cap s' N6=>?_)
  ·intro i hi;rw [e2] at hi ⊢;have ao:i<l.length:=hi;show f ((l++ys).getD i dl)=f (l.getD i dl);rw [aG _ _ _ _ ao]
  ·intro i hi;rw [e3] at hi;rw [e4,<- hx i hi,e2];show f ((l++ys).getD (l.length+i) dl)=f (ys.getD i dl);rw [bb]
  ·obtain ⟨s',N6,_⟩:=tail q cap;rw [e1,W3,hn,N6]; rfl
  ·obtain ⟨s2,rU,Vt⟩:=tail q cap;rw [e1,W3,hn,rU] at N6;cases N6;have hW:=N8 rU;have J7:D.rows (d.st.rowTo r (d5 f dl (l++ys) q cap e sz true)):=by
    refine ⟨λq' Q hQ=>?_,A9.2.trans' (eY _ r _)⟩;have h1:=A9.1 q' Q hQ;rw [a3] at hQ;obtain ⟨E0,hw⟩:=y5 hQ;have uj:q'<d.st.nr:=a1b (e9 q' Q hw) (by rw [<- a5]; exact A9.2.nr);show look ((d.st.nr,_)::Q6 r d.st.rows) q'=some Q;simp only [look];have B8:a1m d.st.nr q'=false:=by
     cases hb:a1m d.st.nr q' with
     | true=>have:=(d6 _ _).1 hb; omega
     | false=>rfl
    rw [B8];simp only;rw [O4 (λe=>E0 (by rw [e]; exact (w9 _ _).1 hr))];exact h1
   have gV:D.rows s':=⟨λr R hR=>by rw [show s'.rows=_ from congrArg WF.rows hW]; exact J7.1 r R hR,by rw [hW]; exact J7.2⟩;have:=k q cap;rw [Vt] at this;exact this D hD a1 a2 a3 a4 a5 a6 hL D4 aT aTR e9 gV
end
end Go.SX
end
section
namespace Go.SX
open Go
section
variable {C:Ctx} {ρ:Nat->Nat} {s:St} {a:Act} {w w':World}
theorem IR {R:Row} (n8:∀ i,i<R.n->(R.get i).length=R.size/\∀ x∈R.get i,x.plain) {q:Option Addr} {m cap:Nat} {news:List Value}
  (R4:w'.ownsRow 0 R.elem R.size (.slice q (R.n+m) cap) (R.n+m) (R.flat++news)) (get:Nat->List SV) (h1:∀ i,i<R.n->get i=R.get i)
  (h2:(a2f m).flatMap (λi=>(get (R.n+i)).map a3n)=news) (h3:∀ i,i<m->(get (R.n+i)).length=R.size/\∀ x∈get (R.n+i),x.plain) :
  (R.next q m cap get).ok w':=by
 have fP:(R.next q m cap get).flat=R.flat++news:=by
  simp only [Row.flat,Row.next];rw [List.range_add,List.flatMap_append,<- h2];congr 1
  ·have:∀ (l:List Nat),(∀ i∈l,i<R.n)->l.flatMap (λi=>(get i).map a3n)=l.flatMap (λi=>(R.get i).map a3n):=by
    intro l
    induction l with
    | nil=>intro _; rfl
    | cons c l ih=>intro hl; simp only [a2z]; rw [h1 c (hl c (a0f ..)),ih (λi hi=>hl i (a0e _ hi))]
   exact this _ (λi hi=>a3f.1 hi)
  ·rw [List.flatMap_map]
 have wI:∀ i,i<R.n+m->(get i).length=R.size/\∀ x∈get i,x.plain:=by
  intro i hi;by_cases iU:i<R.n
  ·rw [h1 i iU]; exact n8 i iU
  ·have:=h3 (i - R.n) (by omega)
   rwa [show R.n+(i - R.n)=i by omega] at this
 refine ⟨wI,λkl=>?_,λ_ _=>(by rw [fP]; exact R4),λo ho=>(by cases ho)⟩;have wF:0<R.n+m:=kl;rcases R4.2 with ⟨hv,hz⟩ | ⟨g,cap0,cur,hv,_⟩
 ·omega
 ·injection hv with e1 e2 e3;refine ⟨g,0,e1,λi j x hi hx=>?_⟩;have W1:=World.ownsRow.cells (w:=w') R4 (g:=g) (by rw [e1]; rfl);have hf:=nP (λi=>(get i).map a3n) R.size (R.n+m) (λi hi=>by rw [a1k]; exact (wI i hi).1) i j x.den0 hi (by
   have qa:(get i)[j]?=some x:=hx;simp [qa])
  have KF:(R.flat++news)[i*R.size+j]?=some x.den0:=by rw [<- fP]; exact hf
  have:=W1 _ _ KF;rw [y4] at this;exact this
theorem Sat.reRow (h:Sat C ρ s a w) {r:Nat} {R:Row} (hR:look s.rows r=some R) (ho:R.own=true) (N:Row) (yF:N.ok w')
  (hg:Chg (λk=>R.uses k) w w') (ki:∀ k,N.uses k->R.uses k∨k=w.heap.size/\k<w'.heap.size):Sat C ρ (s.rowTo r N) a w':=by
 obtain ⟨Ch,x7,U3⟩:=h.rows r R hR;have B0:=eY s r N;refine ⟨h.n,λi v hv=>⟨(h.slots i v hv).1,RV.wf_mono B0 v (h.slots i v hv).2⟩,h.grds,?_,h.inj,λb hb=>a1b (h.lt b hb) hg.size,h.defers,?_,?_,?_,?_,h.fix⟩
 ·intro b blk hb;obtain ⟨k1,k2,k3,k4⟩:=h.heap b blk hb;refine ⟨k1,?_,λx hx=>SV.wf_mono B0 x (k3 x hx),k4⟩;rw [hg.block _ (h.lt b k1) (λhu=>(U3 _ hu).2.1 b k1 rfl)];exact k2
 ·refine ⟨hg.os.trans h.chg.os,hg.tape.trans h.chg.tape,hg.output.trans h.chg.output,a0n h.chg.size hg.size,λk hk hS=>?_⟩;rw [hg.block k (a1b hk h.chg.size) (λhu=>?_)]
  ·exact h.chg.block k hk hS
  ·rcases (U3 k hu).2.2 ho with e | e
   ·omega
   ·exact hS e
 ·intro r' R' G8;simp only [St.rowTo,look] at G8;split at G8
  ·rename_i e;cases G8;have:=(d6 _ _).1 e;refine ⟨by show r'<s.nr+1; omega,yF,λk hk=>?_⟩;rcases ki k hk with hu | ⟨rfl,e9⟩
   ·obtain ⟨u1,u2,u3⟩:=U3 k hu;exact ⟨a1b u1 hg.size,u2,λ_=>u3 ho⟩
   ·exact ⟨e9,λb hb=>by have:=h.lt b hb; omega,λ_=>.inl h.chg.size⟩
  ·obtain ⟨E0,hl⟩:=j4 G8;obtain ⟨k0,k1,k2⟩:=h.rows r' R' hl;refine ⟨by show r'<s.nr+1; omega,k1.congr (λk hk=>hg.block k (k2 k hk).1 (λhu=>h.rowsD r r' R R' hR hl (λe=>E0 e.symm) ho k hu hk)),λk hk=>?_⟩;obtain ⟨u1,u2,u3⟩:=k2 k hk;exact ⟨a1b u1 hg.size,u2,u3⟩
 ·intro r1 r2 R1 R2 JA ul E0 NM k eP eu;simp only [St.rowTo,look] at JA ul;split at JA
  ·rename_i e1;cases JA;split at ul
   ·rename_i e2; have:=(d6 _ _).1 e1; have:=(d6 _ _).1 e2; omega
   ·obtain ⟨GG,de⟩:=j4 ul;rcases ki k eP with hu | ⟨rfl,_⟩
    ·exact h.rowsD r r2 R R2 hR de (λe=>GG e.symm) ho k hu eu
    ·have:=((h.rows r2 R2 de).2.2 _ eu).1; omega
  ·obtain ⟨Nu,nt⟩:=j4 JA;split at ul
   ·cases ul;rcases ki k eu with hu | ⟨rfl,_⟩
    ·exact h.rowsD r1 r R1 R nt hR Nu NM k eP hu
    ·have:=((h.rows r1 R1 nt).2.2 _ eP).1; omega
   ·obtain ⟨GG,de⟩:=j4 ul;exact h.rowsD r1 r2 R1 R2 nt de E0 NM k eP eu
 ·intro p hp;obtain ⟨p1,p2,p3⟩:=h.pers p hp;have hk:∀ k,p.D k->w'.heap[k]?=w.heap[k]?:=λk hD=>hg.block k (p3 k hD).1 ((p3 k hD).2.2 r R hR ho);refine ⟨p2 _ hk,λw2 bY=>p2 w2 (λk hD=>(bY k hD).trans (hk k hD)),λk hD=>?_⟩;obtain ⟨u1,u2,u3⟩:=p3 k hD;refine ⟨a1b u1 hg.size,u2,λr' R' G8 ky kz=>?_⟩;simp only [St.rowTo,look] at G8;split at G8
  ·cases G8;rcases ki k kz with hu | ⟨rfl,_⟩
   ·exact u3 r R hR ho hu
   ·omega
  ·exact u3 r' R' (j4 G8).2 ky kz
def Kn (P:Program) (c:Cfg):Option Value :=
 match V1 c with
 | some (.convert src dst x)=>match a1m src dst,P.underlying src,ev c.st none x with
  | true,some (.slice e),some (.one (.val v))=>match P.underlying e with
   | some (.int .u8)=>some v
   | _=>none
  | _,_,_=>none
 | _=>none
def Row.ro (R:Row):Row:=⟨R.s,R.n,R.cap,R.elem,R.size,R.get,false,none⟩
theorem IS {P:Program} {t e:TypeId} (ht:P.underlying t=some (.slice e)) (he:P.underlying e=some (.int .u8)) {g:Nat} {cur:Array Value} {el:TypeId} (hg:w.heap[g]?=some (.cells cur el (0,0))) (n cap:Nat) :
  (convert t t (.slice (some ⟨g,0,none⟩) n cap)).run P w=.ok (.slice (some ⟨g,0,none⟩) n cap) (w.freeze ⟨g,cur.size,none⟩ 1):=by
 have eF:w.shape? g=some (el,cur.size):=by
  unfold World.shape?;rw [hg]
 simp [convert,run_underlying ht,run_underlying he,markStringish,eF]
theorem BQ {g k:Nat} {cur:Array Value} {el:TypeId} (hg:w.heap[g]?=some (.cells cur el (0,0))) :
  (w.freeze ⟨g,k,none⟩ 1).heap[g]?=some (.cells cur el (k,k+1))/\Chg (λj=>j=g) w (w.freeze ⟨g,k,none⟩ 1):=by
 unfold World.freeze;rw [if_neg (by decide)];refine ⟨?_,rfl,rfl,rfl,by simp,λj _ hj=>?_⟩
 ·simp [a4x,hg]
 ·simp [a4x,Ne.symm hj]
theorem Ko (r:Nat) (R:Row) {c:Cfg} (hc:Kn C.P c=some (.slice R.s R.n R.cap)) (hR:look c.st.rows r=some R) (hr:(R.own&&R.obj.isNone&&a4t 0 R.n)=true)
  (I9:(j5 c (c.st.rowTo r R.ro) (.v (.one (.row c.st.nr R.s R.n R.cap)))).isSome=true)
  (k:V C (u0 c (c.st.rowTo r R.ro) (.v (.one (.row c.st.nr R.s R.n R.cap))))):V C c:=by
 unfold Kn at hc;split at hc
 case h_2=>cases hc
 rename_i src dst x f7;split at hc
 case h_2=>cases hc
 rename_i e v WV hs hx;split at hc
 case h_2=>cases hc
 rename_i he;injection hc with hc;subst hc;rw [a0g,a0g] at hr;obtain ⟨⟨R4,JC⟩,hn⟩:=hr;rw [Option.isNone_iff_eq_none] at JC;have UY:=(d6 _ _).1 WV;subst UY;refine lV f7 (fun ρ a w o ho hS=>?_);obtain ⟨e1,e2⟩:=d7 hS.toP (j9 c.st) hx;obtain ⟨_,x7,_⟩:=hS.rows r R hR;have kl:0<R.n:=by rw [Nat.blt_eq] at hn; exact hn
 have WD:=x7.own R4 JC;rcases WD.2 with ⟨_,hz⟩ | ⟨g,cap,cur,hv,_,hg,_⟩
 ·omega
 injection hv with h1 h2 h3;have F1:=IS (w:=w) hs he hg R.n R.cap;obtain ⟨QE,N5⟩:=BQ (k:=cur.size) hg;have U3:R.uses g:=⟨_,h1,rfl,.inl R4⟩;have yF:R.ro.ok (w.freeze ⟨g,cur.size,none⟩ 1):=by
  refine ⟨x7.len,λ_=>?_,λh=>(by cases h),λo h=>(by cases h)⟩;obtain ⟨b,off,q1,q2⟩:=x7.addr kl;refine ⟨b,off,q1,λi j x hi hx=>?_⟩;have:=q2 i j x hi hx;have hb:b=g:=by rw [h1] at q1; injection q1 with q1; injection q1 with q1; exact q1.symm
  subst hb;simp only [World.cell?,hg,QE] at this ⊢;exact this
 refine ⟨ρ,.v (.one (.row c.st.nr R.s R.n R.cap)),_,c.st.rowTo r R.ro,?_,hS.reRow hR R4 R.ro yF (N5.mono λj hj=>hj▸U3) (λk hk=>.inl ?_),?_,by simp,_,x4 I9,k⟩
 ·unfold execOp;rw [ho];refine H1 ?_;rw [e1,show a2a ρ (.one (.val (.slice R.s R.n R.cap)))=.slice R.s R.n R.cap from rfl,show RV.den ρ (.v (.one (.row c.st.nr R.s R.n R.cap)))=.slice R.s R.n R.cap from rfl,h1];exact F1
 ·obtain ⟨ad,q1,q2,_⟩:=hk;exact ⟨ad,q1,q2,.inl R4⟩
 ·refine ⟨a3p _,λR' G8=>?_⟩;simp only [St.rowTo,St.W,look,a4h] at G8;cases G8;exact ⟨rfl,rfl,rfl⟩
theorem BR (z:Value) (size e:Nat) (GM:z.cells.size=size) (n m old:Nat) (xs news:List Value) (n8:(xs++news).length=(n+m)*size) (ho:old<n+m) (Gu:n+m<=maxLen) :
  (w.drew.alloc (.cells (xs.toArray++news.toArray++Builtin.zeroCells z.cells (grownCap w (n+m) old e - (n+m))) e)).ownsRow 0 e size
   (.slice (some ⟨w.heap.size,0,none⟩) (n+m) (grownCap w (n+m) old e)) (n+m) (xs++news) /\
  Chg (λ_=>False) w (w.drew.alloc (.cells (xs.toArray++news.toArray++Builtin.zeroCells z.cells (grownCap w (n+m) old e - (n+m))) e)):=by
 have bA:=grownCap_ge w (n+m) old e;have GR:grownCap w (n+m) old e<=maxLen:=grownCap_le_maxLen w (n+m) old e Gu;refine ⟨⟨n8,.inr ⟨w.heap.size,_,_,rfl,a0s _,heap_alloc_new w.drew _,bA,GR,?_,?_⟩⟩,⟨rfl,rfl,rfl,by simp,λk hk _=>Go.RowKit.Below.heap_alloc w.drew _ k hk⟩⟩
 ·simp only [Array.size_append,List.size_toArray,size_zeroCells,GM];rw [<- a0c,n8,<- a6l];congr 1; omega
 ·simp only [Array.toList_append,a1g];rw [<- a1g,<- n8];exact List.take_left
def MG (P:Program) (s:St) (cl:Call):Option App :=
 match cl.callee with
 | .builtin .append=>match cl.args.toList,cl.argTypes.toList with
  | [x,y],[t,u]=>match ev s none x,ev s none y with
   | some (.one (.row r _ _ _)),some src=>match look s.rows r,P.underlying t with
    | some R,some (.slice e)=>match a1m R.n R.cap&&a4t 0 R.n&&(R.s.map (λa=>a1m a.off 0)).getD false,a1m R.elem e,P.info? e with
     | true,true,some i=>match a1m i.size R.size,a4t 0 i.bytes,i.zero with
      | true,true,some z=>match a1m z.cells.size i.size,Hg P s u R.size src with
       | true,some (m,get)=>match a4t 0 m with
        | true=>some ⟨t,u,e,i.bytes,r,R,m,get⟩
        | false=>none
       | _,_=>none
      | _,_,_=>none
     | _,_,_=>none
    | _,_=>none
   | _,_=>none
  | _,_=>none
 | _=>none
theorem Fq (h:Sat C ρ s a w) {cl:Call} {ty:TypeId} {A:App} (hA:MG C.P s cl=some A) (hb:(A.R.n+A.m)*A.bytes<=140737488355328)
  (get:Nat->List SV) (h1:∀ i,i<A.R.n->get i=A.R.get i) (h2:∀ i,i<A.m->get (A.R.n+i)=A.get i) :
  ∃ q cap w',(do let d <- resolve a.eval cl ty; invoke d.target d.args:Sem Next).run C.P w=.ok (.value (.slice q (A.R.n+A.m) cap)) w' /\
   Sat C ρ (s.more [A.R.next q A.m cap get] []) a w'/\Chg (λ_=>False) w w':=by
 obtain ⟨callee,args,argTypes⟩:=cl;unfold MG at hA;simp only at hA;split at hA
 case h_2=>cases hA
 split at hA
 case h_2=>cases hA
 rename_i x y t u Z9 yB;have ha:args=#[x,y]:=by apply a3u; simpa using Z9
 have US:argTypes=#[t,u]:=by apply a3u; simpa using yB
 subst ha; subst US;split at hA
 case h_2=>cases hA
 rename_i r q0 n0 cap0 src hx hy;split at hA
 case h_2=>cases hA
 rename_i R e hR hu;split at hA
 case h_2=>cases hA
 rename_i i QH he hi;split at hA
 case h_2=>cases hA
 rename_i z C8 QL hz;split at hA
 case h_2=>cases hA
 rename_i m g GM NH;split at hA
 case h_2=>cases hA
 rename_i hm;cases hA;simp only at hb h1 h2 ⊢;obtain ⟨e1,e1w⟩:=d7 h.toP (j9 s) hx;obtain ⟨e2,e2w⟩:=d7 h.toP (j9 s) hy;obtain ⟨hS,Vz⟩:=nR h.toP e2w NH;have iV:=(d6 _ _).1 C8;have Nv:=(d6 _ _).1 GM;have Gw:=(d6 _ _).1 he;have Jz:0<i.bytes:=by rw [Nat.blt_eq] at QL; exact QL
 have fS:0<m:=by rw [Nat.blt_eq] at hm; exact hm
 rw [a0g,a0g] at QH;obtain ⟨⟨KM,Wb⟩,hf3⟩:=QH;have VC:=(d6 _ _).1 KM;have kl:0<R.n:=by rw [Nat.blt_eq] at Wb; exact Wb
 obtain ⟨_,iQ⟩:=e1w;obtain ⟨rfl,rfl,rfl⟩:=iQ R hR;have x7:=(h.rows r R hR).2.1;obtain ⟨b,off,q1,q2⟩:=x7.addr kl;have Wv:off=0:=by rw [q1] at hf3; exact (d6 _ _).1 hf3
 subst Wv;rw [<- iV] at hS;have n8:=x7.len;have lK:R.flat.length=R.n*R.size:=S9 (λi=>(R.get i).map a3n) R.size R.n (λi hi=>by rw [a1k]; exact (n8 i hi).1);have cu:∀ j v,R.flat[j]?=some v->w.cell? ((⟨b,0,none⟩:Addr).add j)=some v:=by
  intro j v hj;obtain ⟨i,m,x,h1,h2,rfl,h4,rfl⟩:=mJ R.n (λi hi=>(n8 i hi).1) j v hj;have:=q2 i m x h1 h4;rw [y4];exact this
 have hr:=uE (P:=C.P) (w:=w) t u ty e i z hu hi hz (src.den ρ) R.n m R.cap b R.flat _ hS (by omega) (by rw [lK,iV]) cu hb Jz;have wM:R.n+m<=140737488355328:=a0n (Nat.le_mul_of_pos_right _ Jz) hb;have UF:(R.flat++(a2f m).flatMap λj=>(g j).map a3n).length=(R.n+m)*i.size:=by rw [a0c,lK,hS.size,iV,<- a6l]
 obtain ⟨R4,N5⟩:=BR (w:=w) z i.size e Nv R.n m R.cap R.flat _ UF (by omega) (by simp only [maxLen]; omega);refine ⟨some ⟨w.heap.size,0,none⟩,grownCap w (R.n+m) R.cap e,_,?_,h.more N5 ?_,N5⟩
 ·simp only [resolve,Sem.run_bind,Sem.run_pure,Result.andThen_ok,invoke,builtin,List.map_toArray,List.map_cons,List.map_nil,e1,e2];have:a2a ρ (.one (.row r R.s R.n R.cap))=.slice R.s R.n R.cap:=rfl;rw [this,q1,hr];rfl
 ·have hN:(R.next (some ⟨w.heap.size,0,none⟩) m (grownCap w (R.n+m) R.cap e) get).ok _:=IR n8 (news:=(a2f m).flatMap λi=>(g i).map a3n) (by rw [Gw,<- iV]; exact R4) get h1 (by
    have:∀ (l:List Nat),(∀ j∈l,j<m)->l.flatMap (λj=>(get (R.n+j)).map a3n)=l.flatMap (λj=>(g j).map a3n):=by
     intro l
     induction l with
     | nil=>intro _; rfl
     | cons c l ih=>intro hl; simp only [a2z]; rw [h2 c (hl c (a0f ..)),ih (λj hj=>hl j (a0e _ hj))]
    exact this _ (λj hj=>a3f.1 hj)) (λj hj=>by rw [h2 j hj]; exact Vz j hj)
  refine ⟨λr' R' eQ=>?_,λr1 r2 R1 R2 k1 k2 E0 ho=>?_,λp hp=>by cases hp⟩
  ·simp only [F3,look] at eQ;split at eQ
   ·cases eQ;refine ⟨hN,?_⟩;rintro k ⟨ad,N6,rfl,_⟩;cases N6;exact ⟨a0q _,by show w.heap.size<(w.heap.push _).size; simp⟩
   ·cases eQ
  ·simp only [F3,look] at k1 k2;split at k1
   ·rename_i e1;split at k2
    ·rename_i e2; have:=(d6 _ _).1 e1; have:=(d6 _ _).1 e2; omega
    ·cases k2
   ·cases k1
end
section
variable {C:Ctx} {T TR:List Nat} {L:Nat} {c0:Cfg} {d:u7}
def Fr (P:Program) (c0:Cfg) (d:u7):Option App :=
 match iB c0 d with
 | some (_,o)=>match L7 d.st (G1 c0) o.guard,fa o with
  | .yes,some cl=>MG P d.st cl
  | _,_=>none
 | none=>none
def yj (c0:Cfg) (d:u7) (R:Row):Option u7 :=
 match iB c0 d with
 | some (i,o)=>match (d.st.more [R] []).put o.dst (.v (.one (.row d.st.nr R.s R.n R.cap))) with
  | some s'=>some ⟨d.fuel - 1,d.listed.setIfInBounds i true,s'⟩
  | none=>none
 | none=>none
def Fs (c0:Cfg) (d:u7) (R:Row):u7:=(yj c0 d R).getD d
theorem Ft {α:Type} (f:α->List SV) (dl:α) (l ys:List α) (q:Option Addr) (cap:Nat) (e:TypeId) (sz:Nat) (own:Bool) (m:Nat) (get:Nat->List SV) (bytes:Nat)
  (hA:(Fr C.P c0 d).map (λA=>(A.R,A.m,A.get,A.bytes))=some (d5 f dl l q cap e sz own,m,get,bytes)) (hm:m=ys.length) (hb:(l.length+m)*bytes<=140737488355328) (hx:∀ i,i<m->f (ys.getD i dl)=get i)
  (I9:∀ q cap,(yj c0 d (d5 f dl (l++ys) q cap e sz true)).isSome=true)
  (k:∀ q cap,VX C T TR L c0 (Fs c0 d (d5 f dl (l++ys) q cap e sz true))):VX C T TR L c0 d:=by
 intro D hD a1 a2 a3 a4 a5 a6 hL D4 aT aTR e9 A9;cases da:Fr C.P c0 d with
 | none=>rw [da] at hA; cases hA
 | some A =>
  rw [da] at hA;simp only [a2u,a0l,a1f] at hA;obtain ⟨e2,e3,e4,e5⟩:=hA;have n8:(l++ys).length=l.length+m:=by simp [hm]
  have W3:∀ q cap,A.R.next q A.m cap (λi=>f ((l++ys).getD i dl))=d5 f dl (l++ys) q cap e sz true:=by
   intro q cap;rw [e2,e3];simp only [Row.next,d5,n8]
  have hn:A.R.n+A.m=(l++ys).length:=by rw [e2,e3,n8]; rfl
  unfold Fr at da;split at da
  case h_2=>cases da
  rename_i i o U2;split at da
  case h_2=>cases da
  rename_i cl hg U4;obtain ⟨C3,⟨n,hf⟩,ho⟩:=dC U2;intro ρ a w hS hρ ib hc Nj C8;have hi:i∈Region.ready .any (G1 c0) d.listed:=by rw [C3]; simp
  rw [hf];refine E2 C3 (by simp) (λj hj=>?_);have:j=i:=by simpa using hj
  subst this;have f7:o.op=.call cl:=by
   unfold fa at U4;split at U4
   ·rename_i e; cases U4; exact e
   ·cases U4
  obtain ⟨q,cap,w',F1,uh,N5⟩:=Fq (ty:=o.type) hS da (by rw [hn,e5,n8]; exact hb) (λi=>f ((l++ys).getD i dl)) (λi hi=>by
   rw [e2] at hi ⊢;have ao:i<l.length:=hi;show f ((l++ys).getD i dl)=f (l.getD i dl);rw [aG _ _ _ _ ao]) (λi hi=>by
   rw [e3] at hi;rw [e4,<- hx i hi,e2];show f ((l++ys).getD (l.length+i) dl)=f (ys.getD i dl);rw [bb])
  rw [W3] at uh;have h1:=I9 q cap;have h2:=k q cap;unfold Fs at h2;unfold yj at h1 h2;rw [U2] at h1 h2;simp only at h1 h2;split at h1
  case h_2=>cases h1
  rename_i s' N6;rw [N6] at h2;simp only [a1e,hf,a3x] at h2;have fR:Chg D.TS D.ws w':=hc.trans N5 (λk hk=>hk.elim);have iQ:(RV.v (.one (.row d.st.nr q (l++ys).length cap))).wf (d.st.more [d5 f dl (l++ys) q cap e sz true] []).W:=by
   refine ⟨a3p _,λR' G8=>?_⟩;have:look (d.st.more [d5 f dl (l++ys) q cap e sz true] []).W.rows d.st.nr=some (d5 f dl (l++ys) q cap e sz true):=by
    show look (s7 (F3 d.st.nr [d5 f dl (l++ys) q cap e sz true]) d.st.rows) d.st.nr=_;simp [F3,s7,look,a4h]
   rw [this] at G8;cases G8;exact ⟨rfl,rfl,rfl⟩
  have hW:=N8 N6;have J7:D.rows s':=by
   refine ⟨λq' Q hQ=>?_,by rw [hW]; exact A9.2.trans' (yO d.st _ _)⟩;have h3:=A9.1 q' Q hQ;rw [a3] at hQ;obtain ⟨_,hw⟩:=y5 hQ;have uj:q'<d.st.nr:=a1b (e9 q' Q hw) (by rw [<- a5]; exact A9.2.nr);rw [show s'.rows=_ from congrArg WF.rows hW];show look (s7 (F3 d.st.nr [d5 f dl (l++ys) q cap e sz true]) d.st.rows) q'=some Q;have B8:a1m d.st.nr q'=false:=by
    cases hb:a1m d.st.nr q' with
    | true=>have:=(d6 _ _).1 hb; omega
    | false=>rfl
   simp only [F3,s7,look,B8];exact h3
  unfold wpOp;simp only [ho,D5 hS hg,if_true];refine .inl ?_;unfold Oper.wp execOp;rw [f7];simp only;rw [F1,hn];refine ⟨λ_=>fR,h2 D hD a1 a2 a3 a4 a5 a6 hL D4 aT aTR e9 J7 ρ _ w' (uh.put N6 iQ (λg pol b x e=>by cases e)) hρ ?_ fR (Nj.set hi) (by simpa using C8)⟩;show D.n0<=s'.next;rw [J9 N6]; exact ib
end
end Go.SX
end
section
namespace Go.Proofs
open Go Go.SX
def BS:List UInt8:=[48,49,50,51,52,53,54,55,56,57,97,98,99,100,101,102]
theorem Fu:∀ i:Fin 16,BS.getD i.val 0=I7 i.val:=by decide +kernel
def dq (c:UInt8):Int:=IntKind.u8.wrap ((c.toNat:Int).tdiv 16)
def dr (c:UInt8):Int:=(c.toNat:Int).tmod 16
theorem Kp (c:UInt8):dq c=((c.toNat / 16:Nat):Int):=by
 have h:=c.toNat_lt;have e:(c.toNat:Int).tdiv 16=((c.toNat / 16:Nat):Int):=rfl;unfold dq;rw [e];simp [a1s,a1t,a1p];omega
theorem Kq (c:UInt8):dr c=((c.toNat % 16:Nat):Int):=rfl
def hxG (c:UInt8) (j:Nat):List SV:=(([.int .u8 ((BS.getD (dq c).toNat 0).toNat:Int),.int .u8 ((BS.getD (dr c).toNat 0).toNat:Int)]:List SV).drop (j*1)).take 1
theorem Fv (c:UInt8) (i:Nat) (hi:i<2):bsv (([I7 (c.toNat / 16),I7 (c.toNat % 16)]:List UInt8).getD i 0)=hxG c i:=by
 have h:=c.toNat_lt;have e1:BS.getD (dq c).toNat 0=I7 (c.toNat / 16):=by rw [Kp,a1h]; exact Fu ⟨c.toNat / 16,by omega⟩
 have e2:BS.getD (dr c).toNat 0=I7 (c.toNat % 16):=by rw [Kq,a1h]; exact Fu ⟨c.toNat % 16,by omega⟩
 unfold hxG;rw [e1,e2]
 match i,hi with
 | 0,_=>rfl
 | 1,_=>rfl
def hxO (s:List UInt8) (i:Nat):List Prop :=
 [(0:Int)<=i/\(i:Int)<s.length,(16:Int)≠0,0<=dq (s.getD i 0)/\dq (s.getD i 0)<16,(0:Int)<=i/\(i:Int)<s.length,(16:Int)≠0,0<=dr (s.getD i 0)/\dr (s.getD i 0)<16]
theorem Fw {s:List UInt8} {i:Nat} (h:i<s.length):B9 (hxO s i):=by
 have hc:=(s.getD i 0).toNat_lt;have h1:(0:Int)<=i/\(i:Int)<s.length:=⟨by omega,by omega⟩;have h2:(16:Int)≠0:=by decide
 refine ⟨h1,h2,?_,h1,h2,?_⟩
 ·rw [Kp]; omega
 ·have:=Kq (s.getD i 0);show (0:Int)<=dr (s.getD i 0)/\dr (s.getD i 0)<16;omega
def Ss (s:List UInt8) (j:HXI):St :=
 { n:=31,slots:=[(0,ov (.str s)),(2,ov (.str [])),(3,ov (.str BS)),(4,ov (.row 0 j.q j.l.length j.c)),(5,ov (.int .i64 j.i))],gs:=[],heap:=[],next:=0,
    rows:=[(0,d5 bsv 0 j.l j.q j.c 5 1 true)],nr:=1,pers:=[],wr:=true,fx:=0 }
theorem MH (s:List UInt8) (hs:s.length<=1000000000) (h0:0<s.length):CallsK a0a 125 [.one (.str s)] noF (λ_:Unit=>True) (λ_=>ov (.str (J2 s))) (λ_=>noF):=by
 refine a0j true Tryz.func125 fun ρ w=>V.q<|oE bsv 0 [61] 5 1 0 kq (λ_=>rfl) (λx y hy=>by simp only [bsv,a0d] at hy; subst hy; trivial) (by show 1<=maxLen; decide) (λg=>kq) λg=>Ko 0 (d5 bsv 0 [61] (some ⟨g,0,none⟩) 1 5 1 true) kq kq kq kq<|V.q<|a1l<|V.q<|m0 11 (decide ((0:Int)<s.length)) true (decide_eq_true (by omega))<|V.q<|p9 [] [] 15 kq<|@a1z _ [] [] 15 _ _ ([]:List (Ent a0a)) (hxO s 0) kq kq (Fw h0)<|@Ft _ [] [] 15 _ _ _ bsv 0 [61] [I7 ((s.getD 0 0).toNat / 16),I7 ((s.getD 0 0).toNat % 16)] (some ⟨g,0,none⟩) 1 5 1 false 2 (hxG (s.getD 0 0)) 1 kq rfl (by show 3*1<=140737488355328; omega) (Fv (s.getD 0 0)) (λ_ _=>kq) λq cap=>@a1z _ [] [] 15 _ _ ([]:List (Ent a0a)) [] kq kq trivial<|@o7 _ [] [] 15 _ _ kq<|V.q<|j6 [0,2,3,4,5] [] (λj:HXI=>s.length - j.i) (Ss s) (λj=>j.i<=s.length/\j.l=61::gQ (s.take j.i)) ⟨[61]++[I7 ((s.getD 0 0).toNat / 16),I7 ((s.getD 0 0).toNat % 16)],q,cap,1⟩ kq ⟨h0,by rw [lb h0]; rfl⟩ (λj hj ih=>?_);obtain ⟨l,q,c,i⟩:=j;obtain ⟨hi,hl⟩:=hj;simp only at hi hl;have n8:l.length=2*i+1:=by rw [hl,a0p,fv,a2b,Nat.min_eq_left hi]
 refine a1l<|V.q<|f9 11 (decide ((i:Int)<s.length)) (λhb=>?_) (λhb=>?_)
 ·have e9:i<s.length:=by simpa using hb
  refine V.q<|p9 [] [0] 15 kq<|@a1z _ [] [0] 15 _ _ ([]:List (Ent a0a)) (hxO s i) kq kq (Fw e9)<|@VX.pushes _ [] [0] 15 _ _ _ bsv 0 l [I7 ((s.getD i 0).toNat / 16),I7 ((s.getD i 0).toNat % 16)] 0 q c 5 1 2 (hxG (s.getD i 0)) 1 kq rfl kq kq (by rw [n8]; omega) (Fv (s.getD i 0)) (λ_ _=>kq) λq' c'=>@a1z _ [] [0] 15 _ _ ([]:List (Ent a0a)) [] kq kq trivial<|@o7 _ [] [0] 15 _ _ kq<|V.q<|V.s 5 (.one (.int .i64 (a0h.wrap ((i:Int)+1)))) (.one (.int .i64 ((i+1:Nat):Int))) (λ_=>by rw [mU (by omega)])<|d9 [0,2,3,4,5] [] (ih ⟨l++[I7 ((s.getD i 0).toNat / 16),I7 ((s.getD i 0).toNat % 16)],q',c',i+1⟩ ⟨e9,?_⟩ (by simp only; omega)) kq kq;simp only;rw [hl,lb e9];rfl
 ·have B0:i=s.length:=by
   have:¬ i<s.length:=by simpa using hb
   omega
  rw [B0,a1o] at hl;refine V.q<|fX l 0 q c 5 true kq kq<|V.q ?_;subst hl;exact V.z
theorem MJ:CallsK a0a 125 [.one (.str [])] noF (λ_:Unit=>True) (λ_=>ov (.str (J2 []))) (λ_=>noF):=by
 exact a0j true Tryz.func125 fun ρ w=>V.q<|oE bsv 0 [61] 5 1 0 kq (λ_=>rfl) (λx y hy=>by simp only [bsv,a0d] at hy; subst hy; trivial) (by show 1<=maxLen; decide) (λg=>kq) λg=>Ko 0 (d5 bsv 0 [61] (some ⟨g,0,none⟩) 1 5 1 true) kq kq kq kq<|V.q<|a1l<|V.q<|m0 11 false false rfl<|V.q<|fX [61] 1 (some ⟨g,0,none⟩) 1 5 false kq kq<|V.q<|V.z
theorem Pf (s:List UInt8) (hs:s.length<=1000000000):CallsK a0a 125 [.one (.str s)] noF (λ_:Unit=>True) (λ_=>ov (.str (J2 s))) (λ_=>noF):=by
 by_cases h:0<s.length
 ·exact MH s hs h
 ·have:s=[]:=List.eq_nil_of_length_eq_zero (by omega);subst this;exact MJ
def Kr:Con a0a:=ix 125 [] (λs=>(.v (.one (.str (J2 s))),[s.length<=1000000000])) (λs ρ w q8 hp =>
 CallsK.gives (Pf s (q8 _ (a0d.2 rfl))) ⟨rfl,rfl,rfl⟩ (λ_ _=>rfl) ρ w hp)
def Fx:Con a0a:=r6 Tryz.func126 true [] [] kq kq
def T6R:List (Ent a0a):=[⟨ai,[0]⟩,Fx.e,⟨Kr,[]⟩]
def Fy:Con a0a:=r6 Tryz.func124 true T6R [j7] kq kq
def Fz:Con a0a:=r6 Tryz.func127 true T6R [j7] kq kq
def Pg:Con a0a:=r6 Tryz.func122 true [⟨ai,[0]⟩] [j7] kq kq
def wn:Con a0a:=Pg.as (λxs=>match xs with
  | [.one (.int .i64 n)]=>some (.v (.one (.str (rgT n))),[inK .i64 n])
  | _=>none) (by
 intro xs v ob h q8;split at h
 ·rename_i n;simp only [a0l,a1f] at h;obtain ⟨rfl,rfl⟩:=h;have hs:=q8 _ (a0d.2 rfl);refine ⟨.v (.one (.str (rgT n))),[decide (n<0)=false->inK a0h n,decide (n<0)=false->1+(a0i n).length<=9223372036854775807],kq,?_,λ_=>rfl⟩;intro p hp;rcases a0k.1 hp with rfl | hp
  ·exact λ_=>hs
  ·rw [a0d.1 hp];intro _;have:=a2e n hs.1 hs.2;omega
 ·cases h)
def fO:Con a0a:=Fy.as (λxs=>match xs with
  | [.agg [.int .i64 k,.int .i64 p,.int .i64 q,.sb v,.str s]]=>some (.v (.one (.str (y9 ⟨k,p,q,v,s⟩))),[inK .i64 k/\inK .i64 p/\inK .i64 q/\s.length<=1000000000])
  | _=>none) (by
 intro xs v ob h q8;split at h
 ·rename_i k p q v s;simp only [a0l,a1f] at h;obtain ⟨rfl,rfl⟩:=h;obtain ⟨hk,hp,hq,hs⟩:=q8 _ (a0d.2 rfl);have h1:=a2e k hk.1 hk.2;have h2:=a2e p hp.1 hp.2;have h3:=a2e q hq.1 hq.2;have h4:(ab v).length=1:=by cases v<;>rfl
  have h5:=mh s;refine ⟨.v (.one (.str (y9 ⟨k,p,q,v,s⟩))),[inK .i64 k,
     ((a0i k:List UInt8).length+1:Nat)<=9223372036854775807,
     inK .i64 p,
     ((a0i k++[44]:List UInt8).length+(a0i p).length:Nat)<=9223372036854775807,
     ((a0i k++[44]++a0i p:List UInt8).length+1:Nat)<=9223372036854775807,
     inK .i64 q,
     ((a0i k++[44]++a0i p++[44]:List UInt8).length+(a0i q).length:Nat)<=9223372036854775807,
     ((a0i k++[44]++a0i p++[44]++a0i q:List UInt8).length+1:Nat)<=9223372036854775807,
     ((a0i k++[44]++a0i p++[44]++a0i q++[44]:List UInt8).length+(ab v).length:Nat)<=9223372036854775807,
     ((a0i k++[44]++a0i p++[44]++a0i q++[44]++ab v:List UInt8).length+1:Nat)<=9223372036854775807,
     s.length<=1000000000,
     ((a0i k++[44]++a0i p++[44]++a0i q++[44]++ab v++[44]:List UInt8).length+(J2 s).length:Nat)<=9223372036854775807],kq,?_,λ_=>rfl⟩
  intro r hr;simp only [a0k,a1a,or_false] at hr;rcases hr with rfl|rfl|rfl|rfl|rfl|rfl|rfl|rfl|rfl|rfl|rfl|rfl
  all_goals first
   | exact hk
   | exact hp
   | exact hq
   | exact hs
   | omega
   | (simp only [a0c,a0p,a1r,h4]<;>omega)
 ·cases h)
def wo:Con a0a:=Fz.as (λxs=>match xs with
  | [.agg [.int .i64 k,.int .i64 p,.int .i64 q,.str s]]=>some (.v (.one (.str (E9 ⟨k,p,q,s⟩))),[inK .i64 k/\inK .i64 p/\inK .i64 q/\s.length<=1000000000])
  | _=>none) (by
 intro xs v ob h q8;split at h
 ·rename_i k p q s;simp only [a0l,a1f] at h;obtain ⟨rfl,rfl⟩:=h;obtain ⟨hk,hp,hq,hs⟩:=q8 _ (a0d.2 rfl);have h1:=a2e k hk.1 hk.2;have h2:=a2e p hp.1 hp.2;have h3:=a2e q hq.1 hq.2;have h5:=mh s;refine ⟨.v (.one (.str (E9 ⟨k,p,q,s⟩))),[inK .i64 k,
     ((a0i k:List UInt8).length+1:Nat)<=9223372036854775807,
     inK .i64 p,
     ((a0i k++[44]:List UInt8).length+(a0i p).length:Nat)<=9223372036854775807,
     ((a0i k++[44]++a0i p:List UInt8).length+1:Nat)<=9223372036854775807,
     inK .i64 q,
     ((a0i k++[44]++a0i p++[44]:List UInt8).length+(a0i q).length:Nat)<=9223372036854775807,
     ((a0i k++[44]++a0i p++[44]++a0i q:List UInt8).length+1:Nat)<=9223372036854775807,
     s.length<=1000000000,
     ((a0i k++[44]++a0i p++[44]++a0i q++[44]:List UInt8).length+(J2 s).length:Nat)<=9223372036854775807],kq,?_,λ_=>rfl⟩
  intro r hr;simp only [a0k,a1a,or_false] at hr;rcases hr with rfl|rfl|rfl|rfl|rfl|rfl|rfl|rfl|rfl|rfl
  all_goals first
   | exact hk
   | exact hp
   | exact hq
   | exact hs
   | omega
   | (simp only [a0c,a0p,a1r]<;>omega)
 ·cases h)
def FA (n:Int) (h1:-4611686018427387904<n) (h2:n<4611686018427387904):Con a0a:=R7 56 [] [.one (.int .i64 n)] (.v (.one (.str (q9 9 (zz n))))) (fun ρ w _=>sH n w h1 h2)
def rvO:Option (Int×Nat)->RV
 | some p=>.tup [.one (.int .i64 p.1),.one (.int .i64 (p.2:Int)),.one (.int .i64 0)]
 | none=>.tup [.one (.int .i64 0),.one (.int .i64 0),.one (.int .i64 220)]
structure RrI where
 z:Nat
 i:Nat
def Su (b:List UInt8) (a:Nat) (j:RrI):St :=
 { n:=75,slots:=[(0,ov (.str b)),(1,ov (.int .i64 (a:Int))),(7,ov (.int .u64 (j.z:Int))),(8,ov (.int .i64 (j.i:Int)))],gs:=[],heap:=[],next:=0,rows:=[],nr:=0,pers:=[],wr:=false,fx:=0 }
theorem FB {Z:Nat} (h:Z<34359738368):-4611686018427387904<A6 Z/\A6 Z<4611686018427387904:=by
 unfold A6;split<;>omega
theorem tW (b:List UInt8) (n:Int) (hb:b.length<=1000000000) (r:RV) (hr:r=rnF b n):CallsK a0a 19 [.one (.str b),.one (.int .i64 n)] noF (λ_:Unit=>True) (λ_=>r) (λ_=>noF):=by
 refine a0j false Tryz.func19 fun ρ w=>V.q ?_;by_cases hB:rnB b n=true
 ·refine m0 18 (rnB b n) true hB<|V.q ?_;have hz:r=.tup [.one (.int .i64 0),.one (.int .i64 0),.one (.int .i64 1)]:=hr.trans (by unfold rnF; rw [hB]; rfl);subst hz;exact V.z
 ·have hB:rnB b n=false:=by simpa using hB
  refine m0 18 (rnB b n) false hB ?_;obtain ⟨a,ha⟩:∃ a:Nat,n=(a:Int):=⟨n.toNat,by unfold rnB at hB; simp at hB; omega⟩;have Qm:a<=b.length:=by unfold rnB at hB; simp at hB; omega
  have Ch:r=rvO (rfL b a 5 0 0):=hr.trans (by unfold rnF; rw [hB,ha]; rfl);subst ha;clear hr;refine V.q<|a1l<|C0 [0,1,7,8] [] [] [] (λj:RrI=>5 - j.i) (Su b a) (λj=>j.i<=5/\j.z<128 ^ j.i/\r=rvO (rfL b a (5 - j.i) j.i j.z)) ⟨0,0⟩ kq ⟨by decide,by decide,Ch⟩ (λj hj ih=>?_);obtain ⟨z,i⟩:=j;obtain ⟨hi,hz,UN⟩:=hj;simp only at hi hz UN;refine V.t [] [decide ((i:Int)<5)=true->inK .i64 ((a:Int)+i)] (λ_=>by simp only [inK]; omega)<|f9 28 (decide ((i:Int)<5)&&decide ((a:Int)+i<(b.length:Int))) (λhc=>?_) (λhc=>?_)
  ·have mD:i<5/\a+i<b.length:=by simp only [a0g,decide_eq_true_eq] at hc; omega
   obtain ⟨c,uq⟩:∃ c,b.getD ((a:Int)+(i:Int)).toNat 0=c:=⟨_,rfl⟩;have NX:b.getD (a+i) 0=c:=by rw [<- uq,show ((a:Int)+(i:Int)).toNat=a+i by omega]
   have U4:=c.toNat_lt;obtain ⟨p,hp⟩:∃ p,128 ^ i=p:=⟨_,rfl⟩;have h2:(2:Int) ^ min (7*(i:Int)).toNat a0z.bits=(p:Int):=by
    rw [<- hp];rcases (show i=0∨i=1∨i=2∨i=3∨i=4 by omega) with rfl|rfl|rfl|rfl|rfl<;>rfl
   have M3:p<=268435456:=by
    rw [<- hp];rcases (show i=0∨i=1∨i=2∨i=3∨i=4 by omega) with rfl|rfl|rfl|rfl|rfl<;>decide
   have Xp:z<p:=by rw [<- hp]; exact hz
   obtain ⟨q,hq⟩:∃ q,c.toNat % 128*p=q:=⟨_,rfl⟩;have Xt:q<=127*p:=by rw [<- hq]; exact a6u p (by omega)
   have hw:a0z.wrap (a0z.wrap ((c.toNat:Int).tmod 128)*2 ^ min (7*(i:Int)).toNat a0z.bits)=(q:Int):=by
    have e1:a0z.wrap ((c.toNat:Int).tmod 128)=((c.toNat % 128:Nat):Int):=by
     have:(c.toNat:Int).tmod 128=((c.toNat % 128:Nat):Int):=rfl;rw [this]; simp [a1s,a1t,a1p]; omega
    rw [e1,h2,<- Int.natCast_mul,hq];simp [a1s,a1t,a1p];omega
   refine V.runT [] [inK .i64 ((a:Int)+i),(0:Int)<=(a:Int)+i/\(a:Int)+i<(b.length:Int),(128:Int)≠0,inK .i64 (7*(i:Int)),(0:Int)<=7*(i:Int),
        inK .u64 ((z:Int)+a0z.wrap (a0z.wrap (((b.getD ((a:Int)+(i:Int)).toNat 0).toNat:Int).tmod 128)*2 ^ min (7*(i:Int)).toNat a0z.bits))] kq kq
    ⟨by simp only [inK]; omega,⟨by omega,by omega⟩,by decide,by simp only [inK]; omega,by omega,(by
     show inK _ _;rw [uq,hw];simp only [inK];omega)⟩ ?_
   refine V.s 7 (.one (.int .u64 ((z:Int)+a0z.wrap (a0z.wrap (((b.getD ((a:Int)+(i:Int)).toNat 0).toNat:Int).tmod 128)*2 ^ min (7*(i:Int)).toNat a0z.bits)))) (.one (.int .u64 ((z+q:Nat):Int))) (λ_=>by
    rw [uq,hw,Int.natCast_add]) ?_
   have kj:5 - i=(4 - i)+1:=by omega
   have Cg:r=rvO (if 128<=c.toNat then rfL b a (4 - i) (i+1) (z+q) else if U1 (A6 (z+q))=true/\q9 9 (zz (A6 (z+q)))=(b.drop a).take (i+1) then some (A6 (z+q),a+i+1) else none):=by
    rw [UN,kj,rfL,if_pos mD.2,NX,hp,hq]
   refine aY 45 (decide (((b.getD ((a:Int)+(i:Int)).toNat 0).toNat:Int)>=128)) kq (λB8=>?_) (λB8=>?_)
   ·have Nz:128<=c.toNat:=by rw [uq] at B8; simp only [decide_eq_true_eq] at B8; omega
    rw [if_pos Nz] at Cg;refine V.t [] [inK .i64 ((i:Int)+1)] (by simp only [B9,inK]; omega)<|V.s 8 (.one (.int .i64 ((i:Int)+1))) (.one (.int .i64 ((i+1:Nat):Int))) (λ_=>by rw [Int.natCast_add]; rfl)<|a1l<|s5 [0,1,7,8] [] [] [] (ih ⟨z+q,i+1⟩ ⟨by simp only; omega,?_,?_⟩ (by simp only; omega)) kq kq
    ·simp only [a6c,hp]; omega
    ·simp only [show 5 - (i+1)=4 - i by omega]; exact Cg
   ·have Nz:¬ 128<=c.toNat:=by rw [uq] at B8; simp only [decide_eq_false_iff_not] at B8; omega
    rw [if_neg Nz] at Cg;have Wc:z+q<34359738368:=by omega
    generalize z+q=Z at Cg Wc;have hd:(Z:Int).tdiv 2=((Z / 2:Nat):Int):=rfl;have hm:(Z:Int).tmod 2=((Z % 2:Nat):Int):=rfl;refine V.t [] [(2:Int)≠0,inK .u64 ((Z:Int).tdiv 2),(2:Int)≠0] ⟨by decide,by rw [hd]; simp only [inK]; omega,(by decide:(2:Int)≠0)⟩ ?_;have hL:=FB Wc;have Rs:List.drop ((a:Int)).toNat (List.take ((a:Int)+i+1).toNat b)=(b.drop a).take (i+1):=by
     rw [show ((a:Int)).toNat=a by omega,show ((a:Int)+i+1).toNat=a+i+1 by omega,List.drop_take,show a+i+1 - a=i+1 by omega]
    have Rt:a0h.wrap ((Z:Int).tdiv 2)=((Z / 2:Nat):Int):=by
     rw [hd]; simp [a1s,a1t,a1p]; omega
    refine V.s 10 (.one (.int .i64 (a0h.wrap ((Z:Int).tdiv 2)))) (.one (.int .i64 ((Z / 2:Nat):Int))) (λ_=>by rw [Rt])<|f9 51 ((Z:Int).tmod 2==1) (λho=>?_) (λho=>?_)
    ·have ky:Z % 2=1:=by rw [hm] at ho; simp only [beq_iff_eq] at ho; omega
     refine V.t [] [inK .i64 (0 - ((Z / 2:Nat):Int)),inK .i64 (0 - ((Z / 2:Nat):Int) - 1)] ⟨by simp only [inK]; omega,(by show inK _ _; simp only [inK]; omega)⟩<|V.s 10 (.one (.int .i64 (0 - ((Z / 2:Nat):Int) - 1))) (.one (.int .i64 (A6 Z))) (λ_=>by rw [show A6 Z=0 - ((Z / 2:Nat):Int) - 1 by unfold A6; rw [if_neg (by omega)]; omega])<|V.runT [⟨wm,[]⟩,⟨FA (A6 Z) hL.1 hL.2,[]⟩] [(!(U1 (A6 Z)))=false->inK .i64 ((a:Int)+i),(!(U1 (A6 Z)))=false->inK .i64 ((a:Int)+i+1),
            (!(U1 (A6 Z)))=false->(0:Int)<=(a:Int)/\(a:Int)<=(a:Int)+i+1/\(a:Int)+i+1<=(b.length:Int),(!(U1 (A6 Z)))=false->([.one (.int .i64 (A6 Z))]:List CV)=[.one (.int .i64 (A6 Z))]] kq kq
      ⟨λ_=>by simp only [inK]; omega,λ_=>by simp only [inK]; omega,λ_=>⟨by omega,by omega,by omega⟩,λ_=>rfl⟩ ?_
     refine f9 69 (!(U1 (A6 Z))||!(q9 9 (zz (A6 Z))==List.drop ((a:Int)).toNat (List.take ((a:Int)+i+1).toNat b))) (λhw=>?_) (λhw=>?_)
     ·refine V.q ?_;have Js:r=rvO none:=Cg.trans (by
       rw [if_neg];rintro ⟨k1,k2⟩;rw [k1,Rs,<- k2] at hw;simp at hw)
      subst Js;exact V.z
     ·refine V.t [] [inK .i64 ((a:Int)+i),inK .i64 ((a:Int)+i+1)] ⟨by simp only [inK]; omega,(by show inK _ _; simp only [inK]; omega)⟩ ?_;have Js:r=rvO (some (A6 Z,a+i+1)):=Cg.trans (by
       rw [Rs] at hw;simp only [a2r,a5x,beq_iff_eq] at hw;rw [if_pos hw])
      subst Js;exact V.s 5 (.one (.int .i64 ((a:Int)+i+1))) (.one (.int .i64 ((a+i+1:Nat):Int))) (λ_=>by rw [show ((a+i+1:Nat):Int)=(a:Int)+i+1 by omega])<|V.z
    ·have ky:Z % 2=0:=by rw [hm] at ho; simp only [beq_eq_false_iff_ne,ne_eq] at ho; omega
     refine V.q<|V.s 10 (.one (.int .i64 ((Z / 2:Nat):Int))) (.one (.int .i64 (A6 Z))) (λ_=>by rw [show A6 Z=((Z / 2:Nat):Int) by unfold A6; rw [if_pos ky]])<|V.runT [⟨wm,[]⟩,⟨FA (A6 Z) hL.1 hL.2,[]⟩] [(!(U1 (A6 Z)))=false->inK .i64 ((a:Int)+i),(!(U1 (A6 Z)))=false->inK .i64 ((a:Int)+i+1),
            (!(U1 (A6 Z)))=false->(0:Int)<=(a:Int)/\(a:Int)<=(a:Int)+i+1/\(a:Int)+i+1<=(b.length:Int),(!(U1 (A6 Z)))=false->([.one (.int .i64 (A6 Z))]:List CV)=[.one (.int .i64 (A6 Z))]] kq kq
      ⟨λ_=>by simp only [inK]; omega,λ_=>by simp only [inK]; omega,λ_=>⟨by omega,by omega,by omega⟩,λ_=>rfl⟩ ?_
     refine f9 69 (!(U1 (A6 Z))||!(q9 9 (zz (A6 Z))==List.drop ((a:Int)).toNat (List.take ((a:Int)+i+1).toNat b))) (λhw=>?_) (λhw=>?_)
     ·refine V.q ?_;have Js:r=rvO none:=Cg.trans (by
       rw [if_neg];rintro ⟨k1,k2⟩;rw [k1,Rs,<- k2] at hw;simp at hw)
      subst Js;exact V.z
     ·refine V.t [] [inK .i64 ((a:Int)+i),inK .i64 ((a:Int)+i+1)] ⟨by simp only [inK]; omega,(by show inK _ _; simp only [inK]; omega)⟩ ?_;have Js:r=rvO (some (A6 Z,a+i+1)):=Cg.trans (by
       rw [Rs] at hw;simp only [a2r,a5x,beq_iff_eq] at hw;rw [if_pos hw])
      subst Js;exact V.s 5 (.one (.int .i64 ((a:Int)+i+1))) (.one (.int .i64 ((a+i+1:Nat):Int))) (λ_=>by rw [show ((a+i+1:Nat):Int)=(a:Int)+i+1 by omega])<|V.z
  ·refine V.q ?_;have Js:r=rvO none:=UN.trans (by
    by_cases h5:i=5
    ·subst h5; rfl
    ·rw [show 5 - i=(4 - i)+1 by omega];unfold rfL;rw [if_neg (by simp only [Bool.and_eq_false_iff,decide_eq_false_iff_not] at hc; omega)])
   subst Js;exact V.z
def tnF (ps:List m6) (X:RIn) (r:RSt):St :=
 { n:=0,slots:=[],gs:=[],heap:=[(0,⟨[.str X.s,.val (.slice X.q X.n X.c),.int .i64 (r.at_:Int),.sb r.bad],133,true⟩)],next:=1,rows:=[],nr:=0,pers:=ps,wr:=false }
theorem rQ (X:RIn) (n:Int) (r:RSt) (h:j8 X r):CallsK a0a 73 [.one (.ptr 0 0),.one (.int .i64 n)] (tnF [] X r) (λr':RSt=>r'=(B6 X n r).2) (λ_=>ov (.str (B6 X n r).1)) (tnF [] X):=by
 obtain ⟨ho,ha⟩:=h;have hc:(r.bad||decide (n<0)||decide (n>1048576)||decide (a0h.wrap ((r.at_:Int)+n)>(X.s.length:Int)))=decide (r.bad=true∨n<0∨1048576<n∨(X.s.length:Int)<(r.at_:Int)+n):=by
  cases r.bad with
  | true=>simp
  | false =>
   by_cases h1:n<0
   ·simp [h1]
   ·by_cases h2:1048576<n
    ·simp [h2]
    ·have e:a0h.wrap ((r.at_:Int)+n)=(r.at_:Int)+n:=by simp [a1s,a1t,a1p]; omega
     rw [e];simp [h1,h2]
 refine a0j true Tryz.func73 fun ρ w=>V.q<|f9 30 (r.bad||decide (n<0)||decide (n>1048576)||decide (a0h.wrap ((r.at_:Int)+n)>(X.s.length:Int))) (λhh=>?_) (λhh=>?_)
 ·have hp:r.bad=true∨n<0∨1048576<n∨(X.s.length:Int)<(r.at_:Int)+n:=of_decide_eq_true (hc▸hh);have e:B6 X n r=([],⟨r.at_,true⟩):=by unfold B6; rw [if_pos hp]
  rw [e];exact V.q<|j3 0 3 ⟨[.str X.s,.val (.slice X.q X.n X.c),.int .i64 (r.at_:Int),.bool true],133,true⟩ (.bool true) (.sb true) kq rfl kq (λ_=>rfl)<|V.e (⟨r.at_,true⟩:RSt) [] rfl
 ·have hp:¬ (r.bad=true∨n<0∨1048576<n∨(X.s.length:Int)<(r.at_:Int)+n):=of_decide_eq_false (hc▸hh);obtain ⟨k,rfl⟩:∃ k:Nat,n=(k:Int):=⟨n.toNat,by omega⟩;have hb:r.bad=false:=by cases h:r.bad with | false=>rfl | true=>exact absurd (.inl h) hp
  have e:B6 X (k:Int) r=((X.s.take (r.at_+k)).drop r.at_,⟨r.at_+k,r.bad⟩):=by unfold B6; rw [if_neg hp,hb,a1h]
  rw [e];have w1:a0h.wrap ((r.at_:Int)+k)=((r.at_+k:Nat):Int):=by simp [a1s,a1t,a1p]; omega
  have w2:a0h.wrap (((r.at_+k:Nat):Int) - k)=(r.at_:Int):=by simp [a1s,a1t,a1p]; omega
  exact V.t [] [(0:Int)<=a0h.wrap (a0h.wrap ((r.at_:Int)+k) - k)/\a0h.wrap (a0h.wrap ((r.at_:Int)+k) - k)<=a0h.wrap ((r.at_:Int)+k)/\a0h.wrap ((r.at_:Int)+k)<=(X.s.length:Int)] (by show _/\_/\_; rw [w1,w2]; omega)<|V.s 4 (.one (.str (List.drop (a0h.wrap (a0h.wrap ((r.at_:Int)+k) - k)).toNat (List.take (a0h.wrap ((r.at_:Int)+k)).toNat X.s)))) (.one (.str ((X.s.take (r.at_+k)).drop r.at_))) (λ_=>by rw [w1,w2,a1h,a1h])<|j3 0 2 ⟨[.str X.s,.val (.slice X.q X.n X.c),.int .i64 (a0h.wrap ((r.at_:Int)+k)),.sb r.bad],133,true⟩ (.int .i64 (a0h.wrap ((r.at_:Int)+k))) (.int .i64 ((r.at_+k:Nat):Int)) kq rfl kq (λ_=>by rw [w1])<|V.e (⟨r.at_+k,r.bad⟩:RSt) [] rfl
def Ks (X:RIn) (r:RSt) (h:j8 X r) (v:RV) (hv:v=rnF X.s (r.at_:Int)) (hp:io v=true):Con a0a :=
 R7 19 [] [.one (.str X.s),.one (.int .i64 (r.at_:Int))] v (CallsK.gives (tW X.s (r.at_:Int) h.1 v hv) ⟨rfl,rfl,rfl⟩ (fun ρ ρ'=>ou hp ρ ρ'))
theorem al (X:RIn) (r:RSt) (h:j8 X r):CallsK a0a 139 [.one (.ptr 0 0)] (tnF [] X r) (λr':RSt=>r'=(l8 X r).2) (λ_=>ov (.int .i64 (l8 X r).1)) (tnF [] X):=by
 refine a0j true Tryz.func139 fun ρ w=>V.q<|f9 9 r.bad (λhh=>?_) (λhh=>?_)
 ·have e:l8 X r=(0,r):=aU hh;rw [e];exact V.q<|V.e r [] rfl
 ·have hB:rnB X.s (r.at_:Int)=false:=by unfold rnB; have:=h.2; simp; omega
  cases e:rfL X.s r.at_ 5 0 0 with
  | none =>
   have hr:rnF X.s (r.at_:Int)=.tup [.one (.int .i64 0),.one (.int .i64 0),.one (.int .i64 220)]:=by unfold rnF; rw [hB,a1h,e]; rfl
   have e2:l8 X r=(0,⟨r.at_,true⟩):=by unfold l8; rw [if_neg (by rw [hh]; decide),e]
   rw [e2];exact V.runT [(⟨Ks X r h _ hr.symm rfl,[]⟩:Ent a0a)] [[CV.one (.str X.s),.one (.int .i64 (r.at_:Int))]=[CV.one (.str X.s),.one (.int .i64 (r.at_:Int))]] kq kq rfl<|m0 24 ((220:Int) != 0) true (by decide)<|V.q<|j3 0 3 ⟨[.str X.s,.val (.slice X.q X.n X.c),.int .i64 (r.at_:Int),.bool true],133,true⟩ (.bool true) (.sb true) kq rfl kq (λ_=>rfl)<|V.e (⟨r.at_,true⟩:RSt) [] rfl
  | some p =>
   have hr:rnF X.s (r.at_:Int)=.tup [.one (.int .i64 p.1),.one (.int .i64 (p.2:Int)),.one (.int .i64 0)]:=by unfold rnF; rw [hB,a1h,e]; rfl
   have e2:l8 X r=(p.1,⟨p.2,false⟩):=by unfold l8; rw [if_neg (by rw [hh]; decide),e]
   rw [e2];exact V.runT [(⟨Ks X r h _ hr.symm rfl,[]⟩:Ent a0a)] [[CV.one (.str X.s),.one (.int .i64 (r.at_:Int))]=[CV.one (.str X.s),.one (.int .i64 (r.at_:Int))]] kq kq rfl<|m0 24 ((0:Int) != 0) false (by decide)<|V.q<|j3 0 3 ⟨[.str X.s,.val (.slice X.q X.n X.c),.int .i64 (p.2:Int),.sb r.bad],133,true⟩ (.sb r.bad) (.sb false) kq rfl kq (λ_=>by rw [hh])<|V.e (⟨p.2,false⟩:RSt) [] rfl
theorem lF {X:RIn} {r:RSt} (h:j8 X r):j8 X (K7 X r).2:=rM X r h
theorem ym (X:RIn) (r:RSt) (h:j8 X r):CallsK a0a 143 [.one (.ptr 0 0)] (tnF [] X r) (λr':RSt=>r'=(P5 X r).2) (λ_=>ov (.str (P5 X r).1)) (tnF [] X):=by
 have h1:=v8 h;refine a0j true Tryz.func143 fun ρ w=>V.q<|V.c [] (al X r h) (λr1 e1=>?_);subst e1;refine V.q<|f9 7 (decide ((l8 X r).1>255)) (λhh=>?_) (λhh=>?_)
 ·have e:P5 X r=B6 X (l8 X r).1 ⟨(l8 X r).2.at_,true⟩:=by unfold P5; rw [hh,Bool.or_true]
  rw [e];exact V.q<|j3 0 3 ⟨[.str X.s,.val (.slice X.q X.n X.c),.int .i64 ((l8 X r).2.at_:Int),.bool true],133,true⟩ (.bool true) (.sb true) kq rfl kq (λ_=>rfl)<|V.c [] (rQ X (l8 X r).1 ⟨(l8 X r).2.at_,true⟩ h1) λr2 e2=>V.q<|V.e r2 [] e2
 ·have e:P5 X r=B6 X (l8 X r).1 (l8 X r).2:=by unfold P5; rw [hh,Bool.or_false]
  rw [e];exact V.q<|V.c [] (rQ X (l8 X r).1 (l8 X r).2 h1) λr2 e2=>V.q<|V.e r2 [] e2
theorem yn (X:RIn) (r:RSt) (h:j8 X r):CallsK a0a 144 [.one (.ptr 0 0)] (tnF [] X r) (λr':RSt=>r'=(K7 X r).2) (λ_=>ov (.sb (K7 X r).1)) (tnF [] X):=by
 refine a0j true Tryz.func144 fun ρ w=>V.q<|V.c [] (rQ X 1 r h) (λr1 e1=>?_);subst e1;refine V.q<|f9 11 (!((B6 X 1 r).1==[0])&&!((B6 X 1 r).1==[1])) (λhh=>?_) (λhh=>?_)
 ·have e:K7 X r=((B6 X 1 r).1==[1],⟨(B6 X 1 r).2.at_,true⟩):=by unfold K7; rw [hh,Bool.or_true]
  rw [e];exact V.q<|j3 0 3 ⟨[.str X.s,.val (.slice X.q X.n X.c),.int .i64 ((B6 X 1 r).2.at_:Int),.bool true],133,true⟩ (.bool true) (.sb true) kq rfl kq (λ_=>rfl)<|V.e (⟨(B6 X 1 r).2.at_,true⟩:RSt) [] rfl
 ·have e:K7 X r=((B6 X 1 r).1==[1],(B6 X 1 r).2):=by unfold K7; rw [hh,Bool.or_false]
  rw [e];exact V.q<|V.e (B6 X 1 r).2 [] rfl
theorem yo (X:RIn) (r:RSt) (h:j8 X r):CallsK a0a 145 [.one (.ptr 0 0)] (tnF [] X r) (λr':RSt=>r'=(m9 X r).2) (λ_=>ov (.int .i64 (m9 X r).1)) (tnF [] X):=by
 refine a0j true Tryz.func145 fun ρ w=>V.q<|V.c [] (al X r h) (λr1 e1=>?_);subst e1;refine V.q<|f9 11 (decide ((l8 X r).1<0)||decide ((l8 X r).1>16)) (λhh=>?_) (λhh=>?_)
 ·have e:m9 X r=(0,⟨(l8 X r).2.at_,true⟩):=by unfold m9; rw [if_pos (by simpa using hh)]
  rw [e];exact V.q<|j3 0 3 ⟨[.str X.s,.val (.slice X.q X.n X.c),.int .i64 ((l8 X r).2.at_:Int),.bool true],133,true⟩ (.bool true) (.sb true) kq rfl kq (λ_=>rfl)<|V.e (⟨(l8 X r).2.at_,true⟩:RSt) [] rfl
 ·have e:m9 X r=l8 X r:=by unfold m9; rw [if_neg (by simp at hh; omega)]
  rw [e];exact V.q<|V.e (l8 X r).2 [] rfl
theorem IT (X:RIn) (r:RSt) (h:j8 X r):CallsK a0a 142 [.one (.ptr 0 0)] (tnF [] X r) (λr':RSt=>r'=(Y1 X r).2) (λ_=>.v (.agg (Y1 X r).1.cells)) (tnF [] X):=by
 have h1:=v8 h;have h2:=v8 h1;have h3:=v8 h2;have h4:=lF h3;refine a0j true Tryz.func142 fun ρ w=>V.q<|V.c [] (al X r h) (λr1 e1=>?_);subst e1;refine V.q<|V.c [] (al X _ h1) (λr1 e1=>?_);subst e1;refine V.q<|V.c [] (al X _ h2) (λr1 e1=>?_);subst e1;refine V.q<|V.c [] (yn X _ h3) (λr1 e1=>?_);subst e1;exact V.q<|V.c [] (ym X _ h4) λr1 e1=>V.q<|V.e r1 [] e1
theorem IU (l:List UInt8) (c:UInt8):be (l++[c])=256*be l+c.toNat:=by unfold be; rw [a4r]; rfl
theorem Am {s:List UInt8} {i:Nat} (h:i<s.length):be (s.take (i+1))=256*be (s.take i)+(s.getD i 0).toNat:=by
 rw [a2c,a0b h,Option.toList_some,IU,a0r,a0b h];rfl
theorem Kt:∀ (i:Nat) (s:List UInt8),i<=s.length->be (s.take i)<256 ^ i
 | 0,s,_=>by simp [be]
 | i+1,s,h=>by
  rw [Am (by omega),a6c];have:=Kt i s (by omega);have:=(s.getD i 0).toNat_lt;omega
structure FoI where
 n:Nat
 i:Nat
def Sv (X:RIn) (r:RSt) (s:List UInt8) (j:FoI):St :=
 { n:=22,slots:=[(0,ov (.ptr 0 0)),(3,ov (.str s)),(4,ov (.int .i64 (j.n:Int))),(5,ov (.int .i64 (j.i:Int)))],gs:=[],heap:=(tnF [] X r).heap,next:=1,rows:=[],nr:=0,pers:=[],wr:=true,fx:=1 }
theorem Sw (X:RIn) (r:RSt) (h:j8 X r):(B6 X 4 r).1.length<=4:=by
 unfold B6;split
 ·simp
 ·simp only [a2p,a2b];omega
theorem pL (X:RIn) (r:RSt) (h:j8 X r):CallsK a0a 140 [.one (.ptr 0 0)] (tnF [] X r) (λr':RSt=>r'=(n5 X r).2) (λ_=>ov (.int .i64 (n5 X r).1)) (tnF [] X):=by
 have h4:=Sw X r h;refine a0j true Tryz.func140 fun ρ w=>V.q<|V.c [] (rQ X 4 r h) (λr1 e1=>?_);unfold n5;generalize B6 X 4 r=v at h4 e1 ⊢;obtain ⟨s,r2⟩:=v;simp only at h4 e1 ⊢;subst e1;refine V.q<|a1l<|C0 [0,3,4,5] [0] [] [] (λj:FoI=>s.length - j.i) (Sv X r1 s) (λj=>j.i<=s.length/\j.n=be (s.take j.i)) ⟨0,0⟩ kq ⟨a0s _,rfl⟩ (λj hj ih=>?_);obtain ⟨n,i⟩:=j;obtain ⟨hi,hn⟩:=hj;simp only at hi hn;refine V.q<|f9 11 (decide ((i:Int)<(s.length:Int))) (λhb=>?_) (λhb=>?_)
 ·have e9:i<s.length:=by simpa using hb
  have hl:=Kt i s hi;have NW:n<16777216:=by
   rw [hn];have:256 ^ i<=256 ^ 3:=Nat.pow_le_pow_right (by decide) (by omega);omega
  have hc:=(s.getD i 0).toNat_lt;refine V.t [] [(0:Int)<=i/\(i:Int)<(s.length:Int)] ⟨by omega,by omega⟩<|V.s 4 (.one (.int .i64 (a0h.wrap (a0h.wrap (256*(n:Int))+a0h.wrap ((s.getD (i:Int).toNat 0).toNat:Int))))) (.one (.int .i64 ((256*n+(s.getD i 0).toNat:Nat):Int))) (λ_=>by
   rw [a1h];generalize s.getD i 0=c at hc;have:a0h.wrap (a0h.wrap (256*(n:Int))+a0h.wrap (c.toNat:Int))=((256*n+c.toNat:Nat):Int):=by simp [a1s,a1t,a1p]; omega
   rw [this]) ?_
  exact a3v 5 i (by omega)<|a1l<|s5 [0,3,4,5] [0] [] [] (ih ⟨256*n+(s.getD i 0).toNat,i+1⟩ ⟨e9,by rw [Am e9,hn]⟩ (by simp only; omega)) kq kq
 ·have bA:i=s.length:=by simp at hb; omega
  rw [bA,a1o] at hn;subst hn;exact V.q<|V.e r1 [] rfl
def Sx (rl:List (Int×Int)) (X:RIn) (r:RSt) (v:Int) (i:Nat):St :=
 { n:=36,slots:=[(0,ov (.ptr 0 0)),(1,ov (.int .i64 v)),(4,ov (.int .i64 0)),(5,ov (.int .i64 (i:Int)))],gs:=[],heap:=(tnF [] X r).heap,next:=1,rows:=[],nr:=0,pers:=[e8 (j1 rl X.q X.c)],wr:=true,fx:=1 }
theorem yp (rl:List (Int×Int)) (X:RIn) (hX:X.n=rl.length) (hl:rl.length<=1000000000) (v:Int) (r:RSt):CallsK a0a 141 [.one (.ptr 0 0),.one (.int .i64 v)] (tnF [e8 (j1 rl X.q X.c)] X r) (λr':RSt=>r'=(m4 rl v r).2) (λ_=>ov (.int .i64 (m4 rl v r).1)) (tnF [] X):=by
 obtain ⟨xs,xq,xn,xc⟩:=X;simp only at hX;subst hX;refine a0j true Tryz.func141 fun ρ w=>V.q<|a1l<|C0 [0,1,4,5] [0] [] [true] (λi:Nat=>rl.length - i) (Sx rl ⟨xs,xq,rl.length,xc⟩ r v) (λi=>i<=rl.length/\Z1 v (rl.drop i)=Z1 v rl) 0 kq ⟨a0s _,rfl⟩ (λi hi ih=>?_);obtain ⟨hi,hr⟩:=hi;refine V.q<|f9 12 (decide ((i:Int)<(rl.length:Int))) (λhb=>?_) (λhb=>?_)
 ·have e9:i<rl.length:=by simpa using hb
  have hd:=kU rl i (0,0) e9;rw [hd] at hr;refine V.q<|G4 18 0 (j1 rl xq xc)<|V.t [] [(0:Int)<=i/\(i:Int)<(rl.length:Int)] ⟨by omega,by omega⟩<|f9 24 ((rl.getD (i:Int).toNat (0,0)).1==v) (λhc=>?_) (λhc=>?_)
  ·have e:m4 rl v r=((rl.getD i (0,0)).2,r):=by
    unfold m4;rw [<- hr];unfold Z1;rw [List.find?_cons_of_pos (by rw [a1h] at hc; exact hc)];rfl
   rw [e];exact V.q<|G4 28 0 (j1 rl xq xc)<|V.t [] [(0:Int)<=i/\(i:Int)<(rl.length:Int)] ⟨by omega,by omega⟩<|V.s 4 (.one (.int .i64 (rl.getD (i:Int).toNat (0,0)).2)) (.one (.int .i64 (rl.getD i (0,0)).2)) (λ_=>by rw [a1h])<|V.e r [] rfl
  ·exact V.q<|a3v 5 i (by omega)<|a1l<|s5 [0,1,4,5] [0] [] [true] (ih (i+1) ⟨e9,by
    rw [<- hr];unfold Z1;rw [List.find?_cons_of_neg (by rw [a1h] at hc; rw [hc]; simp)]⟩ (by omega)) kq kq
 ·have bA:rl.drop i=[]:=a5t (by simp at hb; omega);rw [bA] at hr;have e:m4 rl v r=(0,⟨r.at_,true⟩):=by
   unfold m4;rw [<- hr];rfl
  rw [e];exact V.q<|j3 0 3 ⟨[.str xs,.val (.slice xq rl.length xc),.int .i64 (r.at_:Int),.bool true],133,true⟩ (.bool true) (.sb true) kq rfl kq (λ_=>rfl)<|V.e (⟨r.at_,true⟩:RSt) [] rfl
def tfF (ps:List m6) (X:RIn) (r:RSt) (x:In) (A:IA):St :=
 { n:=0,slots:=[],gs:=[],heap:=[(0,⟨[.str X.s,.val (.slice X.q X.n X.c),.int .i64 (r.at_:Int),.sb r.bad],133,true⟩)],next:=1,rows:=S4 x A,nr:=3,pers:=ps,wr:=false }
def TfK (f:Fl) (rl:List (Int×Int)) (X:RIn) (r:RSt) (x:In) (A:IA):Prop :=
 CallsK a0a 74 [.one (.ptr 0 0),.agg (inO x A),.one (.int .u8 (f.ch.toNat:Int))] (tfF [e8 (j1 rl X.q X.c)] X r x A) (λy:RSt×In×IA=>y.1=(jU f rl X r x).1/\y.2.1=(jU f rl X r x).2) (λy=>.v (.agg (inO y.2.1 y.2.2))) (λy=>tfF [] X y.1 y.2.1 y.2.2)
theorem gK {X:RIn} {r:RSt} (h:j8 X r):n9 (l8 X r).1=true:=by
 cases hb:r.bad with
 | true=>rw [aU hb]; rfl
 | false =>
  rcases ((L6 X) r h).2 hb with ⟨h1,_⟩ | ⟨_,h2⟩
  ·unfold l8 at h1 ⊢;rw [if_neg (by rw [hb]; simp)] at h1 ⊢;split
   ·rename_i p e; rw [e] at h1; cases h1
   ·rfl
  ·rw [h2]; exact (l9 h).2
theorem pO {rl:List (Int×Int)} {v:Int} {X:RIn} {r:RSt} (h:j8 X r):j8 X (m4 rl v r).2:=bw rl v h
theorem Sy (rl:List (Int×Int)) (X:RIn) (hX:X.n=rl.length) (hl:rl.length<=1000000000) (r:RSt) (x:In) (A:IA) (h:j8 X r):TfK .D rl X r x A:=by
 refine a0j false a3b fun ρ w=>l6 [] 30 [] trivial<|V.c [] (al X r h) (λr1 e1=>?_);subst e1;have hn:=q5 (gK h);exact V.t [] [inK .i64 ((l8 X r).1 - 1)] (by obtain ⟨h1,h2⟩:=hn; simp only [B9,inK]; omega)<|V.e (((l8 X r).2,a1i .D x ((l8 X r).1 - 1),A):RSt×In×IA) [] ⟨rfl,rfl⟩
theorem SA (rl:List (Int×Int)) (X:RIn) (hX:X.n=rl.length) (hl:rl.length<=1000000000) (r:RSt) (x:In) (A:IA) (h:j8 X r):TfK .A rl X r x A:=by
 refine a0j false a3b fun ρ w=>l6 [] 30 [] trivial<|V.c [] (al X r h) (λr1 e1=>?_);subst e1;have hn:=q5 (gK h);exact V.t [] [inK .i64 ((l8 X r).1 - 1)] (by obtain ⟨h1,h2⟩:=hn; simp only [B9,inK]; omega)<|V.e (((l8 X r).2,a1i .A x ((l8 X r).1 - 1),A):RSt×In×IA) [] ⟨rfl,rfl⟩
theorem SB (rl:List (Int×Int)) (X:RIn) (hX:X.n=rl.length) (hl:rl.length<=1000000000) (r:RSt) (x:In) (A:IA) (h:j8 X r):TfK .B rl X r x A:=by
 refine a0j false a3b fun ρ w=>l6 [] 30 [] trivial<|V.c [] (al X r h) (λr1 e1=>?_);subst e1;have hn:=q5 (gK h);exact V.t [] [inK .i64 ((l8 X r).1 - 1)] (by obtain ⟨h1,h2⟩:=hn; simp only [B9,inK]; omega)<|V.e (((l8 X r).2,a1i .B x ((l8 X r).1 - 1),A):RSt×In×IA) [] ⟨rfl,rfl⟩
theorem SC (rl:List (Int×Int)) (X:RIn) (hX:X.n=rl.length) (hl:rl.length<=1000000000) (r:RSt) (x:In) (A:IA) (h:j8 X r):TfK .N rl X r x A:=by
 refine a0j false a3b fun ρ w=>l6 [] 30 [] trivial<|V.c [] (al X r h) (λr1 e1=>?_);subst e1;exact V.q<|V.e (((l8 X r).2,a1i .N x (l8 X r).1,A):RSt×In×IA) [] ⟨rfl,rfl⟩
theorem SD (rl:List (Int×Int)) (X:RIn) (hX:X.n=rl.length) (hl:rl.length<=1000000000) (r:RSt) (x:In) (A:IA) (h:j8 X r):TfK .M rl X r x A:=by
 refine a0j false a3b fun ρ w=>l6 [] 30 [] trivial<|V.c [] (al X r h) (λr1 e1=>?_);subst e1;exact V.q<|V.e (((l8 X r).2,a1i .M x (l8 X r).1,A):RSt×In×IA) [] ⟨rfl,rfl⟩
theorem SE (rl:List (Int×Int)) (X:RIn) (hX:X.n=rl.length) (hl:rl.length<=1000000000) (r:RSt) (x:In) (A:IA) (h:j8 X r):TfK .P rl X r x A:=by
 refine a0j false a3b fun ρ w=>l6 [] 30 [] trivial<|V.c [] (al X r h) (λr1 e1=>?_);subst e1;exact V.q<|V.e (((l8 X r).2,a1i .P x (l8 X r).1,A):RSt×In×IA) [] ⟨rfl,rfl⟩
theorem SF (rl:List (Int×Int)) (X:RIn) (hX:X.n=rl.length) (hl:rl.length<=1000000000) (r:RSt) (x:In) (A:IA) (h:j8 X r):TfK .T rl X r x A:=by
 refine a0j false a3b fun ρ w=>l6 [] 30 [] trivial<|V.c [] (IT X r h) (λr1 e1=>?_);subst e1;exact V.q<|V.e (((Y1 X r).2,a4q .T x (Y1 X r).1,A):RSt×In×IA) [] ⟨rfl,rfl⟩
theorem SG (rl:List (Int×Int)) (X:RIn) (hX:X.n=rl.length) (hl:rl.length<=1000000000) (r:RSt) (x:In) (A:IA) (h:j8 X r):TfK .U rl X r x A:=by
 refine a0j false a3b fun ρ w=>l6 [] 30 [] trivial<|V.c [] (IT X r h) (λr1 e1=>?_);subst e1;exact V.q<|V.e (((Y1 X r).2,a4q .U x (Y1 X r).1,A):RSt×In×IA) [] ⟨rfl,rfl⟩
theorem SH (rl:List (Int×Int)) (X:RIn) (hX:X.n=rl.length) (hl:rl.length<=1000000000) (r:RSt) (x:In) (A:IA) (h:j8 X r):TfK .W rl X r x A:=by
 refine a0j false a3b fun ρ w=>l6 [] 30 [] trivial<|V.c [] (IT X r h) (λr1 e1=>?_);subst e1;exact V.q<|V.e (((Y1 X r).2,a4q .W x (Y1 X r).1,A):RSt×In×IA) [] ⟨rfl,rfl⟩
theorem SI (rl:List (Int×Int)) (X:RIn) (hX:X.n=rl.length) (hl:rl.length<=1000000000) (r:RSt) (x:In) (A:IA) (h:j8 X r):TfK .V rl X r x A:=by
 refine a0j false a3b fun ρ w=>l6 [] 30 [] trivial<|V.c [] (al X r h) (λr1 e1=>?_);subst e1;refine V.q<|V.c [] (ym X (l8 X r).2 (v8 h)) (λr2 e2=>?_);subst e2;exact V.q<|V.e (((P5 X (l8 X r).2).2,{ x with vn:=(l8 X r).1,vs:=(P5 X (l8 X r).2).1 },A):RSt×In×IA) [] ⟨rfl,rfl⟩
theorem Ph (rl:List (Int×Int)) (X:RIn) (hX:X.n=rl.length) (hl:rl.length<=1000000000) (r:RSt) (x:In) (A:IA) (h:j8 X r):TfK .Sz rl X r x A:=by
 refine a0j false a3b fun ρ w=>l6 [] 30 [] trivial<|V.c [] (yn X r h) (λr1 e1=>?_);subst e1;exact V.q<|V.e (((K7 X r).2,a6z .S x (K7 X r).1,A):RSt×In×IA) [] ⟨rfl,rfl⟩
theorem Pi (rl:List (Int×Int)) (X:RIn) (hX:X.n=rl.length) (hl:rl.length<=1000000000) (r:RSt) (x:In) (A:IA) (h:j8 X r):TfK .Rg rl X r x A:=by
 refine a0j false a3b fun ρ w=>l6 [] 30 [] trivial<|V.c [] (yn X r h) (λr1 e1=>?_);subst e1;exact V.q<|V.e (((K7 X r).2,a6z .R x (K7 X r).1,A):RSt×In×IA) [] ⟨rfl,rfl⟩
theorem Pj (rl:List (Int×Int)) (X:RIn) (hX:X.n=rl.length) (hl:rl.length<=1000000000) (r:RSt) (x:In) (A:IA) (h:j8 X r):TfK .aN rl X r x A:=by
 refine a0j false a3b fun ρ w=>l6 [] 30 [] trivial<|V.c [] (pL X r h) (λr1 e1=>?_);subst e1;exact V.q<|V.e (((n5 X r).2,a1i .N x (n5 X r).1,A):RSt×In×IA) [] ⟨rfl,rfl⟩
theorem Pk (rl:List (Int×Int)) (X:RIn) (hX:X.n=rl.length) (hl:rl.length<=1000000000) (r:RSt) (x:In) (A:IA) (h:j8 X r):TfK .aM rl X r x A:=by
 refine a0j false a3b fun ρ w=>l6 [] 30 [] trivial<|V.c [] (pL X r h) (λr1 e1=>?_);subst e1;exact V.q<|V.e (((n5 X r).2,a1i .M x (n5 X r).1,A):RSt×In×IA) [] ⟨rfl,rfl⟩
theorem Pl (rl:List (Int×Int)) (X:RIn) (hX:X.n=rl.length) (hl:rl.length<=1000000000) (r:RSt) (x:In) (A:IA) (h:j8 X r):TfK .pN rl X r x A:=by
 refine a0j false a3b fun ρ w=>l6 [] 30 [] trivial<|V.c [(0,false)] (yp rl X hX hl (r.at_:Int) r) (λr1 e1=>?_);subst e1;refine V.q<|V.c [] (pL X (m4 rl (r.at_:Int) r).2 (pO h)) (λr2 e2=>?_);subst e2;exact V.q<|V.e ((⟨(n5 X (m4 rl (r.at_:Int) r).2).2.at_,(!((n5 X (m4 rl (r.at_:Int) r).2).1==0))||(n5 X (m4 rl (r.at_:Int) r).2).2.bad⟩,a1i .N x (m4 rl (r.at_:Int) r).1,A):RSt×In×IA) [] ⟨rfl,rfl⟩
theorem MK (rl:List (Int×Int)) (X:RIn) (hX:X.n=rl.length) (hl:rl.length<=1000000000) (r:RSt) (x:In) (A:IA) (h:j8 X r):TfK .far rl X r x A:=by
 refine a0j false a3b fun ρ w=>l6 [] 30 [] trivial<|V.c [(0,false)] (yp rl X hX hl (r.at_:Int) r) (λr1 e1=>?_);subst e1;refine V.q<|V.c [] (pL X (m4 rl (r.at_:Int) r).2 (pO h)) (λr2 e2=>?_);subst e2;exact V.q<|V.e (((n5 X (m4 rl (r.at_:Int) r).2).2,{ x with p:=(m4 rl (r.at_:Int) r).1,n:=(n5 X (m4 rl (r.at_:Int) r).2).1 },A):RSt×In×IA) [] ⟨rfl,rfl⟩
theorem Pm (rl:List (Int×Int)) (X:RIn) (hX:X.n=rl.length) (hl:rl.length<=1000000000) (r:RSt) (x:In) (A:IA) (h:j8 X r):TfK .pM rl X r x A:=by
 refine a0j false a3b fun ρ w=>l6 [] 30 [] trivial<|V.c [] (pL X r h) (λr1 e1=>?_);subst e1;refine V.q<|f9 102 ((n5 X r).1==4294967295) (λhh=>?_) (λhh=>?_)
 ·have e:jU .pM rl X r x=((n5 X r).2,a1i .M x (-1)):=by show (if _ then _ else _)=_; rw [if_pos hh]
  exact V.q<|V.e (((n5 X r).2,a1i .M x (-1),A):RSt×In×IA) [] (by rw [e]; exact ⟨rfl,rfl⟩)
 ·have e:jU .pM rl X r x=(⟨(m4 rl (r.at_:Int) (n5 X r).2).2.at_,(!((n5 X r).1==0))||(m4 rl (r.at_:Int) (n5 X r).2).2.bad⟩,a1i .M x (m4 rl (r.at_:Int) (n5 X r).2).1):=by show (if _ then _ else _)=_; rw [if_neg (by rw [hh]; decide)]
  refine V.q<|V.c [(0,false)] (yp rl X hX hl (r.at_:Int) (n5 X r).2) (λr2 e2=>?_);subst e2;exact V.q<|V.e ((⟨(m4 rl (r.at_:Int) (n5 X r).2).2.at_,(!((n5 X r).1==0))||(m4 rl (r.at_:Int) (n5 X r).2).2.bad⟩,a1i .M x (m4 rl (r.at_:Int) (n5 X r).2).1,A):RSt×In×IA) [] (by rw [e]; exact ⟨rfl,rfl⟩)
def tlI (X:RIn) (x:In) (A:IA) (n:Int) (j:GL Int):St :=
 { n:=216,slots:=[(0,ov (.ptr 0 0)),(4,ov (.ptr 1 0)),(6,ov (.ptr 2 0)),(9,ov (.int .i64 n)),(10,ov (.int .i64 j.i))],gs:=[],
    heap:=[(0,⟨[.str X.s,.val (.slice X.q X.n X.c),.int .i64 (j.r.at_:Int),.sb j.r.bad],133,true⟩),(1,⟨inO (xI x j) (aI A j),30,true⟩),(2,⟨inZ,30,true⟩)],next:=3,rows:=S4 (xI x j) (aI A j),nr:=3,pers:=[],wr:=false,fx:=1 }
theorem SJ (rl:List (Int×Int)) (X:RIn) (r:RSt) (x:In) (A:IA) (h:j8 X r) (hl:x.l.length<=1000):TfK .L rl X r x A:=by
 refine a0j false a3b fun ρ w=>l6 [] 30 [] trivial<|V.c [] (yo X r h) (λr1 e1=>?_);subst e1;have h1:=mr X r h;have hn:0<=(m9 X r).1/\(m9 X r).1<=16:=by
  unfold m9;split
  ·exact ⟨Int.le_refl _,(by decide:(0:Int)<=16)⟩
  ·omega
 refine V.q<|j6 [0,4,6,9,10] [] (λj:GL Int=>(m9 X r).1.toNat - j.i) (tlI X x A (m9 X r).1)
  (λj=>j8 X j.r/\j.i<=(m9 X r).1.toNat/\j.l.length<=x.l.length+j.i/\j.l++(o6 (tkI X) ((m9 X r).1.toNat - j.i) j.r).1=(Z6 X (tkI X) x.l r).1/\(o6 (tkI X) ((m9 X r).1.toNat - j.i) j.r).2=(Z6 X (tkI X) x.l r).2)
  ⟨(m9 X r).2,x.l,A.ql,A.cl,0⟩ kq ⟨h1,a0s _,a0q _,rfl,rfl⟩ (λj hj ih=>?_)
 obtain ⟨r2,l2,q2,c2,i⟩:=j;obtain ⟨h2,hi,cZ,e1,e2⟩:=hj;simp only at h2 hi cZ e1 e2;refine a1l<|V.q<|f9 160 (decide ((i:Int)<(m9 X r).1)) (λhc=>?_) (λhc=>?_)
 ·have e9:(i:Int)<(m9 X r).1:=by simpa using hc
  obtain ⟨m,hm⟩:∃ m,(m9 X r).1.toNat - i=m+1:=⟨(m9 X r).1.toNat - i - 1,by omega⟩;have fS:(m9 X r).1.toNat - (i+1)=m:=by omega
  rw [hm,o6] at e1 e2;have JH:=q5 (gK h2);refine V.q<|p9 [0] [1] 8 kq<|@a1z _ [0] [1] 8 _ _ ([]:List (Ent a0a)) [] kq kq trivial<|@a5u _ [0] [1] 8 _ _ _ _ _ _ _ _ _ [] (al X r2 h2) kq kq kq (λ_=>kq) (λr3 e3=>?_);subst e3;refine @a1z _ [0] [1] 8 _ _ ([]:List (Ent a0a)) [inK .i64 ((l8 X r2).1 - 1)] kq kq (by obtain ⟨k1,k2⟩:=JH; simp only [B9,inK]; omega)<|@VX.push _ [0] [1] 8 _ _ _ C6 0 l2 (tkI X r2).1 1 q2 c2 3 1 [.int .i64 (tkI X r2).1] 8 kq kq kq (by omega) rfl (λ_ _=>kq) λq3 c3=>@a1z _ [0] [1] 8 _ _ ([]:List (Ent a0a)) [] kq kq trivial<|@o7 _ [0] [1] 8 _ _ kq<|V.t [] [inK .i64 ((i:Int)+1)] (by simp only [B9,inK]; omega)<|d9 [0,4,6,9,10] [] (ih ⟨(tkI X r2).2,l2++[(tkI X r2).1],q3,c3,i+1⟩ ⟨v8 h2,by simp only; omega,by simp only [a0c,a0p,a1r]; omega,?_,?_⟩ (by simp only; omega)) kq kq
  ·simp only;rw [fS,<- e1,a1g]; rfl
  ·simp only;rw [fS]; exact e2
 ·have h0:(m9 X r).1.toNat - i=0:=by simp at hc; omega
  rw [h0,o6] at e1 e2;simp only [a1q] at e1;simp only at e2;exact V.q<|V.e ((r2,{ x with l:=l2 },{ A with ql:=q2,cl:=c2 }):RSt×In×IA) [] ⟨e2,by rw [e1]; rfl⟩
def tlT (X:RIn) (x:In) (A:IA) (n:Int) (j:GL Ty):St :=
 { n:=216,slots:=[(0,ov (.ptr 0 0)),(4,ov (.ptr 1 0)),(6,ov (.ptr 2 0)),(11,ov (.int .i64 n)),(12,ov (.int .i64 j.i))],gs:=[],
    heap:=[(0,⟨[.str X.s,.val (.slice X.q X.n X.c),.int .i64 (j.r.at_:Int),.sb j.r.bad],133,true⟩),(1,⟨inO (xT x j) (aT A j),30,true⟩),(2,⟨inZ,30,true⟩)],next:=3,rows:=S4 (xT x j) (aT A j),nr:=3,pers:=[],wr:=false,fx:=1 }
theorem SK (rl:List (Int×Int)) (X:RIn) (r:RSt) (x:In) (A:IA) (h:j8 X r) (hl:x.y.length<=1000):TfK .Y rl X r x A:=by
 refine a0j false a3b fun ρ w=>l6 [] 30 [] trivial<|V.c [] (yo X r h) (λr1 e1=>?_);subst e1;have h1:=mr X r h;have hn:0<=(m9 X r).1/\(m9 X r).1<=16:=by
  unfold m9;split
  ·exact ⟨Int.le_refl _,(by decide:(0:Int)<=16)⟩
  ·omega
 refine V.q<|j6 [0,4,6,11,12] [] (λj:GL Ty=>(m9 X r).1.toNat - j.i) (tlT X x A (m9 X r).1)
  (λj=>j8 X j.r/\j.i<=(m9 X r).1.toNat/\j.l.length<=x.y.length+j.i/\j.l++(o6 (Y1 X) ((m9 X r).1.toNat - j.i) j.r).1=(Z6 X (Y1 X) x.y r).1/\(o6 (Y1 X) ((m9 X r).1.toNat - j.i) j.r).2=(Z6 X (Y1 X) x.y r).2)
  ⟨(m9 X r).2,x.y,A.qy,A.cy,0⟩ kq ⟨h1,a0s _,a0q _,rfl,rfl⟩ (λj hj ih=>?_)
 obtain ⟨r2,l2,q2,c2,i⟩:=j;obtain ⟨h2,hi,cZ,e1,e2⟩:=hj;simp only at h2 hi cZ e1 e2;refine a1l<|V.q<|f9 177 (decide ((i:Int)<(m9 X r).1)) (λhc=>?_) (λhc=>?_)
 ·have e9:(i:Int)<(m9 X r).1:=by simpa using hc
  obtain ⟨m,hm⟩:∃ m,(m9 X r).1.toNat - i=m+1:=⟨(m9 X r).1.toNat - i - 1,by omega⟩;have fS:(m9 X r).1.toNat - (i+1)=m:=by omega
  rw [hm,o6] at e1 e2;refine V.q<|p9 [0] [2] 7 kq<|@a1z _ [0] [2] 7 _ _ ([]:List (Ent a0a)) [] kq kq trivial<|@a5u _ [0] [2] 7 _ _ _ _ _ _ _ _ _ [] (IT X r2 h2) kq kq kq (λ_=>kq) (λr3 e3=>?_);subst e3;refine @a1z _ [0] [2] 7 _ _ ([]:List (Ent a0a)) [] kq kq trivial<|@VX.push _ [0] [2] 7 _ _ _ Ty.cells ty0 l2 (Y1 X r2).1 2 q2 c2 23 5 (Y1 X r2).1.cells 48 kq kq kq (by omega) rfl (λ_ _=>kq) λq3 c3=>@a1z _ [0] [2] 7 _ _ ([]:List (Ent a0a)) [] kq kq trivial<|@o7 _ [0] [2] 7 _ _ kq<|V.t [] [inK .i64 ((i:Int)+1)] (by simp only [B9,inK]; omega)<|d9 [0,4,6,11,12] [] (ih ⟨(Y1 X r2).2,l2++[(Y1 X r2).1],q3,c3,i+1⟩ ⟨fL X _ (rM X _ (V9 X _ (V9 X _ (V9 X _ h2)))),by simp only; omega,by simp only [a0c,a0p,a1r]; omega,?_,?_⟩ (by simp only; omega)) kq kq
  ·simp only;rw [fS,<- e1,a1g]; rfl
  ·simp only;rw [fS]; exact e2
 ·have h0:(m9 X r).1.toNat - i=0:=by simp at hc; omega
  rw [h0,o6] at e1 e2;simp only [a1q] at e1;simp only at e2;exact V.q<|V.e ((r2,{ x with y:=l2 },{ A with qy:=q2,cy:=c2 }):RSt×In×IA) [] ⟨e2,by rw [e1]; rfl⟩
def tlF (X:RIn) (x:In) (A:IA) (n:Int) (j:GL Fm):St :=
 { n:=216,slots:=[(0,ov (.ptr 0 0)),(4,ov (.ptr 1 0)),(6,ov (.ptr 2 0)),(13,ov (.int .i64 n)),(14,ov (.int .i64 j.i))],gs:=[],
    heap:=[(0,⟨[.str X.s,.val (.slice X.q X.n X.c),.int .i64 (j.r.at_:Int),.sb j.r.bad],133,true⟩),(1,⟨inO (xF x j) (aF A j),30,true⟩),(2,⟨inZ,30,true⟩)],next:=3,rows:=S4 (xF x j) (aF A j),nr:=3,pers:=[],wr:=false,fx:=1 }
theorem SL (rl:List (Int×Int)) (X:RIn) (r:RSt) (x:In) (A:IA) (h:j8 X r) (hl:x.f.length<=1000):TfK .F rl X r x A:=by
 refine a0j false a3b fun ρ w=>l6 [] 30 [] trivial<|V.c [] (yo X r h) (λr1 e1=>?_);subst e1;have h1:=mr X r h;have hn:0<=(m9 X r).1/\(m9 X r).1<=16:=by
  unfold m9;split
  ·exact ⟨Int.le_refl _,(by decide:(0:Int)<=16)⟩
  ·omega
 refine V.q<|j6 [0,4,6,13,14] [] (λj:GL Fm=>(m9 X r).1.toNat - j.i) (tlF X x A (m9 X r).1)
  (λj=>j8 X j.r/\j.i<=(m9 X r).1.toNat/\j.l.length<=x.f.length+j.i/\j.l++(o6 (mz X) ((m9 X r).1.toNat - j.i) j.r).1=(Z6 X (mz X) x.f r).1/\(o6 (mz X) ((m9 X r).1.toNat - j.i) j.r).2=(Z6 X (mz X) x.f r).2)
  ⟨(m9 X r).2,x.f,A.qf,A.cf,0⟩ kq ⟨h1,a0s _,a0q _,rfl,rfl⟩ (λj hj ih=>?_)
 obtain ⟨r2,l2,q2,c2,i⟩:=j;obtain ⟨h2,hi,cZ,e1,e2⟩:=hj;simp only at h2 hi cZ e1 e2;refine a1l<|V.q<|f9 193 (decide ((i:Int)<(m9 X r).1)) (λhc=>?_) (λhc=>?_)
 ·have e9:(i:Int)<(m9 X r).1:=by simpa using hc
  obtain ⟨m,hm⟩:∃ m,(m9 X r).1.toNat - i=m+1:=⟨(m9 X r).1.toNat - i - 1,by omega⟩;have fS:(m9 X r).1.toNat - (i+1)=m:=by omega
  rw [hm,o6] at e1 e2;refine V.q<|V.c [] (al X (r2) (h2)) (λr3 e3=>?_);subst e3;refine V.q<|V.c [] (al X ((l8 X (r2)).2) (v8 (h2))) (λr3 e3=>?_);subst e3;refine V.q<|V.c [] (al X ((l8 X ((l8 X (r2)).2)).2) (v8 (v8 (h2)))) (λr3 e3=>?_);subst e3;refine V.q<|V.c [] (ym X ((l8 X ((l8 X ((l8 X (r2)).2)).2)).2) (v8 (v8 (v8 (h2))))) (λr3 e3=>?_);subst e3;refine V.q<|V.push Fm.cells fm0 l2 (mz X r2).1 0 q2 c2 93 4 (mz X r2).1.cells 40 kq (by omega) rfl (λ_ _=>kq) λq3 c3=>V.t [] [inK .i64 ((i:Int)+1)] (by simp only [B9,inK]; omega)<|d9 [0,4,6,13,14] [] (ih ⟨(mz X r2).2,l2++[(mz X r2).1],q3,c3,i+1⟩ ⟨fL X _ (V9 X _ (V9 X _ (V9 X _ h2))),by simp only; omega,by simp only [a0c,a0p,a1r]; omega,?_,?_⟩ (by simp only; omega)) kq kq
  ·simp only;rw [fS,<- e1,a1g]; rfl
  ·simp only;rw [fS]; exact e2
 ·have h0:(m9 X r).1.toNat - i=0:=by simp at hc; omega
  rw [h0,o6] at e1 e2;simp only [a1q] at e1;simp only at e2;exact V.q<|V.e ((r2,{ x with f:=l2 },{ A with qf:=q2,cf:=c2 }):RSt×In×IA) [] ⟨e2,by rw [e1]; rfl⟩
theorem Pn (f:Fl) (rl:List (Int×Int)) (X:RIn) (hX:X.n=rl.length) (hl:rl.length<=1000000000) (r:RSt) (x:In) (A:IA) (h:j8 X r) (hx:x.okL):TfK f rl X r x A:=by
 cases f
 case D=>exact Sy rl X hX hl r x A h
 case A=>exact SA rl X hX hl r x A h
 case B=>exact SB rl X hX hl r x A h
 case N=>exact SC rl X hX hl r x A h
 case M=>exact SD rl X hX hl r x A h
 case P=>exact SE rl X hX hl r x A h
 case T=>exact SF rl X hX hl r x A h
 case U=>exact SG rl X hX hl r x A h
 case W=>exact SH rl X hX hl r x A h
 case V=>exact SI rl X hX hl r x A h
 case L=>exact SJ rl X r x A h hx.2.1
 case Y=>exact SK rl X r x A h hx.2.2
 case F=>exact SL rl X r x A h hx.1
 case Sz=>exact Ph rl X hX hl r x A h
 case Rg=>exact Pi rl X hX hl r x A h
 case aN=>exact Pj rl X hX hl r x A h
 case aM=>exact Pk rl X hX hl r x A h
 case pN=>exact Pl rl X hX hl r x A h
 case pM=>exact Pm rl X hX hl r x A h
 case far=>exact MK rl X hX hl r x A h
theorem mt {α:Type} {g:RSt->α×RSt}:∀ (k:Nat) (r:RSt),(o6 g k r).1.length=k
 | 0,_=>rfl
 | k+1,r=>by show (_::(o6 g k _).1).length=_; rw [a0p,mt k]
theorem BT (X:RIn) (r:RSt):(m9 X r).1.toNat<=16:=by
 unfold m9;split
 ·exact (by decide:(0:Int).toNat<=16)
 ·omega
theorem lG {α:Type} (X:RIn) (g:RSt->α×RSt) (l:List α) (r:RSt):(Z6 X g l r).1.length<=l.length+16:=by
 unfold Z6;rw [a0c,mt];have:=BT X r;omega
theorem aV {X:RIn} {r:RSt} (h:j8 X r):j8 X (n5 X r).2:=pD (n:=4) h
theorem Po (f:Fl) {rl:List (Int×Int)} {X:RIn} {r:RSt} {x:In} (h:j8 X r) :
  j8 X (jU f rl X r x).1/\(jU f rl X r x).2.f.length<=x.f.length+16/\(jU f rl X r x).2.l.length<=x.l.length+16/\(jU f rl X r x).2.y.length<=x.y.length+16:=by
 have z:∀ n:Nat,n<=n+16:=λn=>Nat.le_add_right _ _;have Nq:j8 X (Y1 X r).2:=fL X _ (rM X _ (V9 X _ (V9 X _ (V9 X _ h))));cases f
 case D=>exact ⟨v8 h,z _,z _,z _⟩
 case A=>exact ⟨v8 h,z _,z _,z _⟩
 case B=>exact ⟨v8 h,z _,z _,z _⟩
 case N=>exact ⟨v8 h,z _,z _,z _⟩
 case M=>exact ⟨v8 h,z _,z _,z _⟩
 case P=>exact ⟨v8 h,z _,z _,z _⟩
 case T=>exact ⟨Nq,z _,z _,z _⟩
 case U=>exact ⟨Nq,z _,z _,z _⟩
 case W=>exact ⟨Nq,z _,z _,z _⟩
 case V=>exact ⟨fL X _ (v8 h),z _,z _,z _⟩
 case L=>exact ⟨rN (g:=tkI X) (λ_ h=>v8 h) _ _ (mr X r h),z _,lG X _ _ r,z _⟩
 case Y=>exact ⟨rN (g:=Y1 X) (λ_ h=>fL X _ (rM X _ (V9 X _ (V9 X _ (V9 X _ h))))) _ _ (mr X r h),z _,z _,lG X _ _ r⟩
 case F=>exact ⟨rN (g:=mz X) (λ_ h=>fL X _ (V9 X _ (V9 X _ (V9 X _ h)))) _ _ (mr X r h),lG X _ _ r,z _,z _⟩
 case Sz=>exact ⟨lF h,z _,z _,z _⟩
 case Rg=>exact ⟨lF h,z _,z _,z _⟩
 case aN=>exact ⟨aV h,z _,z _,z _⟩
 case aM=>exact ⟨aV h,z _,z _,z _⟩
 case pN=>exact ⟨aV (bw rl _ h),z _,z _,z _⟩
 case far=>exact ⟨aV (bw rl _ h),z _,z _,z _⟩
 case pM =>
  refine ⟨?_,?_⟩
  ·show j8 X (if _ then _ else _:RSt×In).1;split
   ·exact aV h
   ·exact bw rl (r.at_:Int) (aV h)
  ·show (if _ then _ else _:RSt×In).2.f.length<=_/\(if _ then _ else _:RSt×In).2.l.length<=_/\(if _ then _ else _:RSt×In).2.y.length<=_;split<;>exact ⟨z _,z _,z _⟩
structure TdI where
 r:RSt
 x:In
 A:IA
 i:Nat
def SM (rl:List (Int×Int)) (X:RIn) (ls:List UInt8) (j:TdI):St :=
 { n:=80,slots:=[(6,ov (.ptr 0 0)),(9,ov (.ptr 1 0)),(11,ov (.ptr 2 0)),(13,ov (.str ls)),(14,ov (.int .i64 (j.i:Int)))],gs:=[],
    heap:=[(0,⟨inZ,30,true⟩),(1,⟨[.str X.s,.val (.slice X.q X.n X.c),.int .i64 (j.r.at_:Int),.sb j.r.bad],133,true⟩),(2,⟨inO j.x j.A,30,true⟩)],next:=3,rows:=S4 j.x j.A,nr:=3,pers:=[e8 (j1 rl X.q X.c)],wr:=true,fx:=0 }
theorem FC (rl:List (Int×Int)) (X:RIn) (l:List Fl) (f:Fl) (s:RSt×In):tkL rl X (l++[f]) s=if (tkL rl X l s).1.bad=true then tkL rl X l s else jU f rl X (tkL rl X l s).1 (tkL rl X l s).2:=by
 unfold tkL;rw [a4r];rfl
theorem FD {rl:List (Int×Int)} {X:RIn} {l:List Fl} {s:RSt×In} {i:Nat} {r:RSt} {x:In} (h:(r,x)=tkL rl X (l.take i) s) (hb:r.bad=true):(r,x)=tkL rl X l s:=by
 have e:tkL rl X l s=tkL rl X (l.drop i) (tkL rl X (l.take i) s):=by
  have:tkL rl X (l.take i++l.drop i) s=tkL rl X (l.drop i) (tkL rl X (l.take i) s):=by unfold tkL; rw [a4r]
  rw [a6g] at this;exact this
 rw [e,<- h];exact (tQ _ _ hb).symm
theorem IV {rl:List (Int×Int)} {X:RIn} {l:List Fl} {s e:RSt×In} {i:Nat} {r:RSt} {x:In} (h:(r,x)=tkL rl X (l.take i) s) (hi:i<=l.length) (he:tkL rl X l s=e) (hb:(decide ((i:Int)<((l.map Fl.ch).length:Int))&&!r.bad)=false):(r,x)=e:=by
 rw [<- he];by_cases ic:r.bad=true
 ·exact FD h ic
 ·have UL:r.bad=false:=by simpa using ic
  rw [UL] at hb;have B0:i=l.length:=by simp at hb; omega
  rw [B0,a1o] at h;exact h
theorem jY (o:Nat) (ho:o<256):(rfN (o:Int)).2=((n7 (o:Int)).getD []).map Fl.ch:=by
 by_cases h:1<=(o:Int)/\(o:Int)<=38
 ·have hi:F8 o=true:=(p6 o).2 (by omega);rw [lE hi];unfold n7;rw [if_pos h];rfl
 ·unfold rfN n7;rw [if_neg (by omega),if_neg h];rfl
end Go.Proofs
end
