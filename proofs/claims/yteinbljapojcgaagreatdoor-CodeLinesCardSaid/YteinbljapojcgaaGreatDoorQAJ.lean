/- A symbolic run of the program that Lean checks, and what the functions of the program come to by it: part 10 of 12. -/
import Derived.ProofKit
import Derived.ReadAgain
import Derived.Deep.Onto
import Derived.Test.YteinbljapojcgaaGreatDoorRows
import Derived.LaidMore
import Derived.Lay
import Derived.Lib.LaidTab
import Derived.Shelf.Vars
import Derived.MakeChecks
import Derived.Test.YteinbljapojcgaaGreatDoorQAI
set_option linter.unusedVariables false
section
namespace Go.Proofs
open Go Go.SX
set_option maxRecDepth 10000
theorem blen_used (l:List UInt8) (q:Option Addr) (cap:Nat):CallsK Tryz.prog 149 [.one (.ptr 0 0)] (bdF l q cap) (fun _:Unit=>True) (fun _=>.v (.one (.int .i64 (l.length:Int)))) (fun _=>bdF l q cap):=by
 refine CallsK.m true Tryz.func149 (fun ρ w=>?_);refine V.q ?_;exact V.z
theorem blen_new:CallsK Tryz.prog 149 [.one (.ptr 0 0)] bdN (fun _:Unit=>True) (fun _=>.v (.one (.int .i64 (([]:List UInt8).length:Int)))) (fun _=>bdN):=by
 refine CallsK.m true Tryz.func149 (fun ρ w=>?_);refine V.q ?_;exact V.z
def shR (n:Nat) (r:List (Int×Int)):List (Int×Int):=r.map fun e=>((n:Int)+e.1,e.2)
def mdS (l:List In):List UInt8×List (Int×Int):=l.foldl (fun s x=>(s.1++(cEnc x).1,s.2++shR s.1.length (cEnc x).2)) ([],[])
theorem mdS_snoc (l:List In) (x:In):mdS (l++[x])=((mdS l).1++(cEnc x).1,(mdS l).2++shR (mdS l).1.length (cEnc x).2):=by
 unfold mdS;rw [List.foldl_append];rfl
theorem rel_at (f:Fl) (x:In) (n:Nat):∀ e∈f.rel x n,e.1=(n:Int):=by
 cases f
 case pN=>show ∀ e∈relP _ n,_; unfold relP; split<;>simp
 case pM=>show ∀ e∈relP _ n,_; unfold relP; split<;>simp
 case far=>show ∀ e∈[((n:Int),x.p)],_; simp
 all_goals exact fun e he=>absurd he (List.not_mem_nil)
theorem putL_at (x:In):∀ (l:List Fl) (s:List UInt8×List (Int×Int)),l.all (fun f=>f.fineB x)=true→(∀ e∈s.2,0≤e.1∧e.1≤(s.1.length:Int))→∀ e∈(putL x l s).2,0≤e.1∧e.1≤((putL x l s).1.length:Int)
 | [],s,_,h=>h
 | f::l,s,ha,h=>by
  rw [List.all_cons,Bool.and_eq_true] at ha;refine putL_at x l (s.1++f.enc x,s.2++f.rel x s.1.length) ha.2 (fun e he=>?_);rw [List.length_append];rcases List.mem_append.1 he with he | he
  ·have:=h e he; omega
  ·have:=rel_at f x s.1.length e he; omega
theorem cFine_ok {x:In} (h:cFine x=true):(1≤x.op∧x.op≤38)∧((opFind x.op).getD []).all (fun f=>f.fineB x)=true:=by
 by_cases hop:1≤x.op∧x.op≤38
 ·refine ⟨hop,?_⟩;unfold cFine at h;have hf:opFind x.op=some (opFls x.op.toNat):=by unfold opFind; rw [if_pos hop]
  rw [hf] at h ⊢;simp only [Bool.and_eq_true] at h;exact h.1
 ·unfold cFine opFind at h;rw [if_neg hop] at h;cases h
theorem cEnc_ok {x:In} (h:cFine x=true):(cEnc x).1.length≤100000∧(cEnc x).2.length≤100∧∀ e∈(cEnc x).2,0≤e.1∧e.1≤100000:=by
 obtain ⟨hop,hfn⟩:=cFine_ok h;have hf:opFind x.op=some (opFls x.op.toNat):=by unfold opFind; rw [if_pos hop]
 have hfl:(opFls x.op.toNat).length≤7:=by
  have:=all_ops (p:=fun o=>decide ((opFls o).length≤7)) kq (o:=x.op.toNat) ((isOp_iff _).2 (by omega));simpa using this
 have h1:=putL_len x ((opFind x.op).getD []) ([UInt8.ofNat x.op.toNat],[]) hfn;have h2:=putL_at x ((opFind x.op).getD []) ([UInt8.ofNat x.op.toNat],[]) hfn (fun e he=>absurd he (List.not_mem_nil));have hl:((opFind x.op).getD []).length≤7:=by rw [hf]; exact hfl
 simp only [List.length_singleton,List.length_nil] at h1;have h3:(cEnc x).1.length≤100000∧(cEnc x).2.length≤100:=by
  show (putL x _ _).1.length≤_∧(putL x _ _).2.length≤_;omega
 exact ⟨h3.1,h3.2,fun e he=>by have:=h2 e he; have h4:(putL x ((opFind x.op).getD []) ([UInt8.ofNat x.op.toNat],[])).1.length≤100000:=h3.1; omega⟩
theorem mdL_len:∀ (l:List In) (s:List UInt8×List (Int×Int)),(∀ x∈l,cFine x=true)→(l.foldl (fun s x=>(s.1++(cEnc x).1,s.2++shR s.1.length (cEnc x).2)) s).1.length≤s.1.length+100000*l.length∧(l.foldl (fun s x=>(s.1++(cEnc x).1,s.2++shR s.1.length (cEnc x).2)) s).2.length≤s.2.length+100*l.length
 | [],s,_=>⟨by simp,by simp⟩
 | x::l,s,h=>by
  have h1:=mdL_len l (s.1++(cEnc x).1,s.2++shR s.1.length (cEnc x).2) (fun y hy=>h y (List.mem_cons_of_mem _ hy));have h2:=cEnc_ok (h x (List.mem_cons_self ..));simp only [List.length_append,shR,List.length_map] at h1;rw [List.foldl_cons,List.length_cons];simp only [shR];omega
theorem mdS_len (l:List In) (h:∀ x∈l,cFine x=true):(mdS l).1.length≤100000*l.length∧(mdS l).2.length≤100*l.length:=by
 have:=mdL_len l ([],[]) h;simp only [List.length_nil,Nat.zero_add] at this;exact this
noncomputable def mdT1:List Item:=skipU 100 [.code (bodyOf Tryz.f80)]
noncomputable def mdT2:List Item:=skipU 100 (skipU 100 [.code (bodyOf Tryz.f80)])
structure MI where
 r:List (Int×Int)
 q:Option Addr
 c:Nat
 i:Nat
structure MB where
 bs:List UInt8
 q:Option Addr
 c:Nat
structure ME where
 s:List UInt8
 re:List (Int×Int)
 q:Option Addr
 c:Nat
section
variable (K:Kc) (l:List (In×IA)) (ql:Option Addr) (cl:Nat) (pr rg:Int)
def mdF:St:=psOf [cdP K,insP l,rowP (ixRow l ql cl false)]
def mdV (qc:Option Addr×Nat):RV:=.v (.agg [.int .i64 pr,.int .i64 rg,.str (mdS (l.map (·.1))).1,.row 0 qc.1 (mdS (l.map (·.1))).2.length qc.2])
noncomputable def mdC (ρ:Nat→Nat) (w:World):Ctx:=⟨Tryz.prog,80,GivesK ρ (mdF K l ql cl) (fun _:Option Addr×Nat=>True) (mdV l pr rg) (rsF (mdS (l.map (·.1))).2) w,touch ρ (mdF K l ql cl),w,ρ,none⟩
def md1N (j:MI):St :=
 { n:=57,slots:=[(4,.v (.one (.ptr 0 0))),(8,.v (.one (.ptr 1 0))),(9,.v (.one (.ptr 2 0))),(10,.v (.one (.ptr 3 0))),(20,.v (.one (.row 1 ql l.length cl))),(21,.v (.one (.int .i64 l.length))),(22,.v (.one (.int .i64 (j.i:Int))))],gs:=[],heap:=[(0,⟨[.val (.map (some K.gF)),.val (.map (some K.gO))],110,true⟩),(1,⟨[.int .i64 0,.int .i64 0,.str [],.val (.slice none 0 0)],49,true⟩),(2,⟨[.int .i64 pr,.int .i64 rg,.str [],.row 0 j.q j.r.length j.c],49,true⟩),(3,⟨[.val (.pointer none),.val (.slice none 0 0)],137,true⟩)],next:=4,
    rows:=[(0,rowL rlv (0,0) j.r j.q j.c 62 2 true),(1,ixRow l ql cl false)],nr:=2,pers:=[cdP K,insP l,rowP (ixRow l ql cl false)],wr:=true,fx:=0 }
def md2N (E:ME) (i:Nat) (j:MI):St :=
 { n:=57,slots:=[(4,.v (.one (.ptr 0 0))),(8,.v (.one (.ptr 1 0))),(9,.v (.one (.ptr 2 0))),(10,.v (.one (.ptr 3 0))),(13,.v (.one (.str E.s))),(20,.v (.one (.row 1 ql l.length cl))),(21,.v (.one (.int .i64 l.length))),(22,.v (.one (.int .i64 (i:Int)))),(32,.v (.one (.row 2 E.q E.re.length E.c))),(33,.v (.one (.int .i64 E.re.length))),(34,.v (.one (.int .i64 (j.i:Int))))],gs:=[],heap:=[(0,⟨[.val (.map (some K.gF)),.val (.map (some K.gO))],110,true⟩),(1,⟨[.int .i64 0,.int .i64 0,.str [],.val (.slice none 0 0)],49,true⟩),(2,⟨[.int .i64 pr,.int .i64 rg,.str [],.row 0 j.q j.r.length j.c],49,true⟩),(3,⟨[.val (.pointer none),.val (.slice none 0 0)],137,true⟩)],next:=4,
    rows:=[(0,rowL rlv (0,0) j.r j.q j.c 62 2 true),(1,ixRow l ql cl false),(2,rowL rlv (0,0) E.re E.q E.c 62 2 true)],nr:=3,pers:=[cdP K,insP l,rowP (ixRow l ql cl false)],wr:=true,fx:=0 }
def md1U (B:MB) (j:MI):St :=
 { n:=57,slots:=[(4,.v (.one (.ptr 0 0))),(8,.v (.one (.ptr 1 0))),(9,.v (.one (.ptr 2 0))),(10,.v (.one (.ptr 3 0))),(20,.v (.one (.row 2 ql l.length cl))),(21,.v (.one (.int .i64 l.length))),(22,.v (.one (.int .i64 (j.i:Int))))],gs:=[],heap:=[(0,⟨[.val (.map (some K.gF)),.val (.map (some K.gO))],110,true⟩),(1,⟨[.int .i64 0,.int .i64 0,.str [],.val (.slice none 0 0)],49,true⟩),(2,⟨[.int .i64 pr,.int .i64 rg,.str [],.row 0 j.q j.r.length j.c],49,true⟩),(3,⟨[.ptr 3 0,.row 1 B.q B.bs.length B.c],137,true⟩)],next:=4,
    rows:=[(0,rowL rlv (0,0) j.r j.q j.c 62 2 true),(1,rowL bsv 0 B.bs B.q B.c 5 1 true),(2,ixRow l ql cl false)],nr:=3,pers:=[cdP K,insP l,rowP (ixRow l ql cl false)],wr:=true,fx:=0 }
def md2U (B:MB) (E:ME) (i:Nat) (j:MI):St :=
 { n:=57,slots:=[(4,.v (.one (.ptr 0 0))),(8,.v (.one (.ptr 1 0))),(9,.v (.one (.ptr 2 0))),(10,.v (.one (.ptr 3 0))),(13,.v (.one (.str E.s))),(20,.v (.one (.row 2 ql l.length cl))),(21,.v (.one (.int .i64 l.length))),(22,.v (.one (.int .i64 (i:Int)))),(32,.v (.one (.row 3 E.q E.re.length E.c))),(33,.v (.one (.int .i64 E.re.length))),(34,.v (.one (.int .i64 (j.i:Int))))],gs:=[],heap:=[(0,⟨[.val (.map (some K.gF)),.val (.map (some K.gO))],110,true⟩),(1,⟨[.int .i64 0,.int .i64 0,.str [],.val (.slice none 0 0)],49,true⟩),(2,⟨[.int .i64 pr,.int .i64 rg,.str [],.row 0 j.q j.r.length j.c],49,true⟩),(3,⟨[.ptr 3 0,.row 1 B.q B.bs.length B.c],137,true⟩)],next:=4,
    rows:=[(0,rowL rlv (0,0) j.r j.q j.c 62 2 true),(1,rowL bsv 0 B.bs B.q B.c 5 1 true),(2,ixRow l ql cl false),(3,rowL rlv (0,0) E.re E.q E.c 62 2 true)],nr:=4,pers:=[cdP K,insP l,rowP (ixRow l ql cl false)],wr:=true,fx:=0 }
end
set_option maxHeartbeats 1000000 in
theorem md_inN (K:Kc) (l:List (In×IA)) (ql:Option Addr) (cl:Nat) (pr rg:Int) (ρ:Nat→Nat) (w:World) (E:ME) (hE:E.re.length≤100∧∀ e∈E.re,0≤e.1∧e.1≤100000) (i:Nat) (r0:List (Int×Int)) (hr0:r0.length≤1000000000)
  (hend:∀ q c,V (mdC K l ql cl pr rg ρ w) ⟨mdT2,md2N K l ql cl pr rg E i ⟨r0++shR 0 E.re,q,c,E.re.length⟩⟩) (j0:MI) (hj0:j0.i≤E.re.length∧j0.r=r0++shR 0 (E.re.take j0.i)) :
  V (mdC K l ql cl pr rg ρ w) ⟨mdT2,md2N K l ql cl pr rg E i j0⟩:=by
 refine V.loopTo (c:=⟨mdT2,md2N K l ql cl pr rg E i j0⟩) [4,8,9,10,13,20,21,22,32,33,34] [0,1,2,3] [0,1,2] [true,true,true] (fun j:MI=>E.re.length - j.i) (md2N K l ql cl pr rg E i) (fun j=>j.i≤E.re.length∧j.r=r0++shR 0 (E.re.take j.i)) j0 kq hj0 (fun j hj ih=>?_);obtain ⟨r,q,c,k⟩:=j;obtain ⟨hk,hr⟩:=hj;simp only at hk hr ih;by_cases hlt:k<E.re.length
 case neg =>
  have hke:k=E.re.length:=by omega
  subst hke;rw [List.take_length] at hr;subst hr;exact hend q c
 refine V.q ?_;refine V.kn 35 (decide ((k:Int)<E.re.length)) true (by simpa using hlt) ?_;have hrl:r.length≤2000000000:=by rw [hr,List.length_append,shR,List.length_map,List.length_take]; omega
 obtain ⟨e,he⟩:∃ e,E.re.getD k (0,0)=e:=⟨_,rfl⟩;have hem:0≤e.1∧e.1≤100000:=by
  refine hE.2 e ?_;rw [← he,List.getD,List.getElem?_eq_getElem hlt];exact List.getElem_mem hlt
 have hw:IntKind.i64.wrap ((([]:List UInt8).length:Int)+(E.re.getD k (0,0)).1)=((0:Nat):Int)+e.1:=by
  rw [he];simp [IntKind.wrap,IntKind.bits,IntKind.signed];omega
 have hnext:r++[(IntKind.i64.wrap ((([]:List UInt8).length:Int)+(E.re.getD k (0,0)).1),(E.re.getD k (0,0)).2)]=r0++shR 0 (E.re.take (k+1)):=by
  rw [hw,he,hr,List.take_add_one,List.getElem?_eq_getElem hlt];rw [List.getD,List.getElem?_eq_getElem hlt] at he;simp only [Option.getD_some] at he;rw [he];simp [shR]
 refine V.t [] [(0:Int)≤k∧(k:Int)<E.re.length] ⟨by omega,by omega⟩ ?_;refine V.drawX [3] [0] 12 kq ?_;refine @VX.run _ [3] [0] 12 _ _ ([]:List (Ent Tryz.prog)) [] kq kq trivial ?_;refine @VX.callR _ [3] [0] 12 _ _ Unit 149 [.one (.ptr 0 0)] bdN _ _ _ [] (blen_new) kq kq kq (fun _=>kq) (fun _ _=>?_);refine @VX.run _ [3] [0] 12 _ _ ([]:List (Ent Tryz.prog)) [] kq kq trivial ?_;refine @VX.push _ [3] [0] 12 _ _ _ rlv (0,0) r (IntKind.i64.wrap ((([]:List UInt8).length:Int)+(E.re.getD k (0,0)).1),(E.re.getD k (0,0)).2) 0 q c 62 2 [.int .i64 (IntKind.i64.wrap ((([]:List UInt8).length:Int)+(E.re.getD k (0,0)).1)),.int .i64 (E.re.getD k (0,0)).2] 16 kq kq kq (by omega) rfl (fun _ _=>kq) (fun q2 c2=>?_);refine @VX.run _ [3] [0] 12 _ _ ([]:List (Ent Tryz.prog)) [] kq kq trivial ?_;refine @VX.stop _ [3] [0] 12 _ _ kq ?_;refine V.q ?_;refine V.up 34 k (by omega) ?_;refine V.iter ?_;exact V.back [4,8,9,10,13,20,21,22,32,33,34] [0,1,2,3] [3,1,2] [true,true,true] (ih ⟨r++[(IntKind.i64.wrap ((([]:List UInt8).length:Int)+(E.re.getD k (0,0)).1),(E.re.getD k (0,0)).2)],q2,c2,k+1⟩ ⟨hlt,hnext⟩ (by simp only; omega)) kq kq
set_option maxHeartbeats 1000000 in
theorem md_inU (K:Kc) (l:List (In×IA)) (ql:Option Addr) (cl:Nat) (pr rg:Int) (ρ:Nat→Nat) (w:World) (B:MB) (hB:B.bs.length≤10000000000000) (E:ME) (hE:E.re.length≤100∧∀ e∈E.re,0≤e.1∧e.1≤100000) (i:Nat) (r0:List (Int×Int)) (hr0:r0.length≤1000000000)
  (hend:∀ q c,V (mdC K l ql cl pr rg ρ w) ⟨mdT2,md2U K l ql cl pr rg B E i ⟨r0++shR B.bs.length E.re,q,c,E.re.length⟩⟩) (j0:MI) (hj0:j0.i≤E.re.length∧j0.r=r0++shR B.bs.length (E.re.take j0.i)) :
  V (mdC K l ql cl pr rg ρ w) ⟨mdT2,md2U K l ql cl pr rg B E i j0⟩:=by
 refine V.loopTo (c:=⟨mdT2,md2U K l ql cl pr rg B E i j0⟩) [4,8,9,10,13,20,21,22,32,33,34] [0,1,2,3] [0,1,2,3] [true,true,true] (fun j:MI=>E.re.length - j.i) (md2U K l ql cl pr rg B E i) (fun j=>j.i≤E.re.length∧j.r=r0++shR B.bs.length (E.re.take j.i)) j0 kq hj0 (fun j hj ih=>?_);obtain ⟨r,q,c,k⟩:=j;obtain ⟨hk,hr⟩:=hj;simp only at hk hr ih;by_cases hlt:k<E.re.length
 case neg =>
  have hke:k=E.re.length:=by omega
  subst hke;rw [List.take_length] at hr;subst hr;exact hend q c
 refine V.q ?_;refine V.kn 35 (decide ((k:Int)<E.re.length)) true (by simpa using hlt) ?_;have hrl:r.length≤2000000000:=by rw [hr,List.length_append,shR,List.length_map,List.length_take]; omega
 obtain ⟨e,he⟩:∃ e,E.re.getD k (0,0)=e:=⟨_,rfl⟩;have hem:0≤e.1∧e.1≤100000:=by
  refine hE.2 e ?_;rw [← he,List.getD,List.getElem?_eq_getElem hlt];exact List.getElem_mem hlt
 have hw:IntKind.i64.wrap ((B.bs.length:Int)+(E.re.getD k (0,0)).1)=((B.bs.length:Nat):Int)+e.1:=by
  rw [he];simp [IntKind.wrap,IntKind.bits,IntKind.signed];omega
 have hnext:r++[(IntKind.i64.wrap ((B.bs.length:Int)+(E.re.getD k (0,0)).1),(E.re.getD k (0,0)).2)]=r0++shR B.bs.length (E.re.take (k+1)):=by
  rw [hw,he,hr,List.take_add_one,List.getElem?_eq_getElem hlt];rw [List.getD,List.getElem?_eq_getElem hlt] at he;simp only [Option.getD_some] at he;rw [he];simp [shR]
 refine V.t [] [(0:Int)≤k∧(k:Int)<E.re.length] ⟨by omega,by omega⟩ ?_;refine V.drawX [3] [0,1] 12 kq ?_;refine @VX.run _ [3] [0,1] 12 _ _ ([]:List (Ent Tryz.prog)) [] kq kq trivial ?_;refine @VX.callR _ [3] [0,1] 12 _ _ Unit 149 [.one (.ptr 0 0)] (bdF B.bs B.q B.c) _ _ _ [] (blen_used B.bs B.q B.c) kq kq kq (fun _=>kq) (fun _ _=>?_);refine @VX.run _ [3] [0,1] 12 _ _ ([]:List (Ent Tryz.prog)) [] kq kq trivial ?_;refine @VX.push _ [3] [0,1] 12 _ _ _ rlv (0,0) r (IntKind.i64.wrap ((B.bs.length:Int)+(E.re.getD k (0,0)).1),(E.re.getD k (0,0)).2) 0 q c 62 2 [.int .i64 (IntKind.i64.wrap ((B.bs.length:Int)+(E.re.getD k (0,0)).1)),.int .i64 (E.re.getD k (0,0)).2] 16 kq kq kq (by omega) rfl (fun _ _=>kq) (fun q2 c2=>?_);refine @VX.run _ [3] [0,1] 12 _ _ ([]:List (Ent Tryz.prog)) [] kq kq trivial ?_;refine @VX.stop _ [3] [0,1] 12 _ _ kq ?_;refine V.q ?_;refine V.up 34 k (by omega) ?_;refine V.iter ?_;exact V.back [4,8,9,10,13,20,21,22,32,33,34] [0,1,2,3] [5,4,2,3] [true,true,true] (ih ⟨r++[(IntKind.i64.wrap ((B.bs.length:Int)+(E.re.getD k (0,0)).1),(E.re.getD k (0,0)).2)],q2,c2,k+1⟩ ⟨hlt,hnext⟩ (by simp only; omega)) kq kq
set_option maxHeartbeats 1000000 in
theorem md_afterN (K:Kc) (l:List (In×IA)) (ql:Option Addr) (cl:Nat) (pr rg:Int) (ρ:Nat→Nat) (w:World) (E:ME) (hE:E.s.length≤100000) (i:Nat) (hi:i<3000000) (r:List (Int×Int)) (q:Option Addr) (c:Nat)
  (hnext:∀ B':MB,B'.bs=E.s→V (mdC K l ql cl pr rg ρ w) ⟨mdT1,md1U K l ql cl pr rg B' ⟨r,q,c,i+1⟩⟩) :
  V (mdC K l ql cl pr rg ρ w) ⟨mdT2,md2N K l ql cl pr rg E i ⟨r,q,c,E.re.length⟩⟩:=by
 refine V.q ?_;refine V.kn 35 (decide ((E.re.length:Int)<E.re.length)) false (by simp) ?_;refine V.q ?_;refine V.c [] (wstr_new E.s (by omega)) (fun x _=>?_);refine V.q ?_;refine V.up 22 i (by omega) ?_;refine V.iter ?_;exact V.back [4,8,9,10,20,21,22] [0,1,2,3] [0,3,1] [true,true,true] (hnext ⟨E.s,x.1,x.2⟩ rfl) kq kq
set_option maxHeartbeats 1000000 in
theorem md_afterU (K:Kc) (l:List (In×IA)) (ql:Option Addr) (cl:Nat) (pr rg:Int) (ρ:Nat→Nat) (w:World) (B:MB) (hB:B.bs.length≤10000000000000) (E:ME) (hE:E.s.length≤100000) (i:Nat) (hi:i<3000000) (r:List (Int×Int)) (q:Option Addr) (c:Nat)
  (hnext:∀ B':MB,B'.bs=B.bs++E.s→V (mdC K l ql cl pr rg ρ w) ⟨mdT1,md1U K l ql cl pr rg B' ⟨r,q,c,i+1⟩⟩) :
  V (mdC K l ql cl pr rg ρ w) ⟨mdT2,md2U K l ql cl pr rg B E i ⟨r,q,c,E.re.length⟩⟩:=by
 refine V.q ?_;refine V.kn 35 (decide ((E.re.length:Int)<E.re.length)) false (by simp) ?_;refine V.q ?_;refine V.c [] (wstr_used B.bs B.q B.c E.s (by omega)) (fun x _=>?_);refine V.q ?_;refine V.up 22 i (by omega) ?_;refine V.iter ?_;exact V.back [4,8,9,10,20,21,22] [0,1,2,3] [0,4,2] [true,true,true] (hnext ⟨B.bs++E.s,x.1,x.2⟩ rfl) kq kq
def okIx (l:List (In×IA)):Prop:=l.length≤2000000∧∀ e∈l,cFine e.1=true∧e.1.okL
theorem ix_at {l:List (In×IA)} (h:okIx l) {i:Nat} (hi:i<l.length):l.getD i ixD∈l∧cFine (l.getD i ixD).1=true∧(l.getD i ixD).1.okL:=by
 have hm:l.getD i ixD∈l:=by
  rw [List.getD,List.getElem?_eq_getElem hi];exact List.getElem_mem hi
 exact ⟨hm,h.2 _ hm⟩
theorem mdS_next {l:List (In×IA)} {i:Nat} (hi:i<l.length):mdS ((l.take (i+1)).map (·.1))=((mdS ((l.take i).map (·.1))).1++(cEnc (l.getD i ixD).1).1,(mdS ((l.take i).map (·.1))).2++shR (mdS ((l.take i).map (·.1))).1.length (cEnc (l.getD i ixD).1).2):=by
 rw [List.take_add_one,List.getElem?_eq_getElem hi,List.map_append,List.getD,List.getElem?_eq_getElem hi];exact mdS_snoc _ _
theorem mdS_small {l:List (In×IA)} (h:okIx l) (i:Nat):(mdS ((l.take i).map (·.1))).1.length≤10000000000000∧(mdS ((l.take i).map (·.1))).2.length≤1000000000:=by
 have h1:=mdS_len ((l.take i).map (·.1)) (fun x hx=>by
  obtain ⟨e,he,rfl⟩:=List.mem_map.1 hx;exact (h.2 e (List.mem_of_mem_take he)).1)
 rw [List.length_map,List.length_take] at h1;have h2:=h.1;omega
set_option maxHeartbeats 1000000 in
theorem md_loopU (K:Kc) (hK:K.ok) (l:List (In×IA)) (hok:okIx l) (ql:Option Addr) (cl:Nat) (pr rg:Int) (ρ:Nat→Nat) (w:World) (j0:MB×MI)
  (hj0:j0.2.i≤l.length∧j0.1.bs=(mdS ((l.take j0.2.i).map (·.1))).1∧j0.2.r=(mdS ((l.take j0.2.i).map (·.1))).2):V (mdC K l ql cl pr rg ρ w) ⟨mdT1,md1U K l ql cl pr rg j0.1 j0.2⟩:=by
 refine V.loopTo (c:=⟨mdT1,md1U K l ql cl pr rg j0.1 j0.2⟩) [4,8,9,10,20,21,22] [0,1,2,3] [0,1,2] [true,true,true] (fun j:MB×MI=>l.length - j.2.i) (fun j=>md1U K l ql cl pr rg j.1 j.2) (fun j=>j.2.i≤l.length∧j.1.bs=(mdS ((l.take j.2.i).map (·.1))).1∧j.2.r=(mdS ((l.take j.2.i).map (·.1))).2) j0 kq hj0 (fun j hj ih=>?_);obtain ⟨B,r,q,c,i⟩:=j;obtain ⟨hi,hB,hr⟩:=hj;simp only at hi hB hr ih;by_cases hlt:i<l.length
 ·refine V.q ?_;refine V.kn 23 (decide ((i:Int)<l.length)) true (by simpa using hlt) ?_;have hix:=ix_at hok hlt;have hfin:=cFine_ok hix.2.1;have hen:=cEnc_ok hix.2.1;have hsm:=mdS_small hok i;refine V.t [] [(0:Int)≤i∧(i:Int)<l.length] ⟨by omega,by omega⟩ ?_;refine V.pickP 1 (l.map fun e=>manyP (lsP e.1 e.2)) (manyP (lsP (l.getD i ixD).1 (l.getD i ixD).2)) kq (List.mem_map.2 ⟨_,hix.1,rfl⟩) (manyP_stab (lsP_stab _ _)) ?_;refine V.pickP 0 (lsP (l.getD i ixD).1 (l.getD i ixD).2) (rowP (rowF (l.getD i ixD).1 (l.getD i ixD).2)) kq (List.mem_cons_self ..) (rowP_stab _) ?_;refine V.pickP 1 (lsP (l.getD i ixD).1 (l.getD i ixD).2) (rowP (rowI (l.getD i ixD).1 (l.getD i ixD).2)) kq (List.mem_cons_of_mem _ (List.mem_cons_self ..)) (rowP_stab _) ?_;refine V.pickP 2 (lsP (l.getD i ixD).1 (l.getD i ixD).2) (rowP (rowT (l.getD i ixD).1 (l.getD i ixD).2)) kq (List.mem_cons_of_mem _ (List.mem_cons_of_mem _ (List.mem_cons_self ..))) (rowP_stab _) ?_;refine V.c [(4,false),(2,false),(1,false),(0,false)] (cEncode K hK (l.getD i ixD).1 (l.getD i ixD).2 hix.2.2 hfin.1 hfin.2) (fun qc _=>?_);refine V.q ?_;refine V.iter ?_;refine V.backK [4,8,9,10,13,20,21,22,32,33,34] [false,false,false,false,true,true,true] (md_inU K l ql cl pr rg ρ w B (by rw [hB]; exact hsm.1) ⟨(cEnc (l.getD i ixD).1).1,(cEnc (l.getD i ixD).1).2,qc.1,qc.2⟩ ⟨hen.2.1,hen.2.2⟩ i r (by rw [hr]; exact hsm.2) (fun q2 c2=>?_) ⟨r,q,c,0⟩ ⟨Nat.zero_le _,by simp [shR]⟩) kq kq;refine md_afterU K l ql cl pr rg ρ w B (by rw [hB]; exact hsm.1) _ hen.1 i (by have:=hok.1; omega) _ q2 c2 (fun B' hB'=>?_);refine ih (B',⟨_,q2,c2,i+1⟩) ⟨hlt,?_,?_⟩ (by simp only; omega)
  ·simp only;rw [hB',mdS_next hlt,hB]
  ·simp only;rw [mdS_next hlt,hr,hB]
 ·have hle:i=l.length:=by omega
  have hsm:=mdS_small hok i;rw [← hB] at hsm;subst hle;rw [List.take_length] at hB hr;obtain ⟨bs,q1,c1⟩:=B;simp only at hB hsm;subst hB hr;refine V.q ?_;refine V.kn 23 (decide ((l.length:Int)<l.length)) false (by simp) ?_;refine V.q ?_;refine V.c [] (bstr_used (mdS (l.map (·.1))).1 q1 c1 (by omega)) (fun _ _=>?_);refine V.q ?_;unfold mdC;exact V.e ((q,c):Option Addr×Nat) [] trivial
set_option maxHeartbeats 1000000 in
theorem md_start (K:Kc) (hK:K.ok) (l:List (In×IA)) (hok:okIx l) (ql:Option Addr) (cl:Nat) (pr rg:Int) (ρ:Nat→Nat) (w:World):V (mdC K l ql cl pr rg ρ w) ⟨mdT1,md1N K l ql cl pr rg ⟨[],none,0,0⟩⟩:=by
 by_cases hlt:0<l.length
 ·obtain ⟨i,hi0⟩:∃ i:Nat,i=0:=⟨0,rfl⟩;rw [← hi0] at hlt;refine V.q ?_;refine V.kn 23 (decide (((0:Nat):Int)<l.length)) true (by rw [hi0] at hlt; simpa using hlt) ?_;subst hi0;have hix:=ix_at hok hlt;have hfin:=cFine_ok hix.2.1;have hen:=cEnc_ok hix.2.1;have hsm:=mdS_small hok 0;refine V.t [] [(0:Int)≤((0:Nat):Int)∧((0:Nat):Int)<l.length] ⟨by omega,by omega⟩ ?_;refine V.pickP 1 (l.map fun e=>manyP (lsP e.1 e.2)) (manyP (lsP (l.getD 0 ixD).1 (l.getD 0 ixD).2)) kq (List.mem_map.2 ⟨_,hix.1,rfl⟩) (manyP_stab (lsP_stab _ _)) ?_;refine V.pickP 0 (lsP (l.getD 0 ixD).1 (l.getD 0 ixD).2) (rowP (rowF (l.getD 0 ixD).1 (l.getD 0 ixD).2)) kq (List.mem_cons_self ..) (rowP_stab _) ?_;refine V.pickP 1 (lsP (l.getD 0 ixD).1 (l.getD 0 ixD).2) (rowP (rowI (l.getD 0 ixD).1 (l.getD 0 ixD).2)) kq (List.mem_cons_of_mem _ (List.mem_cons_self ..)) (rowP_stab _) ?_;refine V.pickP 2 (lsP (l.getD 0 ixD).1 (l.getD 0 ixD).2) (rowP (rowT (l.getD 0 ixD).1 (l.getD 0 ixD).2)) kq (List.mem_cons_of_mem _ (List.mem_cons_of_mem _ (List.mem_cons_self ..))) (rowP_stab _) ?_;refine V.c [(4,false),(2,false),(1,false),(0,false)] (cEncode K hK (l.getD 0 ixD).1 (l.getD 0 ixD).2 hix.2.2 hfin.1 hfin.2) (fun qc _=>?_);refine V.q ?_;refine V.iter ?_;refine V.backK [4,8,9,10,13,20,21,22,32,33,34] [false,false,false,false,true,true,true] (md_inN K l ql cl pr rg ρ w ⟨(cEnc (l.getD 0 ixD).1).1,(cEnc (l.getD 0 ixD).1).2,qc.1,qc.2⟩ ⟨hen.2.1,hen.2.2⟩ 0 [] (Nat.zero_le _) (fun q2 c2=>?_) ⟨[],none,0,0⟩ ⟨Nat.zero_le _,by simp [shR]⟩) kq kq;refine md_afterN K l ql cl pr rg ρ w _ hen.1 0 (by have:=hok.1; omega) _ q2 c2 (fun B' hB'=>?_);refine md_loopU K hK l hok ql cl pr rg ρ w (B',⟨_,q2,c2,0+1⟩) ⟨hlt,?_,?_⟩
  ·simp only;rw [hB',mdS_next hlt];rfl
  ·simp only;rw [mdS_next hlt];rfl
 ·have hl:l=[]:=List.eq_nil_of_length_eq_zero (by omega);subst hl;refine V.q ?_;refine V.kn 23 (decide (((0:Nat):Int)<(([]:List (In×IA)).length:Int))) false (by simp) ?_;refine V.q ?_;refine V.c [] bstr_new (fun _ _=>?_);refine V.q ?_;unfold mdC;exact V.e ((none,0):Option Addr×Nat) [] trivial
theorem cModule (K:Kc) (hK:K.ok) (l:List (In×IA)) (hok:okIx l) (ql:Option Addr) (cl:Nat) (pr rg:Int) :
  CallsK Tryz.prog 80 [.agg [.val (.map (some K.gF)),.val (.map (some K.gO))],.one (.int .i64 pr),.one (.int .i64 rg),.one (.val (.slice ql l.length cl))] (mdF K l ql cl) (fun _:Option Addr×Nat=>True) (mdV l pr rg) (rsF (mdS (l.map (·.1))).2):=by
 refine CallsK.m true Tryz.func80 (fun ρ w=>?_);refine V.q ?_;refine V.ar 20 2 (ixRow l ql cl false) ?_;refine V.nilB rlv (0,0) 2 3 ⟨[.int .i64 pr,.int .i64 rg,.str [],.val (.slice none 0 0)],49,true⟩ 62 2 kq rfl ?_;refine V.iter ?_;exact V.backK [4,8,9,10,20,21,22] [true,true,true] (md_start K hK l hok ql cl pr rg ρ w) kq kq
end Go.Proofs
end
section
namespace Go.SX
open Go
section
variable {C:Ctx} {T TR:List Nat} {L:Nat} {c0:Cfg} {d:DCfg}
theorem Sat.freeze {ρ:Nat→Nat} {s:St} {a:Act} {w:World} (hS:Sat C ρ s a w) (r:Nat) (R:Row) (hR:look s.rows r=some R) (ho:(R.own&&R.obj.isNone)=true):Sat C ρ (s.froze r (newP C.w0.heap.size C.S (rowP R.lent))) a w:=by
 rw [Bool.and_eq_true] at ho;obtain ⟨ho,hob⟩:=ho;have hob:R.obj=none:=by simpa using hob
 obtain ⟨r1,r2,r3⟩:=hS.rows r R hR;have huse:∀ k,R.lent.uses k→R.uses k:=by
  rintro k ⟨ad,h1,h2,h3⟩;refine ⟨ad,h1,h2,.inl ho⟩
 have hok:R.lent.ok w:=⟨r2.len,r2.addr,(fun e=>by cases e),(fun o e=>by rw [show R.lent.obj=R.obj from rfl,hob] at e; cases e)⟩;have hle:s.W.le (s.froze r (newP C.w0.heap.size C.S (rowP R.lent))).W:=⟨Nat.le_refl _,Nat.le_refl _,fun q _ Q hQ=>(look_eraseK hQ).2⟩;refine ⟨hS.n,?_,?_,?_,hS.inj,hS.lt,hS.defers,hS.chg,?_,?_,?_,hS.fix⟩
 ·intro i v hv;simp only [St.froze,look_mapK] at hv;obtain ⟨u,hu,rfl⟩:=Option.map_eq_some_iff.1 hv;obtain ⟨k1,k2⟩:=hS.slots i u hu;exact ⟨by rw [RV.froze_den]; exact k1,RV.froze_wf hle u k2⟩
 ·intro i g pol b x hv;simp only [St.froze,look_mapK] at hv ⊢;obtain ⟨u,hu,hu'⟩:=Option.map_eq_some_iff.1 hv;cases u with
  | grd g' pol' b' x' =>
   simp only [RV.froze,RV.grd.injEq] at hu';obtain ⟨rfl,rfl,rfl,rfl⟩:=hu';obtain ⟨k1,k2⟩:=hS.grds i _ _ _ _ hu;exact ⟨k1,by rw [k2]; rfl⟩
  | v x=>cases hu'
  | tup x=>cases hu'
 ·intro b blk hb;simp only [St.froze,look_mapK] at hb;obtain ⟨u,hu,rfl⟩:=Option.map_eq_some_iff.1 hb;obtain ⟨k1,k2,k3,k4⟩:=hS.heap b u hu;refine ⟨k1,?_,?_,k4⟩
  ·have:(u.cells.map (SV.froze r)).map (SV.den ρ)=u.cells.map (SV.den ρ):=by rw [List.map_map]; exact List.map_congr_left fun x _=>SV.froze_den x
   simp only [this]; exact k2
  ·intro x hx; obtain ⟨y,hy,rfl⟩:=List.mem_map.1 hx; exact SV.froze_wf hle y (k3 y hy)
 ·intro q Q hQ;obtain ⟨_,h2⟩:=look_eraseK hQ;exact hS.rows q Q h2
 ·intro q q' Q Q' h1 h2;exact hS.rowsD q q' Q Q' (look_eraseK h1).2 (look_eraseK h2).2
 ·intro p hp;rcases List.mem_cons.1 hp with rfl | hp
  ·have hpure:∀ k,(rowP R.lent).D k→C.w0.heap.size≤k∨C.S k:=fun k hk=>(r3 k (huse k hk)).2.2 ho;refine ⟨⟨hok,hpure⟩,fun w2 hw2=>⟨hok.congr hw2,hpure⟩,fun k hk=>?_⟩;obtain ⟨q1,q2,q3⟩:=r3 k (huse k hk);refine ⟨q1,q2,fun q Q hQ hQo hu=>?_⟩;obtain ⟨hne,h2⟩:=look_eraseK hQ;exact hS.rowsD r q R Q hR h2 (fun e=>hne e.symm) ho k (huse k hk) hu
  ·obtain ⟨p1,p2,p3⟩:=hS.pers p hp;exact ⟨p1,p2,fun k hk=>⟨(p3 k hk).1,(p3 k hk).2.1,fun q Q hQ=>(p3 k hk).2.2 q Q (look_eraseK hQ).2⟩⟩
theorem VX.freeze (r:Nat) (R:Row) (hR:look d.st.rows r=some R) (ho:(R.own&&R.obj.isNone)=true) (hr:Nat.ble c0.st.nr r=true)
  (h:VX C T TR L c0 ⟨d.fuel,d.listed,d.st.froze r (newP C.w0.heap.size C.S (rowP R.lent))⟩):VX C T TR L c0 d:=by
 intro D hD a1 a2 a3 a4 a5 a6 hL hsel aT aTR hlt hrw ρ a w hS hρ hn0 hch hcl hsz;have hr':c0.st.nr≤r:=Nat.le_of_ble_eq_true hr;refine h D hD a1 a2 a3 a4 a5 a6 hL hsel aT aTR hlt ⟨fun q Q hQ=>?_,hrw.2.trans' ⟨Nat.le_refl _,Nat.le_refl _,fun q _ Q hQ=>(look_eraseK hQ).2⟩⟩ ρ a w (hS.freeze r R hR ho) hρ hn0 hch hcl hsz;have h1:=hrw.1 q Q hQ;rw [a3] at hQ;have h2:=hlt q Q (look_heldOf' hQ).2;show look (eraseK r d.st.rows) q=some Q;rw [look_eraseK_ne (by omega)];exact h1
end
end Go.SX
end
section
namespace Go.Proofs
open Go Go.SX
set_option maxRecDepth 10000
def tgS (x:In):List Int:=if x.op=14∨x.op=15 then [x.n] else if x.op=28∨x.op=29 then [x.m] else []
def oneF (n:Int):St:={ noF with heap:=[(0,⟨[.int .i64 n],3,true⟩)],next:=1 }
theorem cTgtN (x:In) (A:IA) (h:x.op=14∨x.op=15):CallsK Tryz.prog 136 [.agg (inV x A)] noF (fun _:Unit=>True) (fun _=>.v (.one (.sli 0 1 1))) (fun _=>oneF x.n):=by
 refine CallsK.m true Tryz.func136 (fun ρ w=>?_);refine V.q ?_;by_cases h1:x.op=14
 ·refine V.kn 5 (x.op==14) true (by simp [h1]) ?_;refine V.q ?_;exact V.z
 ·have h2:x.op=15:=by omega
  refine V.kn 5 (x.op==14) false (by simp [h2]) ?_;refine V.q ?_;refine V.kn 5 (x.op==15) true (by simp [h2]) ?_;refine V.q ?_;exact V.z
theorem cTgtM (x:In) (A:IA) (h:x.op=28∨x.op=29):CallsK Tryz.prog 136 [.agg (inV x A)] noF (fun _:Unit=>True) (fun _=>.v (.one (.sli 0 1 1))) (fun _=>oneF x.m):=by
 refine CallsK.m true Tryz.func136 (fun ρ w=>?_);refine V.q ?_;refine V.kn 5 (x.op==14) false (by rcases h with h | h<;>simp [h]) ?_;refine V.q ?_;refine V.kn 5 (x.op==15) false (by rcases h with h | h<;>simp [h]) ?_;refine V.q ?_;by_cases h1:x.op=28
 ·refine V.kn 11 (x.op==28) true (by simp [h1]) ?_;refine V.q ?_;exact V.z
 ·have h2:x.op=29:=by omega
  refine V.kn 11 (x.op==28) false (by simp [h2]) ?_;refine V.q ?_;refine V.kn 11 (x.op==29) true (by simp [h2]) ?_;refine V.q ?_;exact V.z
theorem cTgt0 (x:In) (A:IA) (h:¬ (x.op=14∨x.op=15)) (h':¬ (x.op=28∨x.op=29)):CallsK Tryz.prog 136 [.agg (inV x A)] noF (fun _:Unit=>True) (fun _=>.v (.one (.val (.slice none 0 0)))) (fun _=>noF):=by
 refine CallsK.m true Tryz.func136 (fun ρ w=>?_);refine V.q ?_;refine V.kn 5 (x.op==14) false (by simp; omega) ?_;refine V.q ?_;refine V.kn 5 (x.op==15) false (by simp; omega) ?_;refine V.q ?_;refine V.kn 11 (x.op==28) false (by simp; omega) ?_;refine V.q ?_;refine V.kn 11 (x.op==29) false (by simp; omega) ?_;refine V.q ?_;exact V.z
theorem cBs (p:List Int) (q:Option Addr) (c:Nat) (x:Int) (hp:0<p.length) (hl:p.length<4611686018427387904) (hs:p.Pairwise (· ≤ ·)) :
  CallsK Tryz.prog 137 [.one (.val (.slice q p.length c)),.one (.int .i64 x)] (stP [rowP (rowL intv 0 p q c 3 1 false)]) (fun _:Unit=>True) (fun _=>.tup [.one (.int .i64 (p.countP (· < x):Nat)),.one (.sb (p.contains x))]) (fun _=>stP []):=by
 refine CallsK.ofGives rfl (fun ρ w hps=>?_);have hok:(rowL intv 0 p q c 3 1 false).ok w:=(hps _ (List.mem_singleton.2 rfl)).1;obtain ⟨b,off,h1,h2⟩:=hok.addr hp;have h1':q=some ⟨b,off,none⟩:=h1;subst h1';have h3:=Tryz.slices_BinarySearch_int b off p.length c p x w (Nat.le_refl _) hl (fun j hj=>by
  have h4:w.cell? ⟨b,off+(j*1+0),none⟩=some (SV.den0 (.int .i64 (p.getD j 0))):=h2 j 0 _ hj rfl;rw [Nat.mul_one,Nat.add_zero] at h4;exact h4) (by rw [List.take_length]; exact hs)
 rw [List.take_length] at h3;exact h3.mono fun e w' ⟨e1,k,e2⟩=>⟨e1,by rw [e2]; exact chg_drewN w k⟩
theorem rdL_lens (rl:List (Int×Int)) (X:RIn):∀ (l:List Fl) (s:RSt×In),okIn X s.1→(rdL rl X l s).2.f.length≤s.2.f.length+16*l.length∧(rdL rl X l s).2.l.length≤s.2.l.length+16*l.length∧(rdL rl X l s).2.y.length≤s.2.y.length+16*l.length
 | [],s,h=>⟨Nat.le_refl _,Nat.le_refl _,Nat.le_refl _⟩
 | f::l,s,h=>by
  have e:rdL rl X (f::l) s=rdL rl X l (if s.1.bad=true then s else f.rd rl X s.1 s.2):=rfl;rw [e,List.length_cons];split
  ·have:=rdL_lens rl X l s h;omega
  ·have h1:=rd_ok f (rl:=rl) (x:=s.2) h;have:=rdL_lens rl X l (f.rd rl X s.1 s.2) h1.1;omega
theorem opFind_len (n:Int):((opFind n).getD []).length≤7:=by
 unfold opFind;split
 ·rename_i h;have:=all_ops (p:=fun o=>decide ((opFls o).length≤7)) kq (o:=n.toNat) ((isOp_iff _).2 (by omega));simpa using this
 ·exact Nat.zero_le _
theorem cDecR_okL (rl:List (Int×Int)) (X:RIn) (n:Nat) (hok:okIn X ⟨n,false⟩):(cDecR rl X n).2.okL:=by
 have h1:=rdL_lens rl X ((opFind ((takeB X ⟨n,false⟩).1.toNat:Int)).getD []) ((takeB X ⟨n,false⟩).2,emptyI ((takeB X ⟨n,false⟩).1.toNat:Int)) (takeB_ok hok);have h2:=opFind_len ((takeB X ⟨n,false⟩).1.toNat:Int);have h3:(cDecR rl X n).2.f.length≤0+16*_∧(cDecR rl X n).2.l.length≤0+16*_∧(cDecR rl X n).2.y.length≤0+16*_:=h1;exact ⟨by omega,by omega,by omega⟩
theorem cDecOk_fine {rl:List (Int×Int)} {X:RIn} {n:Nat} (h:cDecOk rl X n=true):cFine (cDecR rl X n).2=true:=by
 unfold cDecOk at h;rw [Bool.and_eq_true] at h;exact h.2
structure TkOk (X:RIn) (n:Nat) (s:List In×List Int):Prop where
 fine:∀ x∈s.1,cFine x=true∧x.okL
 up:s.2.Pairwise (· ≤ ·)
 gt:∀ m∈s.2,(n:Int)<m
 len:s.1.length+n≤X.s.length
 same:s.2.length=s.1.length
theorem tkS_ok (rl:List (Int×Int)) (X:RIn):∀ (k n:Nat) (s:List In×List Int),okIn X ⟨n,false⟩→tkS rl X k n=some s→TkOk X n s
 | 0,n,s,_,h=>by cases h
 | k+1,n,s,hok,h=>by
  rw [tkS_succ] at h;split at h
  ·rename_i hlt;split at h
   ·rename_i hd;obtain ⟨s',hs',rfl⟩:=Option.map_eq_some_iff.1 h;have hnx:=cDecR_next rl X n hok hlt;have ih:=tkS_ok rl X k (cDecR rl X n).1.at_ s' ⟨hnx.2.1,hnx.2.2⟩ hs';refine ⟨fun x hx=>?_,List.pairwise_cons.2 ⟨fun m hm=>by have:=ih.gt m hm; omega,ih.up⟩,fun m hm=>?_,?_,?_⟩
    ·rcases List.mem_cons.1 hx with rfl | hx
     ·exact ⟨cDecOk_fine hd,cDecR_okL rl X n hok⟩
     ·exact ih.fine x hx
    ·rcases List.mem_cons.1 hm with rfl | hm
     ·have:=hnx.1; omega
     ·have h1:=ih.gt m hm;have h2:=hnx.1;omega
    ·have h1:=ih.len;have h2:=hnx.1;simp only [List.length_cons];omega
    ·simp only [List.length_cons,ih.same]
   ·cases h
  ·cases h;refine ⟨fun x hx=>absurd hx (List.not_mem_nil),List.Pairwise.nil,fun m hm=>absurd hm (List.not_mem_nil),?_,rfl⟩;have:=hok.2;simp only at this;simp only [List.length_nil];omega
theorem takenS_ok {rl:List (Int×Int)} {X:RIn} (hs:X.s.length≤1000000000) {s:List In×List Int} (h:takenS rl X=some s):(∀ x∈s.1,cFine x=true∧x.okL)∧s.2.Pairwise (· ≤ ·)∧0<s.2.length∧s.1.length≤X.s.length∧s.2.length=s.1.length+1:=by
 unfold takenS at h;obtain ⟨s',hs',rfl⟩:=Option.map_eq_some_iff.1 h;have ih:=tkS_ok rl X _ 0 s' ⟨hs,Nat.zero_le _⟩ hs';exact ⟨ih.fine,List.pairwise_cons.2 ⟨fun m hm=>by have:=ih.gt m hm; omega,ih.up⟩,Nat.succ_pos _,ih.len,by simp only [List.length_cons,ih.same]⟩
def vdB (X:RIn) (pr rg:Int):Bool:=decide (pr<0)||decide (pr>63)||decide (rg<0)||decide (rg>4000)||decide ((X.s.length:Int)>1048576)
def vdS (rl:List (Int×Int)) (X:RIn) (pr rg:Int):Option (List In×List Int) :=
 if vdB X pr rg=true then none else match takenS rl X with
  | none=>none
  | some s=>if (eqL eqR (mdS s.1).2 rl&&s.1.all (fun x=>(tgS x).all (fun n=>s.2.contains n)))=true then some s else none
def vdV (t:Option TK):RV:=match t with
 | none=>.tup [.one (.val (.slice none 0 0)),.one (.val (.slice none 0 0)),.one (.sb false)]
 | some t=>.tup [.one (.val (.slice t.q t.l.length t.c)),.one (.val (.slice t.q' t.p.length t.c')),.one (.sb true)]
def vdF (t:Option TK):St:=match t with
 | none=>noF
 | some t=>psOf [insP t.l,rowP (ixRow t.l t.q t.c false),rowP (rowL intv 0 t.p t.q' t.c' 3 1 false)]
def vdSt (n0:Nat) (S:Nat→Prop) (t:TK) (i:Nat):St :=
 { n:=88,slots:=[(7,.v (.one (.val (.slice t.q t.l.length t.c)))),(8,.v (.one (.val (.slice t.q' t.p.length t.c')))),(63,.v (.one (.row 0 t.q t.l.length t.c))),(64,.v (.one (.int .i64 t.l.length))),(65,.v (.one (.int .i64 (i:Int))))],gs:=[],heap:=[],next:=0,
    rows:=[(0,ixRow t.l t.q t.c false)],nr:=1,pers:=[newP n0 S (rowP (rowL intv 0 t.p t.q' t.c' 3 1 false)),newP n0 S (rowP (ixRow t.l t.q t.c false)),newP n0 S (insP t.l)],wr:=true,fx:=0 }
theorem vd_bad {l:List (In×IA)} {p:List Int} {r:Option (List In×List Int)} {i:Nat} (h:r=if (l.map (·.1)).all (fun x=>(tgS x).all (fun n=>p.contains n))=true then some (l.map (·.1),p) else none) (hi:i<l.length)
  (hb:(tgS (l.getD i ixD).1).all (fun n=>p.contains n)=false):tkP r none:=by
 rw [h,if_neg]
 ·rfl
 ·rw [Bool.not_eq_true,List.all_map];exact all_at hi ixD hb
theorem vd_good {t:TK} {r:Option (List In×List Int)} (h:r=if (t.l.map (·.1)).all (fun x=>(tgS x).all (fun n=>t.p.contains n))=true then some (t.l.map (·.1),t.p) else none)
  (hb:t.l.all (fun e=>(tgS e.1).all (fun n=>t.p.contains n))=true):tkP r (some t):=by
 rw [h,if_pos]
 ·exact ⟨t,rfl,rfl,rfl⟩
 ·rw [List.all_map];exact hb
theorem _root_.Go.SX.V.capLe {C:Ctx} (r:Nat) (R:Row) {c:Cfg} (hR:SX.look c.st.rows r=some R) (ho:R.own=true) (hb:R.obj=none) (h:R.n≤R.cap→V C c):V C c:=by
 intro ρ a w hS;have hok:R.ok w:=(hS.rows r R hR).2.1;obtain ⟨_,h1 | ⟨g,cap,cur,e,_,_,hle,_⟩⟩:=hok.own ho hb
 ·refine h ?_ ρ a w hS;rw [h1.2];exact Nat.zero_le _
 ·refine h ?_ ρ a w hS;have:R.cap=cap:=(Value.slice.inj e).2.2;rw [this];exact hle
def tkPc (r:Option (List In×List Int)) (t:Option TK):Prop:=tkP r t∧∀ t',t=some t'→t'.p.length≤t'.c'
theorem tkPc_none {r:Option (List In×List Int)} (h:tkP r none):tkPc r none:=⟨h,fun t' e=>by cases e⟩
theorem tkPc_some {r:Option (List In×List Int)} {t:TK} (h:tkP r (some t)) (hc:t.p.length≤t.c'):tkPc r (some t):=⟨h,fun t' e=>by cases e; exact hc⟩
set_option maxHeartbeats 2000000 in
theorem cValidA (K:Kc) (hK:K.ok) (rl:List (Int×Int)) (X:RIn) (hX:X.n=rl.length) (hl:rl.length≤1000000000) (pr rg:Int) :
  CallsK Tryz.prog 71 [.agg [.val (.map (some K.gF)),.val (.map (some K.gO))],.agg [.int .i64 pr,.int .i64 rg,.str X.s,.val (.slice X.q X.n X.c)]] (psOf [cdP K,rowP (relRow rl X.q X.c)]) (tkPc (vdS rl X pr rg)) vdV vdF:=by
 refine CallsK.m true Tryz.func71 (fun ρ w=>?_);refine V.q ?_;refine V.bn 39 (vdB X pr rg) (fun hb=>?_) (fun hb=>?_)
 ·refine V.q ?_;refine V.sb 6 false ?_;exact V.e (none:Option TK) [] (tkPc_none (by unfold vdS; rw [if_pos hb]; rfl))
 have hvd:vdS rl X pr rg=match takenS rl X with
  | none=>none
  | some s=>if (eqL eqR (mdS s.1).2 rl&&s.1.all (fun x=>(tgS x).all (fun n=>s.2.contains n)))=true then some s else none:=by
  unfold vdS; rw [if_neg (by rw [hb]; decide)]
 have hs2:X.s.length≤1048576:=by
  unfold vdB at hb;simp at hb;omega
 refine V.q ?_;refine V.callK [(0,false),(1,false)] (cTaken K hK rl X hX hl (by omega) pr rg) kq kq kq (fun t=>by cases t<;>kernel_rfl) (fun t ht=>?_);cases t with
 | none =>
  have hno:takenS rl X=none:=by
   cases h:takenS rl X with
   | none=>rfl
   | some s=>rw [h] at ht; obtain ⟨t',e,_⟩:=ht; cases e
  refine V.q ?_;refine V.s 9 (.one (.sb false)) (.one (.bool false)) (fun _=>rfl) ?_;refine V.q ?_;refine V.sb 6 false ?_;exact V.e (none:Option TK) [] (tkPc_none (by rw [hvd,hno]; rfl))
 | some t =>
  obtain ⟨s,hsome,ht1,ht2⟩:∃ s,takenS rl X=some s∧t.l.map (·.1)=s.1∧t.p=s.2:=by
   cases h:takenS rl X with
   | none=>rw [h] at ht; cases ht
   | some s=>rw [h] at ht; obtain ⟨t',e,h1,h2⟩:=ht; cases e; exact ⟨s,rfl,h1,h2⟩
  obtain ⟨g1,g2,g3,g4,g5⟩:=takenS_ok (by omega) hsome;rw [← ht1] at g1 g4 g5;rw [← ht2] at g2 g3 g5;rw [List.length_map] at g4 g5;have hok:okIx t.l:=⟨by omega,fun e he=>g1 e.1 (List.mem_map.2 ⟨e,he,rfl⟩)⟩;rw [hsome] at hvd;obtain ⟨s1,s2⟩:=s;simp only at hvd ht1 ht2;subst ht1 ht2;refine V.q ?_;refine V.s 9 (.one (.sb true)) (.one (.bool true)) (fun _=>rfl) ?_;refine V.capLe 1 (rowL intv 0 t.p t.q' t.c' 3 1 true) kq rfl rfl (fun hcap=>?_);refine V.freeze 0 (ixRow t.l t.q t.c true) kq kq ?_;refine V.freeze 1 (rowL intv 0 t.p t.q' t.c' 3 1 true) kq kq ?_;refine V.drawX [] [] 16 kq ?_;refine @VX.run _ [] [] 16 _ _ ([]:List (Ent Tryz.prog)) [] kq kq trivial ?_;refine @VX.callK _ [] [] 16 _ _ (Option Addr×Nat) 80 [.agg [.val (.map (some K.gF)),.val (.map (some K.gO))],.one (.int .i64 pr),.one (.int .i64 rg),.one (.val (.slice t.q t.l.length t.c))] (mdF K t.l t.q t.c) _ _ _ [(3,false),(2,true),(1,true)] (cModule K hK t.l hok t.q t.c pr rg) kq kq kq (fun _=>kq) (fun qc _=>?_);refine @VX.run _ [] [] 16 _ _ ([]:List (Ent Tryz.prog)) [] kq kq trivial ?_;have hmd:=mdS_len (t.l.map (·.1)) (fun x hx=>(g1 x hx).1);rw [List.length_map] at hmd;refine @VX.freeze _ [] [] 16 _ _ 2 (rowL rlv (0,0) (mdS (t.l.map (·.1))).2 qc.1 qc.2 62 2 true) kq kq kq ?_;refine @VX.callK _ [] [] 16 _ _ Unit 36 [.one (.val (.slice qc.1 (mdS (t.l.map (·.1))).2.length qc.2)),.one (.val (.slice X.q X.n X.c))] (psOf [rowP (rowL rlv (0,0) (mdS (t.l.map (·.1))).2 qc.1 qc.2 62 2 false),rowP (rowL rlv (0,0) rl X.q X.c 62 2 false)]) _ _ _ [(0,true),(5,false)] ((cEqR (mdS (t.l.map (·.1))).2 rl qc.1 X.q qc.2 X.c (by omega)).args _ (fun ρ=>by rw [hX])) kq kq kq (fun _=>kq) (fun _ _=>?_);refine @VX.run _ [] [] 16 _ _ ([]:List (Ent Tryz.prog)) [] kq kq trivial ?_;refine @VX.stop _ [] [] 16 _ _ kq ?_;refine V.q ?_;refine V.bn 62 (!(eqL eqR (mdS (t.l.map (·.1))).2 rl)) (fun he=>?_) (fun he=>?_)
  ·refine V.q ?_;refine V.sb 6 false ?_;exact V.e (none:Option TK) [] (tkPc_none (by
    have he':eqL eqR (mdS (t.l.map (·.1))).2 rl=false:=by simpa using he
    rw [hvd,he',Bool.false_and]; rfl))
  have he':eqL eqR (mdS (t.l.map (·.1))).2 rl=true:=by simpa using he
  rw [he',Bool.true_and] at hvd;refine V.q ?_;refine V.persAs [(2,true)] [rowP (ixRow t.l t.q t.c false)] (rowP (ixRow t.l t.q t.c false)) kq (fun k hk=>⟨_,List.mem_singleton.2 rfl,hk⟩) (fun w hw=>hw _ (List.mem_singleton.2 rfl)) (rowP_stab _) ?_;refine V.ar 63 0 (ixRow t.l t.q t.c false) ?_;refine V.loopK [7,8,63,64,65] [false,false,true,true,true] (fun i:Nat=>t.l.length - i) (vdSt w.heap.size (touch ρ (psOf [cdP K,rowP (relRow rl X.q X.c)])) t) (fun i=>i≤t.l.length∧(t.l.take i).all (fun e=>(tgS e.1).all (fun n=>t.p.contains n))=true) 0 kq ⟨Nat.zero_le _,rfl⟩ (fun i hi ih=>?_);obtain ⟨hi,hall⟩:=hi;refine V.iter ?_;by_cases hlt:i<t.l.length
  ·refine V.q ?_;refine V.kn 66 (decide ((i:Int)<t.l.length)) true (by simpa using hlt) ?_;refine V.t [] [(0:Int)≤i∧(i:Int)<t.l.length] ⟨by omega,by omega⟩ ?_;by_cases hA:(t.l.getD i ixD).1.op=14∨(t.l.getD i ixD).1.op=15
   ·have htg:tgS (t.l.getD i ixD).1=[(t.l.getD i ixD).1.n]:=by unfold tgS; rw [if_pos hA]
    refine V.c [] (cTgtN (t.l.getD i ixD).1 (t.l.getD i ixD).2 hA) (fun _ _=>?_);refine V.q ?_;refine V.iter ?_;refine V.q ?_;refine V.kn 73 (decide ((0:Int)<((1:Nat):Int))) true (by decide) ?_;refine V.t [] [(0:Int)≤0∧(0:Int)<((1:Nat):Int)] ⟨by decide,by decide⟩ ?_;refine V.c [(0,true)] (cBs t.p t.q' t.c' (t.l.getD i ixD).1.n g3 (by omega) g2) (fun _ _=>?_);refine V.q ?_;refine V.bn 83 (!(t.p.contains (t.l.getD i ixD).1.n)) (fun hc=>?_) (fun hc=>?_)
    ·refine V.q ?_;refine V.sb 6 false ?_;exact V.e (none:Option TK) [] (tkPc_none (vd_bad hvd hlt (by rw [htg]; simpa using hc)))
    ·refine V.q ?_;refine V.iter ?_;refine V.q ?_;refine V.kn 73 (decide (IntKind.i64.wrap ((0:Int)+1)<((1:Nat):Int))) false (by decide) ?_;refine V.q ?_;refine V.up 65 i (by omega) ?_;exact V.againK [7,8,63,64,65] [true,true,true] (ih (i+1) ⟨hlt,all_next hlt ixD hall (by rw [htg]; simpa using hc)⟩ (by omega)) kq kq
   by_cases hB:(t.l.getD i ixD).1.op=28∨(t.l.getD i ixD).1.op=29
   ·have htg:tgS (t.l.getD i ixD).1=[(t.l.getD i ixD).1.m]:=by unfold tgS; rw [if_neg hA,if_pos hB]
    refine V.c [] (cTgtM (t.l.getD i ixD).1 (t.l.getD i ixD).2 hB) (fun _ _=>?_);refine V.q ?_;refine V.iter ?_;refine V.q ?_;refine V.kn 73 (decide ((0:Int)<((1:Nat):Int))) true (by decide) ?_;refine V.t [] [(0:Int)≤0∧(0:Int)<((1:Nat):Int)] ⟨by decide,by decide⟩ ?_;refine V.c [(0,true)] (cBs t.p t.q' t.c' (t.l.getD i ixD).1.m g3 (by omega) g2) (fun _ _=>?_);refine V.q ?_;refine V.bn 83 (!(t.p.contains (t.l.getD i ixD).1.m)) (fun hc=>?_) (fun hc=>?_)
    ·refine V.q ?_;refine V.sb 6 false ?_;exact V.e (none:Option TK) [] (tkPc_none (vd_bad hvd hlt (by rw [htg]; simpa using hc)))
    ·refine V.q ?_;refine V.iter ?_;refine V.q ?_;refine V.kn 73 (decide (IntKind.i64.wrap ((0:Int)+1)<((1:Nat):Int))) false (by decide) ?_;refine V.q ?_;refine V.up 65 i (by omega) ?_;exact V.againK [7,8,63,64,65] [true,true,true] (ih (i+1) ⟨hlt,all_next hlt ixD hall (by rw [htg]; simpa using hc)⟩ (by omega)) kq kq
   ·have htg:tgS (t.l.getD i ixD).1=[]:=by unfold tgS; rw [if_neg hA,if_neg hB]
    refine V.c [] (cTgt0 (t.l.getD i ixD).1 (t.l.getD i ixD).2 hA hB) (fun _ _=>?_);refine V.q ?_;refine V.iter ?_;refine V.q ?_;refine V.kn 73 (decide ((0:Int)<((0:Nat):Int))) false (by decide) ?_;refine V.q ?_;refine V.up 65 i (by omega) ?_;exact V.againK [7,8,63,64,65] [true,true,true] (ih (i+1) ⟨hlt,all_next hlt ixD hall (by rw [htg]; rfl)⟩ (by omega)) kq kq
  ·have hle:t.l.length=i:=by omega
   refine V.q ?_;refine V.kn 66 (decide ((i:Int)<t.l.length)) false (by simpa using hlt) ?_;refine V.q ?_;refine V.sb 6 true ?_;exact V.e (some t:Option TK) [(2,true),(1,true),(0,true)] (tkPc_some (vd_good hvd (by rw [← hle,List.take_length] at hall; exact hall)) hcap)
theorem cValid (K:Kc) (hK:K.ok) (rl:List (Int×Int)) (X:RIn) (hX:X.n=rl.length) (hl:rl.length≤1000000000) (hs:X.s.length≤100000000) (pr rg:Int) :
  CallsK Tryz.prog 71 [.agg [.val (.map (some K.gF)),.val (.map (some K.gO))],.agg [.int .i64 pr,.int .i64 rg,.str X.s,.val (.slice X.q X.n X.c)]] (psOf [cdP K,rowP (relRow rl X.q X.c)]) (tkPc (vdS rl X pr rg)) vdV vdF:=cValidA K hK rl X hX hl pr rg
def aOf (g1 g2 g3 g4 g5 g6 g7 g8 g9 g10 g11 g12 g13 g14 g15 g16 g17 g18 g19 g20:Nat→Nat) (f:Fl):Nat→Nat:=match f with
 | .D=>g1
 | .A=>g2
 | .B=>g3
 | .N=>g4
 | .M=>g5
 | .P=>g6
 | .T=>g7
 | .U=>g8
 | .W=>g9
 | .V=>g10
 | .L=>g11
 | .Y=>g12
 | .F=>g13
 | .Sz=>g14
 | .Rg=>g15
 | .aN=>g16
 | .aM=>g17
 | .pN=>g18
 | .pM=>g19
 | .far=>g20
def feL (a:Fl→Nat→Nat):Nat→List Fl→List MapEntry
 | _,[]=>[]
 | i,f::l=>{ key:=.string ⟨f.name.toArray⟩,val:=fldV f (a f),born:=i }::feL a (i+1) l
def lnL:Nat→Nat→List MapEntry
 | 0,_=>[]
 | n+1,i=>{ key:=.int .i64 ((i+1:Nat):Int),val:=.string ⟨(opLine (i+1)).toArray⟩,born:=i }::lnL n (i+1)
def lnEs:Array MapEntry:=(lnL 38 0).toArray
theorem lnL_mem:∀ {n i:Nat} {e:MapEntry},e∈lnL n i→∃ o,i+1≤o∧o≤i+n∧e={ key:=.int .i64 ((o:Nat):Int),val:=.string ⟨(opLine o).toArray⟩,born:=o - 1 }
 | 0,i,e,h=>by simp [lnL] at h
 | n+1,i,e,h=>by
  simp only [lnL,List.mem_cons] at h;rcases h with rfl | h
  ·exact ⟨i+1,Nat.le_refl _,by omega,rfl⟩
  ·obtain ⟨o,h1,h2,h3⟩:=lnL_mem h;exact ⟨o,by omega,by omega,h3⟩
theorem lnL_has:∀ {n i o:Nat},i+1≤o→o≤i+n→({ key:=.int .i64 ((o:Nat):Int),val:=.string ⟨(opLine o).toArray⟩,born:=o - 1 }:MapEntry)∈lnL n i
 | 0,i,o,h1,h2=>by omega
 | n+1,i,o,h1,h2=>by
  simp only [lnL,List.mem_cons];by_cases e:o=i+1
  ·subst e; exact .inl rfl
  ·exact .inr (lnL_has (by omega) (by omega))
theorem cFieldsOp {o:Nat} (ho:isOp o=true):CallsK Tryz.prog 114 [.one (.str (opLine o))] glbF (fun _:Nat=>True)
  (fun g=>.v (.one (.row 0 (some ⟨g,0,none⟩) (opWords o).length (opWords o).length))) (fun g=>{ n:=0,slots:=[],gs:=[],heap:=[],next:=0,rows:=[(0,rowL strS [] (opWords o) (some ⟨g,0,none⟩) (opWords o).length 9 1 true)],nr:=1,pers:=[],wr:=false }):=by
 obtain ⟨h1,h2,h3⟩:=opLine_ok ho;have:=cFields (opLine o) h1 h2 h3
 rwa [opFields_ok ho] at this
def fldsL (a:Fl→Nat→Nat):List Pers:=Fl.all.flatMap fun f=>absP (a f) f.bl 0
def fldP (g:Nat) (a:Fl→Nat→Nat):Pers:=manyP (objP g (.map (feL a 0 Fl.all).toArray 20)::fldsL a)
theorem fldP_stab (g:Nat) (a:Fl→Nat→Nat):Stab (fldP g a):=manyP_stab fun p hp=>by
 rcases List.mem_cons.1 hp with rfl | hp
 ·exact objP_stab _ _
 ·obtain ⟨f,_,hp⟩:=List.mem_flatMap.1 hp;exact absP_stab p hp
theorem _root_.Go.SX.Sat.objN {C:Ctx} {ρ:Nat→Nat} {s:St} {a:Act} {w:World} {n0:Nat} {S:Nat→Prop} {g:Nat} {o:Obj} (h:Sat C ρ s a w) (i:Nat) (hp:s.pers[i]?=some (newP n0 S (objP g o))):w.heap[g]?=some o :=
 (h.pers _ (List.mem_of_getElem? hp)).1.1
theorem lnL_nodup:(lnEs.toList.map (·.born)).Nodup:=by
 have:lnEs.toList.map (·.born)=List.range 38:=kq;rw [this];exact List.nodup_range
theorem lnL_born:∀ x∈lnEs.toList,x.born<38:=by
 intro x hx;obtain ⟨o,h1,h2,rfl⟩:=lnL_mem (n:=38) (i:=0) hx;show o - 1<38;omega
def leftN (done:List Nat):List Nat:=(List.range 38).filter fun i=>!(done.contains (i+1))
theorem leftN_lt {done:List Nat} {o:Nat} (ho:isOp o=true) (hn:o ∉ done):(leftN (done++[o])).length<(leftN done).length:=by
 have h1:=(isOp_iff o).1 ho;have e:leftN (done++[o])=(leftN done).filter fun i=>!(i+1==o):=by
  unfold leftN;rw [List.filter_filter];apply List.filter_congr;intro i _;cases h:(i+1==o)<;>simp_all
 rw [e];refine List.length_filter_lt_length_iff_exists.2 ⟨o - 1,?_,?_⟩
 ·unfold leftN;rw [List.mem_filter];refine ⟨List.mem_range.2 (by omega),?_⟩;rw [show o - 1+1=o by omega];simpa using hn
 ·rw [show o - 1+1=o by omega];simp
theorem left_in {seen:Array Nat} {e:MapEntry} (h:e∈(leftOf lnEs seen).toList):e∈lnEs.toList:=by
 unfold leftOf at h;simp only [Array.toList_filter,List.mem_filter] at h;exact h.1
theorem left_mem {done:List Nat} {e:MapEntry} (h:e∈(leftOf lnEs (done.map (· - 1)).toArray).toList):∃ o,isOp o=true∧o ∉ done∧e={ key:=.int .i64 ((o:Nat):Int),val:=.string ⟨(opLine o).toArray⟩,born:=o - 1 }:=by
 have h2:=left_in h;unfold leftOf at h;simp only [Array.toList_filter,List.mem_filter] at h;obtain ⟨o,h3,h4,rfl⟩:=lnL_mem (n:=38) (i:=0) h2;refine ⟨o,(isOp_iff o).2 ⟨by omega,by omega⟩,fun hm=>?_,rfl⟩;have h5:=h.2;have h6:(done.map (· - 1)).toArray.contains (o - 1)=true:=by
  simp only [List.contains_toArray,List.contains_iff_mem,List.mem_map];exact ⟨o,hm,rfl⟩
 rw [h6] at h5;cases h5
theorem left_none {done:List Nat} (hnd:done.Nodup) (hdo:∀ o∈done,isOp o=true) (h:(leftOf lnEs (done.map (· - 1)).toArray).size=0) (o:Nat):o∈done↔isOp o=true:=by
 refine ⟨hdo o,fun ho=>?_⟩;have h1:=(isOp_iff o).1 ho;have h2:=lnL_has (n:=38) (i:=0) (o:=o) (by omega) (by omega);have h3:leftOf lnEs (done.map (· - 1)).toArray=#[]:=Array.eq_empty_of_size_eq_zero h;unfold leftOf at h3;rw [Array.filter_eq_empty_iff] at h3;have h4:=h3 _ (Array.mem_toList_iff.1 h2);simp only [List.contains_toArray,Bool.not_eq_true,Bool.not_eq_false',List.contains_iff_mem,List.mem_map] at h4;obtain ⟨o',h5,h6⟩:=h4;have h7:=(isOp_iff o').1 (hdo o' h5)
 rwa [show o=o' by omega]
theorem feL_find (a:Fl→Nat→Nat) (f:Fl):∃ i,Instr.findNow .string (.string ⟨f.name.toArray⟩) (feL a 0 Fl.all).toArray.toList 0=some (some (i,fldV f (a f))):=by
 cases f
 ·exact ⟨0,kq⟩
 ·exact ⟨1,kq⟩
 ·exact ⟨2,kq⟩
 ·exact ⟨3,kq⟩
 ·exact ⟨4,kq⟩
 ·exact ⟨5,kq⟩
 ·exact ⟨6,kq⟩
 ·exact ⟨7,kq⟩
 ·exact ⟨8,kq⟩
 ·exact ⟨9,kq⟩
 ·exact ⟨10,kq⟩
 ·exact ⟨11,kq⟩
 ·exact ⟨12,kq⟩
 ·exact ⟨13,kq⟩
 ·exact ⟨14,kq⟩
 ·exact ⟨15,kq⟩
 ·exact ⟨16,kq⟩
 ·exact ⟨17,kq⟩
 ·exact ⟨18,kq⟩
 ·exact ⟨19,kq⟩
theorem cdP_build (gF gO:Nat) (a:Fl→Nat→Nat) (q:Nat→Nat) (done:List Nat) (hall:∀ o,o∈done↔isOp o=true) :
  (∀ k,(cdP ⟨gF,gO,a,q,(feL a 0 Fl.all).toArray,20,(esL q 0 done).toArray,done.length⟩).D k→∃ p∈[objP gO (.map (esL q 0 done).toArray done.length),opsP done q,fldP gF a],p.D k) ∧
  (∀ w,(∀ p∈[objP gO (.map (esL q 0 done).toArray done.length),opsP done q,fldP gF a],p.φ w)→(cdP ⟨gF,gO,a,q,(feL a 0 Fl.all).toArray,20,(esL q 0 done).toArray,done.length⟩).φ w):=by
 have hops:∀ p∈((List.range 38).map (· + 1)).map (fun o=>rowP (wordRow o (q o))),p∈done.map (fun o=>rowP (wordRow o (q o))):=by
  intro p hp;obtain ⟨o,ho,rfl⟩:=List.mem_map.1 hp;obtain ⟨i,hi,rfl⟩:=List.mem_map.1 ho;exact List.mem_map.2 ⟨i+1,(hall _).2 ((isOp_iff _).2 ⟨by omega,by have:=List.mem_range.1 hi; omega⟩),rfl⟩
 refine ⟨fun k hk=>?_,fun w hw p hp=>?_⟩
 ·obtain ⟨p,hp,hpk⟩:=hk;rcases List.mem_append.1 hp with hp | hp
  ·simp only [List.mem_cons,List.not_mem_nil,or_false] at hp;rcases hp with rfl | rfl | rfl
   ·exact ⟨fldP gF a,by simp,_,List.mem_cons_self ..,hpk⟩
   ·exact ⟨_,List.mem_cons_self ..,hpk⟩
   ·obtain ⟨p',hp',hpk'⟩:=hpk;exact ⟨opsP done q,by simp,p',hops p' hp',hpk'⟩
  ·exact ⟨fldP gF a,by simp,p,List.mem_cons_of_mem _ hp,hpk⟩
 ·have w1:=hw _ (List.mem_cons_self ..);have w2:=hw _ (List.mem_cons_of_mem _ (List.mem_cons_self ..));have w3:=hw _ (List.mem_cons_of_mem _ (List.mem_cons_of_mem _ (List.mem_cons_self ..)));rcases List.mem_append.1 hp with hp | hp
  ·simp only [List.mem_cons,List.not_mem_nil,or_false] at hp;rcases hp with rfl | rfl | rfl
   ·exact w3 _ (List.mem_cons_self ..)
   ·exact w1
   ·exact fun p' hp'=>w2 p' (hops p' hp')
  ·exact w3 p (List.mem_cons_of_mem _ hp)
structure LI where
 done:List Nat
 q:Nat→Nat
def lcSt (n0:Nat) (S:Nat→Prop) (gF gO gL it:Nat) (a:Fl→Nat→Nat) (j:LI):St :=
 { n:=58,slots:=[(0,.v (.one (.ptr 0 0))),(7,.v (.one (.ptr 1 0))),(46,.v (.one (.val (.pointer (some ⟨it,0,none⟩)))))],gs:=[],
    heap:=[(0,⟨[.val (.map none),.val (.map none)],110,true⟩),(1,⟨[.val (.map (some gF)),.val (.map (some gO))],110,true⟩)],next:=2,
    rows:=[(0,objRow gO (.map (esL j.q 0 j.done).toArray j.done.length)),(1,objRow it (.mapIter (some gL) 38 (j.done.map (· - 1)).toArray 38))],nr:=2,
    pers:=[newP n0 S (opsP j.done j.q),newP n0 S (fldP gF a),newP n0 S (objP gL (.map lnEs 38)),glbP],wr:=true,fx:=0 }
theorem esL_push (q:Nat→Nat) (o gw:Nat) (done:List Nat) (hno:o ∉ done):(esL q 0 done).toArray.push { key:=.int .i64 (o:Int),val:=wordV o gw,born:=done.length }=(esL (fun x=>if x=o then gw else q x) 0 (done++[o])).toArray:=by
 rw [esL_snoc,esL_congr (q:=fun x=>if x=o then gw else q x) (q':=q) (fun x hx=>if_neg (fun e:x=o=>hno (e▸hx)))];simp
theorem opsP_snoc (q:Nat→Nat) (o gw:Nat) (done:List Nat) (hno:o ∉ done) :
  (∀ k,(opsP (done++[o]) (fun x=>if x=o then gw else q x)).D k→∃ p∈[rowP (wordRow o gw),opsP done q],p.D k) ∧
  (∀ w,(∀ p∈[rowP (wordRow o gw),opsP done q],p.φ w)→(opsP (done++[o]) (fun x=>if x=o then gw else q x)).φ w):=by
 have key:∀ p∈(done++[o]).map (fun x=>rowP (wordRow x (if x=o then gw else q x))),p=rowP (wordRow o gw)∨p∈done.map (fun x=>rowP (wordRow x (q x))):=by
  intro p hp;obtain ⟨x,hx,rfl⟩:=List.mem_map.1 hp;rcases List.mem_append.1 hx with hx | hx
  ·right
   rw [if_neg (fun e:x=o=>hno (e▸hx))];exact List.mem_map.2 ⟨x,hx,rfl⟩
  ·left
   rw [List.mem_singleton.1 hx,if_pos rfl]
 refine ⟨fun k hk=>?_,fun w hw p hp=>?_⟩
 ·obtain ⟨p,hp,hpk⟩:=hk;rcases key p hp with rfl | h
  ·exact ⟨_,List.mem_cons_self ..,hpk⟩
  ·exact ⟨opsP done q,by simp,p,h,hpk⟩
 ·rcases key p hp with rfl | h
  ·exact hw _ (List.mem_cons_self ..)
  ·exact hw _ (List.mem_cons_of_mem _ (List.mem_cons_self ..)) p h
theorem absP_at {g:Nat→Nat}:∀ {l:List (List SV×TypeId)} {i j:Nat},j<l.length→∃ cells e,blkP (g (i+j)) cells e∈absP g l i
 | (cells,e)::l,i,0,_=>⟨cells,e,List.mem_cons_self ..⟩
 | (cells,e)::l,i,j+1,h=>by
  obtain ⟨c',e',hm⟩:=absP_at (g:=g) (l:=l) (i:=i+1) (j:=j) (by simpa using h);refine ⟨c',e',List.mem_cons_of_mem _ ?_⟩
  rwa [show i+1+j=i+(j+1) by omega] at hm
theorem fld12 {C:Ctx} {ρ ρ0:Nat→Nat} {s:St} {a':Act} {w w0:World} {gF:Nat} {a:Fl→Nat→Nat} (h12:12≤w0.heap.size) (hS:Sat C ρ s a' w) (hp:newP w0.heap.size (touch ρ0 glbF) (fldP gF a)∈s.pers) (f:Fl) (j:Nat) (hj:j<f.bl.length):12≤a f j:=by
 obtain ⟨cells,e,hm⟩:=absP_at (g:=a f) (i:=0) hj;rw [Nat.zero_add] at hm;have h1:=(hS.pers _ hp).1.2 (a f j) ⟨_,List.mem_cons_of_mem _ (List.mem_flatMap.2 ⟨f,f.mem_all,hm⟩),rfl⟩;rcases h1 with h1 | ⟨b,blk,hb,_⟩ | ⟨r,R,hR,_⟩
 ·omega
 ·cases hb
 ·cases hR
def skipT:Nat→List Item→List Item
 | 0,k=>k
 | n+1,k=>match k with
  | .code (.seq a b)::k=>skipT n (.code a::.code b::k)
  | .code (.block id body)::k=>skipT n (.code body::.inBlock id::k)
  | .code (.scope body)::k=>skipT n (.code body::.inScope body::k)
  | .code (.region _ _ _)::k=>skipT n k
  | .code .skip::k=>skipT n k
  | .code (.label _)::k=>skipT n k
  | .inBlock _::k=>skipT n k
  | .inScope _::k=>skipT n k
  | .code (.loop b)::k=>.code b::.inLoop b::k
  | k=>k
noncomputable def newT:List Item:=skipT 100 [.code (bodyOf Tryz.f58)]
set_option maxHeartbeats 1000000 in
theorem cNew_loop (ρ0:Nat→Nat) (w0:World) (gF gO gL it:Nat) (a:Fl→Nat→Nat) (h12:12≤w0.heap.size) (j0:LI) (hj0:j0.done.Nodup∧∀ o∈j0.done,isOp o=true) :
  V ⟨Tryz.prog,58,GivesK ρ0 glbF Kc.ok Kc.val (fun K=>psOf [cdP K]) w0,touch ρ0 glbF,w0,ρ0,none⟩ ⟨newT,lcSt w0.heap.size (touch ρ0 glbF) gF gO gL it a j0⟩:=by
 refine V.loopTo (c:=⟨newT,lcSt w0.heap.size (touch ρ0 glbF) gF gO gL it a j0⟩) [0,7,46] [0,1] [0,1] [true,true,true,true] (fun j:LI=>(leftN j.done).length) (lcSt w0.heap.size (touch ρ0 glbF) gF gO gL it a) (fun j=>j.done.Nodup∧∀ o∈j.done,isOp o=true) j0 kq hj0 (fun j hj ih=>?_);obtain ⟨done,q⟩:=j;obtain ⟨hnd,hdo⟩:=hj;simp only at hnd hdo ih;refine V.q ?_;refine V.next it 1 gL 38 38 38 (done.map (· - 1)).toArray lnEs kq kq (fun ρ a w hS=>hS.objN (n0:=w0.heap.size) (S:=touch ρ0 glbF) 2 kq) lnL_born (Nat.le_refl _) kq (fun e he=>kq) (fun hsz=>?_) (fun e he=>?_)
 ·have hall:=left_none hnd hdo hsz;refine V.q ?_;refine V.freezeObj 0 gO (.map (esL q 0 done).toArray done.length) kq ?_;obtain ⟨b1,b2⟩:=cdP_build gF gO a q done hall;refine V.persNew [(0,true),(1,true),(2,true)] [objP gO (.map (esL q 0 done).toArray done.length),opsP done q,fldP gF a] (cdP ⟨gF,gO,a,q,(feL a 0 Fl.all).toArray,20,(esL q 0 done).toArray,done.length⟩) kq kq b1 b2 (cdP_stab _) ?_;refine V.have (fun ρ a' w hS=>fld12 (ρ0:=ρ0) (w0:=w0) (gF:=gF) (a:=a) h12 hS (List.mem_of_getElem? (i:=3) kq)) (fun hk12=>?_);exact V.e (⟨gF,gO,a,q,(feL a 0 Fl.all).toArray,20,(esL q 0 done).toArray,done.length⟩:Kc) [(0,true)] ⟨hk12,feL_find _,done,hnd,hall,rfl,rfl⟩
 ·obtain ⟨o,hop,hno,hee⟩:=left_mem he;have hes:(done.map (· - 1)).toArray.push e.born=((done++[o]).map (· - 1)).toArray:=by rw [hee]; simp
  refine V.q ?_;refine V.entry it 1 gL 38 38 (done.map (· - 1)).toArray lnEs e kq kq (fun ρ a w hS=>hS.objN (n0:=w0.heap.size) (S:=touch ρ0 glbF) 2 kq) (left_in he) lnL_nodup kq ?_;rw [hes];subst hee;refine V.q ?_;refine V.s 8 (.one (.val (.int .i64 (o:Int)))) (.one (.int .i64 (o:Int))) (fun _=>rfl) ?_;refine V.s 9 (.one (.val (.string ⟨(opLine o).toArray⟩))) (.one (.str (opLine o))) (fun _=>rfl) ?_;refine V.drawX [] [0] 5 kq ?_;refine @VX.run _ [] [0] 5 _ _ ([]:List (Ent Tryz.prog)) [] kq kq trivial ?_;refine @VX.callK _ [] [0] 5 _ _ Nat 114 [.one (.str (opLine o))] glbF _ _ _ [(3,false)] (cFieldsOp hop) kq kq kq (fun _=>kq) (fun gw _=>?_);refine @VX.run _ [] [0] 5 _ _ ([]:List (Ent Tryz.prog)) [] kq kq trivial ?_;refine @VX.insert _ [] [0] 5 _ _ 108 3 118 (.int .i64) gO 0 (.one (.int .i64 (o:Int))) (.one (.row 2 (some ⟨gw,0,none⟩) (opWords o).length (opWords o).length)) (.int .i64 (o:Int)) (wordV o gw) (esL q 0 done).toArray done.length kq kq kq kq kq kq (fun _=>rfl) (fun _=>rfl)
   (esL_find_none (fun o' ho'=>by have:o'≠o:=(fun e=>hno (e▸ho')); omega)) kq ?_
  rw [esL_push q o gw done hno,show done.length+1=(done++[o]).length by simp];refine V.freeze 2 (rowL strS [] (opWords o) (some ⟨gw,0,none⟩) (opWords o).length 9 1 true) kq kq ?_;obtain ⟨b1,b2⟩:=opsP_snoc q o gw done hno;refine V.persNew [(0,true),(1,true)] [rowP (wordRow o gw),opsP done q] (opsP (done++[o]) (fun x=>if x=o then gw else q x)) kq kq b1 b2 (opsP_stab _ _) ?_;refine V.q ?_;refine V.iter ?_;refine V.back [0,7,46] [0,1] [0,1] [true,false,false,true,true,true] (ih ⟨done++[o],fun x=>if x=o then gw else q x⟩ ⟨?_,?_⟩ (leftN_lt hop hno)) kq kq
  ·exact List.nodup_append.2 ⟨hnd,by simp,fun x hx y hy=>by rw [List.mem_singleton.1 hy]; exact fun e=>hno (e▸hx)⟩
  ·intro x hx;rcases List.mem_append.1 hx with hx | hx
   ·exact hdo x hx
   ·rw [List.mem_singleton.1 hx]; exact hop
set_option maxHeartbeats 1000000 in
theorem cNew0:CallsK Tryz.prog 58 [] glbF Kc.ok Kc.val (fun K=>psOf [cdP K]):=by
 refine CallsK.mkF true Tryz.func58 kq kq (fun ρ0 w0 hF0=>?_);refine V.q ?_;refine V.mkMap 107 kq (fun _=>kq) (fun gF=>?_);refine V.q ?_;refine V.c [] ((kRegister 92).args [.one (.fn 92 [])] (fun _=>rfl)) (fun g1 _=>?_);refine V.runM [] 0 1 [] [(gF,gF)] kq kq trivial (fun p hp=>by rw [List.mem_singleton.1 hp]) ?_;refine V.q ?_;refine V.c [] ((kRegister 93).args [.one (.fn 93 [])] (fun _=>rfl)) (fun g2 _=>?_);refine V.runM [] 0 1 [] [(gF,gF)] kq kq trivial (fun p hp=>by rw [List.mem_singleton.1 hp]) ?_;refine V.q ?_;refine V.c [] ((kRegister 94).args [.one (.fn 94 [])] (fun _=>rfl)) (fun g3 _=>?_);refine V.runM [] 0 1 [] [(gF,gF)] kq kq trivial (fun p hp=>by rw [List.mem_singleton.1 hp]) ?_;refine V.q ?_;refine V.c [] ((kNumber 95).args [.one (.fn 95 [])] (fun _=>rfl)) (fun g4 _=>?_);refine V.runM [] 0 1 [] [(gF,gF)] kq kq trivial (fun p hp=>by rw [List.mem_singleton.1 hp]) ?_;refine V.q ?_;refine V.c [] ((kNumber 96).args [.one (.fn 96 [])] (fun _=>rfl)) (fun g5 _=>?_);refine V.runM [] 0 1 [] [(gF,gF)] kq kq trivial (fun p hp=>by rw [List.mem_singleton.1 hp]) ?_;refine V.q ?_;refine V.c [] ((kNumber 97).args [.one (.fn 97 [])] (fun _=>rfl)) (fun g6 _=>?_);refine V.runM [] 0 1 [] [(gF,gF)] kq kq trivial (fun p hp=>by rw [List.mem_singleton.1 hp]) ?_;refine V.q ?_;refine V.c [] ((kTyped 101).args [.one (.fn 101 [])] (fun _=>rfl)) (fun g7 _=>?_);refine V.runM [] 0 1 [] [(gF,gF)] kq kq trivial (fun p hp=>by rw [List.mem_singleton.1 hp]) ?_;refine V.q ?_;refine V.c [] ((kTyped 102).args [.one (.fn 102 [])] (fun _=>rfl)) (fun g8 _=>?_);refine V.runM [] 0 1 [] [(gF,gF)] kq kq trivial (fun p hp=>by rw [List.mem_singleton.1 hp]) ?_;refine V.q ?_;refine V.c [] ((kTyped 103).args [.one (.fn 103 [])] (fun _=>rfl)) (fun g9 _=>?_);refine V.runM [] 0 1 [] [(gF,gF)] kq kq trivial (fun p hp=>by rw [List.mem_singleton.1 hp]) ?_;refine V.q ?_;refine V.c [] (kValue) (fun g10 _=>?_);refine V.runM [] 0 1 [] [(gF,gF)] kq kq trivial (fun p hp=>by rw [List.mem_singleton.1 hp]) ?_;refine V.q ?_;refine V.c [] (kRegs) (fun g11 _=>?_);refine V.runM [] 0 1 [] [(gF,gF)] kq kq trivial (fun p hp=>by rw [List.mem_singleton.1 hp]) ?_;refine V.q ?_;refine V.c [] (kTypes) (fun g12 _=>?_);refine V.runM [] 0 1 [] [(gF,gF)] kq kq trivial (fun p hp=>by rw [List.mem_singleton.1 hp]) ?_;refine V.q ?_;refine V.c [] (kFormats) (fun g13 _=>?_);refine V.runM [] 0 1 [] [(gF,gF)] kq kq trivial (fun p hp=>by rw [List.mem_singleton.1 hp]) ?_;refine V.q ?_;refine V.c [] ((kFlag 109).args [.one (.fn 109 [])] (fun _=>rfl)) (fun g14 _=>?_);refine V.runM [] 0 1 [] [(gF,gF)] kq kq trivial (fun p hp=>by rw [List.mem_singleton.1 hp]) ?_;refine V.q ?_;refine V.c [] ((kFlag 110).args [.one (.fn 110 [])] (fun _=>rfl)) (fun g15 _=>?_);refine V.runM [] 0 1 [] [(gF,gF)] kq kq trivial (fun p hp=>by rw [List.mem_singleton.1 hp]) ?_;refine V.q ?_;refine V.c [] ((kPlace 95).args [.one (.fn 95 [])] (fun _=>rfl)) (fun g16 _=>?_);refine V.runM [] 0 1 [] [(gF,gF)] kq kq trivial (fun p hp=>by rw [List.mem_singleton.1 hp]) ?_;refine V.q ?_;refine V.c [] ((kPlace 96).args [.one (.fn 96 [])] (fun _=>rfl)) (fun g17 _=>?_);refine V.runM [] 0 1 [] [(gF,gF)] kq kq trivial (fun p hp=>by rw [List.mem_singleton.1 hp]) ?_;refine V.q ?_;refine V.c [] ((kProc 95 false).args [.one (.fn 95 []),.one (.bool false)] (fun _=>rfl)) (fun g18 _=>?_);refine V.runM [] 0 1 [] [(gF,gF)] kq kq trivial (fun p hp=>by rw [List.mem_singleton.1 hp]) ?_;refine V.q ?_;refine V.c [] ((kProc 96 true).args [.one (.fn 96 []),.one (.bool true)] (fun _=>rfl)) (fun g19 _=>?_);refine V.runM [] 0 1 [] [(gF,gF)] kq kq trivial (fun p hp=>by rw [List.mem_singleton.1 hp]) ?_;refine V.q ?_;refine V.c [] (kFar) (fun g20 _=>?_);refine V.runM [] 0 1 [] [(gF,gF)] kq kq trivial (fun p hp=>by rw [List.mem_singleton.1 hp]) ?_;refine V.q ?_;refine V.mkMap 108 kq (fun _=>kq) (fun gO=>?_);refine V.q ?_;refine V.mkMap 86 kq (fun _=>kq) (fun gL=>?_);refine V.runM [] 2 38 [] (List.replicate 38 (gL,gL)) kq kq trivial (fun p hp=>by rw [List.eq_of_mem_replicate hp]) ?_;refine V.q ?_;refine V.freezeObj 2 gL (.map lnEs 38) kq ?_;refine V.freezeObj 0 gF (.map (feL (aOf g1 g2 g3 g4 g5 g6 g7 g8 g9 g10 g11 g12 g13 g14 g15 g16 g17 g18 g19 g20) 0 Fl.all).toArray 20) kq ?_;refine V.persNew [(0,true),(42,true),(43,true),(40,true),(41,true),(38,true),(39,true),(37,true),(36,true),(35,true),(34,true),(33,true),(32,true),(26,true),(27,true),(28,true),(29,true),(30,true),(31,true),(20,true),(21,true),(22,true),(23,true),(24,true),(25,true),(14,true),(15,true),(16,true),(17,true),(18,true),(19,true),(13,true),(12,true),(10,true),(11,true),(8,true),(9,true),(5,true),(6,true),(7,true),(2,true),(3,true),(4,true)] (objP gF (.map (feL (aOf g1 g2 g3 g4 g5 g6 g7 g8 g9 g10 g11 g12 g13 g14 g15 g16 g17 g18 g19 g20) 0 Fl.all).toArray 20)::fldsL (aOf g1 g2 g3 g4 g5 g6 g7 g8 g9 g10 g11 g12 g13 g14 g15 g16 g17 g18 g19 g20)) (fldP gF (aOf g1 g2 g3 g4 g5 g6 g7 g8 g9 g10 g11 g12 g13 g14 g15 g16 g17 g18 g19 g20)) kq kq (fun k hk=>hk) (fun w hw=>hw) (fldP_stab _ _) ?_;refine V.persNew [] [] (opsP [] (fun _=>0)) kq kq (fun k hk=>by obtain ⟨q,hq,_⟩:=hk; exact absurd hq (List.not_mem_nil)) (fun w hw q hq=>absurd hq (List.not_mem_nil)) (opsP_stab _ _) ?_;refine V.range 86 3 9 gL lnEs 38 kq kq (fun ρ a w hS=>hS.objN (n0:=w0.heap.size) (S:=touch ρ0 glbF) 3 kq) (fun _=>kq) (fun it=>?_);refine V.q ?_;refine V.iter ?_;refine V.back [0,7,46] [0,1] [1,3] ([true,true,false,true]++List.replicate 42 false++[true]) (cNew_loop ρ0 w0 gF gO gL it (aOf g1 g2 g3 g4 g5 g6 g7 g8 g9 g10 g11 g12 g13 g14 g15 g16 g17 g18 g19 g20) ((hF0.pers glbP (List.mem_singleton.2 rfl)).2.2 11 (by show 11<12; decide)).1 ⟨[],fun _=>0⟩ ⟨List.nodup_nil,fun o ho=>absurd ho (List.not_mem_nil)⟩) kq kq
def newW:WSt:=⟨[],none,0,[],none,0⟩
theorem xNumber (n:Int):CallsK Tryz.prog 16 [.one (.int .i64 n)] noF (fun _:Unit=>True) (fun _=>.tup [.one (.str (bif isNum n then encN n else [])),.one (.int .i64 (bif isNum n then 0 else 1))]) (fun _=>noF):=by
 refine CallsK.m true Tryz.func16 (fun ρ w=>?_);refine V.t [aIsNum.e] [] trivial ?_;by_cases h:isNum n=true
 ·rw [h];refine V.kn 7 (!(isNum n)) false (by rw [h]; rfl) ?_;refine V.q ?_;refine V.nilB bsv 0 0 0 ⟨[.val (.slice none 0 0),.val (.slice none 0 0)],99,true⟩ 5 1 kq rfl ?_;refine V.nilB rlv (0,0) 0 1 ⟨[.row 0 none 0 0,.val (.slice none 0 0)],99,true⟩ 62 2 kq rfl ?_;have h32:=isNum_32 h;refine V.c [] (cNum n newW h32.1 h32.2 (by decide)) (fun b hb=>?_);refine V.q ?_;obtain ⟨bs,q,c,rs,q2,c2⟩:=b;obtain ⟨h1,h2⟩:=hb;simp only [newW,List.nil_append] at h1;subst h1;refine V.bytes 2 (rowL bsv 0 (groups 9 (zz n)) q c 5 1 true) (groups 9 (zz n)) kq rfl (fun _ _=>rfl) kq ?_;refine V.q ?_;exact V.z
 ·have h:isNum n=false:=by simpa using h
  rw [h];refine V.kn 7 (!(isNum n)) true (by rw [h]; rfl) ?_;refine V.q ?_;exact V.z
def xIn (b:List UInt8):RIn:=⟨b,none,0,0⟩
def rnB (b:List UInt8) (n:Int):Bool:=decide (n<0)||decide (n>(b.length:Int))
def rnR (b:List UInt8) (n:Int):Int×RSt:=rdNum (xIn b) ⟨n.toNat,false⟩
def rnV (b:List UInt8) (n:Int):RV:=.tup [.one (.int .i64 (bif rnB b n||(rnR b n).2.bad then 0 else (rnR b n).1)),.one (.int .i64 (bif rnB b n||(rnR b n).2.bad then 0 else ((rnR b n).2.at_:Int))),.one (.int .i64 (bif rnB b n then 1 else bif (rnR b n).2.bad then 220 else 0))]
theorem xReadNumber (b:List UInt8) (n:Int) (hb:b.length≤1000000000):CallsK Tryz.prog 18 [.one (.str b),.one (.int .i64 n)] noF (fun _:Unit=>True) (fun _=>rnV b n) (fun _=>noF):=by
 refine CallsK.m false Tryz.func18 (fun ρ w=>?_);refine V.q ?_;by_cases hB:rnB b n=true
 ·unfold rnV;rw [hB];refine V.kn 16 (rnB b n) true hB ?_;refine V.q ?_;exact V.z
 ·have hB:rnB b n=false:=by simpa using hB
  obtain ⟨k,hk⟩:∃ k:Nat,n=(k:Int):=⟨n.toNat,by unfold rnB at hB; simp at hB; omega⟩;have hkl:k≤b.length:=by unfold rnB at hB; simp at hB; omega
  have hok:okIn (xIn b) ⟨k,false⟩:=⟨hb,hkl⟩;have hR:rnR b n=rdNum (xIn b) ⟨k,false⟩:=by unfold rnR; rw [hk]; rfl
  unfold rnV;rw [hB,hR];refine V.kn 16 (rnB b n) false hB ?_;refine V.q ?_;refine V.soft 0 ?_;refine V.cellAs 0 1 ⟨[.str b,.int .i64 n,.val (.slice none 0 0),.sb false],104,true⟩ (.int .i64 n) (.int .i64 (k:Int)) kq rfl kq (fun _=>by rw [hk]) ?_;refine V.c [] (cRNum (xIn b) ⟨k,false⟩ hok) (fun r hr=>?_);subst hr;refine V.q ?_;by_cases hbd:(rdNum (xIn b) ⟨k,false⟩).2.bad=true
  ·rw [hbd];refine V.kn 26 ((rdNum (xIn b) ⟨k,false⟩).2.bad) true hbd ?_;refine V.q ?_;exact V.z
  ·have hbd:(rdNum (xIn b) ⟨k,false⟩).2.bad=false:=by simpa using hbd
   rw [hbd];refine V.kn 26 ((rdNum (xIn b) ⟨k,false⟩).2.bad) false hbd ?_;refine V.q ?_;exact V.z
theorem xCheck (x:In) (A:IA) (hx:x.okL):CallsK Tryz.prog 20 [.agg (inV x A)] (stP (glbP::lsP x A)) (fun _:Unit=>True) (fun _=>.v (.one (.int .i64 (bif cFine x then 0 else 170)))) (fun _=>noF):=by
 by_cases h:cFine x=true
 ·rw [h];refine CallsK.m true Tryz.func20 (fun ρ w=>?_);refine V.q ?_;refine V.drawX [] [] 4 kq ?_;refine @VX.run _ [] [] 4 _ _ ([]:List (Ent Tryz.prog)) [] kq kq trivial ?_;refine @VX.callK _ [] [] 4 _ _ Kc 58 [] glbF _ _ _ [(0,false)] cNew0 kq kq kq (fun _=>kq) (fun K hK=>?_);refine @VX.run _ [] [] 4 _ _ ([]:List (Ent Tryz.prog)) [] kq kq trivial ?_;refine @VX.callK _ [] [] 4 _ _ Unit 59 [.agg [.val (.map (some K.gF)),.val (.map (some K.gO))],.agg (inV x A)] (stP (cdP K::lsP x A)) _ _ _ [(0,true),(2,false),(3,false),(4,false)] (cFineK K hK x A hx) kq kq kq (fun _=>kq) (fun _ _=>?_);refine @VX.run _ [] [] 4 _ _ ([]:List (Ent Tryz.prog)) [] kq kq trivial ?_;refine @VX.stop _ [] [] 4 _ _ kq ?_;refine V.q ?_;refine V.kn 6 (!(cFine x)) false (by rw [h]; rfl) ?_;refine V.q ?_;exact V.z
 ·have h:cFine x=false:=by simpa using h
  rw [h];refine CallsK.m true Tryz.func20 (fun ρ w=>?_);refine V.q ?_;refine V.drawX [] [] 4 kq ?_;refine @VX.run _ [] [] 4 _ _ ([]:List (Ent Tryz.prog)) [] kq kq trivial ?_;refine @VX.callK _ [] [] 4 _ _ Kc 58 [] glbF _ _ _ [(0,false)] cNew0 kq kq kq (fun _=>kq) (fun K hK=>?_);refine @VX.run _ [] [] 4 _ _ ([]:List (Ent Tryz.prog)) [] kq kq trivial ?_;refine @VX.callK _ [] [] 4 _ _ Unit 59 [.agg [.val (.map (some K.gF)),.val (.map (some K.gO))],.agg (inV x A)] (stP (cdP K::lsP x A)) _ _ _ [(0,true),(2,false),(3,false),(4,false)] (cFineK K hK x A hx) kq kq kq (fun _=>kq) (fun _ _=>?_);refine @VX.run _ [] [] 4 _ _ ([]:List (Ent Tryz.prog)) [] kq kq trivial ?_;refine @VX.stop _ [] [] 4 _ _ kq ?_;refine V.q ?_;refine V.kn 6 (!(cFine x)) true (by rw [h]; rfl) ?_;refine V.q ?_;exact V.z
theorem xEncode (x:In) (A:IA) (hx:x.okL) (h:cFine x=true):CallsK Tryz.prog 29 [.agg (inV x A)] (stP (glbP::lsP x A)) (fun _:Option Addr×Nat=>True) (fun qc=>.tup [.one (.str (cEnc x).1),.one (.row 0 qc.1 (cEnc x).2.length qc.2),.one (.int .i64 0)]) (rsF (cEnc x).2):=by
 have hf:=cFine_ok h;refine CallsK.m true Tryz.func29 (fun ρ w=>?_);refine V.q ?_;refine V.c [(0,false)] cNew0 (fun K hK=>?_);refine V.q ?_;refine V.c [(0,true),(2,false),(3,false),(4,false)] (cFineK K hK x A hx) (fun _ _=>?_);refine V.q ?_;refine V.kn 12 (!(cFine x)) false (by rw [h]; rfl) ?_;refine V.q ?_;refine V.c [(0,true),(2,false),(3,false),(4,false)] (cEncode K hK x A hx hf.1 hf.2) (fun qc _=>?_);refine V.q ?_;exact V.e (qc:Option Addr×Nat) [] trivial
theorem xText (x:In) (A:IA) (hx:x.okL) (o:Nat) (hisop:isOp o=true) (ho:x.op=(o:Int)) (htk:(opFls o).all (fun f=>f.tok x)=true) (h:cFine x=true):CallsK Tryz.prog 22 [.agg (inV x A)] (stP (glbP::lsP x A)) (fun _:Unit=>True) (fun _=>.tup [.one (.str (lineT x o)),.one (.int .i64 0)]) (fun _=>noF):=by
 refine CallsK.m true Tryz.func22 (fun ρ w=>?_);refine V.q ?_;refine V.c [(0,false)] cNew0 (fun K hK=>?_);refine V.q ?_;refine V.c [(0,true),(2,false),(3,false),(4,false)] (cFineK K hK x A hx) (fun _ _=>?_);refine V.q ?_;refine V.kn 9 (!(cFine x)) false (by rw [h]; rfl) ?_;refine V.q ?_;refine V.c [(0,true),(1,false),(2,false),(3,false),(4,false)] (cLine K hK x A hx o hisop ho htk) (fun _ _=>?_);refine V.q ?_;exact V.z
def zIns:CV:=.agg inZ
theorem xParse (s:List UInt8) (ws:List (List UInt8)) (x:In) (hws:splS s [32]=ws) (hs:s.length<4294967281) (hn:ws.length=Lib.countB ⟨s.toArray⟩ ⟨[32].toArray⟩+1) (hm:ws.length≤2000000)
  (hpok:∀ o,rdFind (ws.getD 0 [])=some o→ws.length=(opFls o).length+1→∀ i,i<(opFls o).length→((opFls o).getD i .D).pok (ws.getD (i+1) [])=true) (hx:cReadS ws=some x) :
  CallsK Tryz.prog 24 [.one (.str s)] glbF (fun y:In×IA=>y.1=x) (fun y=>.tup [.agg (inV y.1 y.2),.one (.int .i64 0)]) (fun y=>psOf (lsP y.1 y.2)):=by
 refine CallsK.m true Tryz.func24 (fun ρ w=>?_);refine V.q ?_;refine V.c [(0,false)] cNew0 (fun K hK=>?_);refine V.q ?_;refine V.c [(0,true),(1,false)] (cRead K hK s ws hws hs hn hm hpok) (fun y hy=>?_);have hy':y.1=x∧y.2.2=true:=by unfold rdP at hy; rw [hx] at hy; exact hy
 refine V.q ?_;refine V.kn 13 (!y.2.2) false (by rw [hy'.2]; rfl) ?_;refine V.q ?_;exact V.e ((y.1,y.2.1):In×IA) [(0,true),(1,true),(2,true)] hy'.1
theorem xParseNo (s:List UInt8) (ws:List (List UInt8)) (hws:splS s [32]=ws) (hs:s.length<4294967281) (hn:ws.length=Lib.countB ⟨s.toArray⟩ ⟨[32].toArray⟩+1) (hm:ws.length≤2000000)
  (hpok:∀ o,rdFind (ws.getD 0 [])=some o→ws.length=(opFls o).length+1→∀ i,i<(opFls o).length→((opFls o).getD i .D).pok (ws.getD (i+1) [])=true) (hx:cReadS ws=none) :
  CallsK Tryz.prog 24 [.one (.str s)] glbF (fun _:Unit=>True) (fun _=>.tup [zIns,.one (.int .i64 222)]) (fun _=>noF):=by
 refine CallsK.m true Tryz.func24 (fun ρ w=>?_);refine V.q ?_;refine V.c [(0,false)] cNew0 (fun K hK=>?_);refine V.q ?_;refine V.c [(0,true),(1,false)] (cRead K hK s ws hws hs hn hm hpok) (fun y hy=>?_);have hy':y.2.2=false:=by unfold rdP at hy; rw [hx] at hy; exact hy
 refine V.q ?_;refine V.kn 13 (!y.2.2) true (by rw [hy']; rfl) ?_;refine V.q ?_;exact V.z
theorem xDecode (rl:List (Int×Int)) (X:RIn) (hX:X.n=rl.length) (hl:rl.length≤1000000000) (at_:Nat) (hok:okIn X ⟨at_,false⟩) (h:cDecOk rl X at_=true) :
  CallsK Tryz.prog 30 [.one (.str X.s),.one (.val (.slice X.q X.n X.c)),.one (.int .i64 (at_:Int))] (psOf [glbP,rowP (relRow rl X.q X.c)]) (fun y:In×IA=>y.1=(cDecR rl X at_).2) (fun y=>.tup [.agg (inV y.1 y.2),.one (.int .i64 (cDecR rl X at_).1.at_),.one (.int .i64 0)]) (fun y=>psOf (lsP y.1 y.2)):=by
 refine CallsK.m true Tryz.func30 (fun ρ w=>?_);refine V.q ?_;refine V.kn 19 (decide ((at_:Int)<0)||decide ((at_:Int)>(X.s.length:Int))) false (by have:=hok.2; simp only at this; simp; omega) ?_;refine V.q ?_;refine V.c [(0,false)] cNew0 (fun K hK=>?_);refine V.q ?_;refine V.c [(0,true),(2,false)] (cDecode K hK rl X hX hl at_ hok) (fun y hy=>?_);refine V.q ?_;refine V.kn 31 (!(cDecOk rl X at_)) false (by rw [h]; rfl) ?_;refine V.q ?_;exact V.e (y:In×IA) [(0,true),(1,true),(2,true)] hy
def modC (pr rg:Int) (X:RIn):CV:=.agg [.int .i64 pr,.int .i64 rg,.str X.s,.val (.slice X.q X.n X.c)]
theorem xPlaces (rl:List (Int×Int)) (X:RIn) (hX:X.n=rl.length) (hl:rl.length≤1000000000) (hs:X.s.length≤100000000) (pr rg:Int) (s:List In×List Int) (h:vdS rl X pr rg=some s) :
  CallsK Tryz.prog 31 [modC pr rg X] (psOf [glbP,rowP (relRow rl X.q X.c)]) (fun qc:Option Addr×Nat=>s.2.length≤qc.2) (fun qc=>.tup [.one (.val (.slice qc.1 s.2.length qc.2)),.one (.int .i64 0)]) (fun qc=>psOf [rowP (rowL intv 0 s.2 qc.1 qc.2 3 1 false)]):=by
 refine CallsK.m true Tryz.func31 (fun ρ w=>?_);refine V.q ?_;refine V.drawX [] [] 10 kq ?_;refine @VX.run _ [] [] 10 _ _ ([]:List (Ent Tryz.prog)) [] kq kq trivial ?_;refine @VX.callK _ [] [] 10 _ _ Kc 58 [] glbF _ _ _ [(0,false)] cNew0 kq kq kq (fun _=>kq) (fun K hK=>?_);refine @VX.run _ [] [] 10 _ _ ([]:List (Ent Tryz.prog)) [] kq kq trivial ?_;refine @VX.callK _ [] [] 10 _ _ (Option TK) 71 [.agg [.val (.map (some K.gF)),.val (.map (some K.gO))],modC pr rg X] (psOf [cdP K,rowP (relRow rl X.q X.c)]) _ _ _ [(0,true),(2,false)] (cValid K hK rl X hX hl hs pr rg) kq kq kq (fun t=>by cases t<;>kernel_rfl) (fun t ht=>?_);unfold tkPc at ht;rw [h] at ht;have hcap:=ht.2;obtain ⟨t',rfl,h1,h2⟩:=ht.1;have hcap:=hcap t' rfl;obtain ⟨l,q,c,p,q',c'⟩:=t';obtain ⟨s1,s2⟩:=s;simp only at h1 h2 hcap;subst h2;refine @VX.run _ [] [] 10 _ _ ([]:List (Ent Tryz.prog)) [] kq kq trivial ?_;refine @VX.stop _ [] [] 10 _ _ kq ?_;refine V.q ?_;refine V.kn 15 (!true) false rfl ?_;refine V.q ?_;exact V.e ((q',c'):Option Addr×Nat) [(2,true)] hcap
end Go.Proofs
end
section
namespace Go.SX
def dropK {α:Type} (p:Nat→Bool):List (Nat×α)→List (Nat×α)
 | []=>[]
 | (k,v)::l=>match p k with
  | true=>dropK p l
  | false=>(k,v)::dropK p l
theorem look_dropK {α:Type} {p:Nat→Bool}:∀ {l:List (Nat×α)} {i:Nat} {v:α},look (dropK p l) i=some v→p i=false∧look l i=some v
 | [],i,v,h=>by cases h
 | (k,c)::l,i,v,h=>by
  simp only [dropK] at h;simp only [look];split at h
  ·rename_i hp;obtain ⟨h1,h2⟩:=look_dropK h;refine ⟨h1,?_⟩;cases e:Nat.beq k i with
   | true=>have:=Nat.eq_of_beq_eq_true e; subst this; rw [hp] at h1; cases h1
   | false=>exact h2
  ·rename_i hp;simp only [look] at h;cases e:Nat.beq k i with
   | true=>rw [e] at h; have:=Nat.eq_of_beq_eq_true e; subst this; exact ⟨hp,h⟩
   | false=>rw [e] at h; exact look_dropK h
def isGrd (s:List (Nat×RV)) (k:Nat):Bool:=match look s k with
 | some (.grd ..)=>true
 | _=>false
theorem V.ungrd {C:Ctx} {c:Cfg} (h:V C ⟨c.todo,{ c.st with slots:=dropK (isGrd c.st.slots) c.st.slots,gs:=[] }⟩):V C c:=by
 intro ρ a w hS;refine h ρ a w ⟨hS.n,fun i v hv=>hS.slots i v (look_dropK hv).2,fun i g pol x y hv=>?_,hS.heap,hS.inj,hS.lt,hS.defers,hS.chg,hS.rows,hS.rowsD,hS.pers,hS.fix⟩;obtain ⟨h1,h2⟩:=look_dropK hv;simp only [isGrd,h2] at h1;cases h1
end Go.SX
end
section
namespace Go.Proofs
open Go Go.SX
set_option maxRecDepth 10000
def asT:List UInt8:=[83,84,69,80,32,49,48,10,74,85,77,80,32,64,48,10]
def asX1:In:={ emptyI 1 with n:=10 }
def asX2:In:=emptyI 14
def asB:List UInt8:=[1,20,14,0,0,0,0]
theorem asR1:cReadS [[83,84,69,80],[49,48]]=some asX1:=kq
theorem asR2:cReadS [[74,85,77,80],[64,48]]=some asX2:=kq
theorem asV (q:Option Addr) (c:Nat):vdS [] ⟨asB,q,0,c⟩ 0 4=some ([asX1,asX2],[0,2,7]):=kq
theorem pok_of {ws:List (List UInt8)} {o0:Nat} (h1:rdFind (ws.getD 0 [])=some o0) (h2:((List.range (opFls o0).length).all fun i=>((opFls o0).getD i .D).pok (ws.getD (i+1) []))=true) :
  ∀ o,rdFind (ws.getD 0 [])=some o→ws.length=(opFls o).length+1→∀ i,i<(opFls o).length→((opFls o).getD i .D).pok (ws.getD (i+1) [])=true:=by
 intro o ho _ i hi;rw [h1] at ho;cases ho;exact List.all_eq_true.1 h2 i (List.mem_range.2 hi)
set_option maxHeartbeats 1000000 in
theorem xAsm:CallsK Tryz.prog 39 [.one (.int .i64 0),.one (.int .i64 4),.one (.str asT)] glbF (fun _:Option Addr×Nat=>True) (fun qc=>.tup [modC 0 4 ⟨asB,qc.1,0,qc.2⟩,.one (.int .i64 0),.one (.int .i64 0)]) (fun qc=>psOf [rowP (relRow [] qc.1 qc.2)]):=by
 refine CallsK.m true Tryz.func39 (fun ρ w=>?_);refine V.q ?_;refine V.kn 39 (decide ((0:Int)<0)||decide ((0:Int)>63)||decide ((4:Int)<0)||decide ((4:Int)>4000)||decide ((asT.length:Int)>1048576)) false (by decide) ?_;refine V.q ?_;refine V.c [(0,false)] cNew0 (fun K hK=>?_);refine V.q ?_;refine V.nilL ixV ixD 10 30 29 kq kq ?_;refine V.iter ?_;refine V.q ?_;refine V.kn 43 (!(([83,84,69,80,32,49,48,10,74,85,77,80,32,64,48,10]:List UInt8)==[])) true (by decide) ?_;refine V.t [⟨sCut,[0]⟩] [([83,84,69,80,32,49,48,10,74,85,77,80,32,64,48,10]:List UInt8).length<4294967281] (by show _<_; decide) ?_;refine V.c [(0,true),(1,false)] (cRead K hK [83,84,69,80,32,49,48] [[83,84,69,80],[49,48]] kq (by decide) kq (by decide) (pok_of (o0:=1) kq kq)) (fun y1 hy1=>?_);obtain ⟨x1,A1,b1⟩:=y1;have hz1:x1=asX1∧b1=true:=by unfold rdP at hy1; rw [asR1] at hy1; exact hy1
 obtain ⟨rfl,rfl⟩:=hz1;refine V.q ?_;refine V.kn 63 ((!true)||(!(Lib.cut ([83,84,69,80,32,49,48,10,74,85,77,80,32,64,48,10]:List UInt8) [10]).2.2)) false kq ?_;refine V.q ?_;refine V.push ixV ixD [] (asX1,A1) 0 none 0 30 29 (inV asX1 A1) 304 kq (by show _≤_; decide) rfl (fun _ _=>kq) (fun q1 c1=>?_);refine V.q ?_;refine V.iter ?_;refine V.ungrd ?_;refine V.q ?_;refine V.kn 43 (!(([74,85,77,80,32,64,48,10]:List UInt8)==[])) true (by decide) ?_;refine V.t [⟨sCut,[0]⟩] [([74,85,77,80,32,64,48,10]:List UInt8).length<4294967281] (by show _<_; decide) ?_;refine V.c [(3,true),(4,false)] (cRead K hK [74,85,77,80,32,64,48] [[74,85,77,80],[64,48]] kq (by decide) kq (by decide) (pok_of (o0:=14) kq kq)) (fun y2 hy2=>?_);obtain ⟨x2,A2,b2⟩:=y2;have hz2:x2=asX2∧b2=true:=by unfold rdP at hy2; rw [asR2] at hy2; exact hy2
 obtain ⟨rfl,rfl⟩:=hz2;refine V.q ?_;refine V.kn 63 ((!true)||(!(Lib.cut ([74,85,77,80,32,64,48,10]:List UInt8) [10]).2.2)) false kq ?_;refine V.q ?_;refine V.push ixV ixD ([]++[(asX1,A1)]) (asX2,A2) 1 q1 c1 30 29 (inV asX2 A2) 304 kq (by show 2*304≤140737488355328; decide) rfl (fun _ _=>kq) (fun q2 c2=>?_);refine V.q ?_;refine V.iter ?_;refine V.q ?_;refine V.kn 43 (!(([]:List UInt8)==[])) false (by decide) ?_;refine V.q ?_;refine V.freeze 2 (ixRow (([]++[(asX1,A1)])++[(asX2,A2)]) q2 c2 true) kq kq ?_;refine V.persNew [] [] (insP []) kq kq (fun k hk=>by obtain ⟨q,hq,_⟩:=hk; exact absurd hq (List.not_mem_nil)) (fun w hw q hq=>absurd hq (List.not_mem_nil)) (insP_stab _) ?_;refine V.persNew [(0,true),(5,true),(6,true),(7,true)] (insP []::lsP asX1 A1) (insP ([]++[(asX1,A1)])) kq kq (insP_snoc [] asX1 A1).1 (insP_snoc [] asX1 A1).2 (insP_stab _) ?_;refine V.persNew [(0,true),(3,true),(4,true),(5,true)] (insP ([]++[(asX1,A1)])::lsP asX2 A2) (insP (([]++[(asX1,A1)])++[(asX2,A2)])) kq kq (insP_snoc ([]++[(asX1,A1)]) asX2 A2).1 (insP_snoc ([]++[(asX1,A1)]) asX2 A2).2 (insP_stab _) ?_;have hok:okIx (([]++[(asX1,A1)])++[(asX2,A2)]):=⟨by show 2≤2000000; decide,fun e he=>by
  rcases List.mem_append.1 he with he | he
  ·rw [List.nil_append,List.mem_singleton] at he;subst he;exact ⟨kq,⟨by show 0≤1000; decide,by show 0≤1000; decide,by show 0≤1000; decide⟩⟩
  ·rw [List.mem_singleton] at he;subst he;exact ⟨kq,⟨by show 0≤1000; decide,by show 0≤1000; decide,by show 0≤1000; decide⟩⟩⟩
 refine V.c [(10,true),(0,true),(3,true)] (cModule K hK (([]++[(asX1,A1)])++[(asX2,A2)]) hok q2 c2 0 4) (fun qc _=>?_);refine V.q ?_;refine V.freeze 3 (rowL rlv (0,0) [] qc.1 qc.2 62 2 true) kq kq ?_;refine V.callK [(11,true),(0,true)] (cValid K hK [] ⟨asB,qc.1,0,qc.2⟩ rfl (by decide) (by show 7≤100000000; decide) 0 4) kq kq kq (fun t=>by cases t<;>kernel_rfl) (fun t ht=>?_);unfold tkPc at ht;rw [asV] at ht;obtain ⟨t',rfl,h1,h2⟩:=ht.1;refine V.q ?_;refine V.kn 84 (!true) false rfl ?_;refine V.q ?_;exact V.e (qc:Option Addr×Nat) [(3,true)] trivial
def sx1:In:={ emptyI 3 with d:=3,a:=0 }
theorem sx1_fine:cFine sx1=true:=kq
theorem sx1_okL:sx1.okL:=⟨by decide,by decide,by decide⟩
theorem sx1_dec (q:Option Addr) (c:Nat):(cDecR [] ⟨[3,8,2],q,0,c⟩ 0).2=sx1:=kq
theorem sx1_read:cReadS [[77,79,86,69],[114,51],[114,48]]=some sx1:=kq
theorem sx1_pok:((List.range (opFls 3).length).all fun i=>((opFls 3).getD i .D).pok (([[77,79,86,69],[114,51],[114,48]]:List (List UInt8)).getD (i+1) []))=true:=kq
theorem sx1_find:rdFind (([[77,79,86,69],[114,51],[114,48]]:List (List UInt8)).getD 0 [])=some 3:=kq
def sx2:In:={ emptyI 14 with n:=258 }
theorem sx2_fine:cFine sx2=true:=kq
theorem sx2_okL:sx2.okL:=⟨by decide,by decide,by decide⟩
theorem sx2_dec (q:Option Addr) (c:Nat):(cDecR [] ⟨[14,0,0,1,2],q,0,c⟩ 0).2=sx2:=kq
theorem sx2_read:cReadS [[74,85,77,80],[64,50,53,56]]=some sx2:=kq
theorem sx2_pok:((List.range (opFls 14).length).all fun i=>((opFls 14).getD i .D).pok (([[74,85,77,80],[64,50,53,56]]:List (List UInt8)).getD (i+1) []))=true:=kq
theorem sx2_find:rdFind (([[74,85,77,80],[64,50,53,56]]:List (List UInt8)).getD 0 [])=some 14:=kq
def sx3:In:={ emptyI 8 with d:=0,a:=1,t:=⟨2,15,0,false,[]⟩ }
theorem sx3_fine:cFine sx3=true:=kq
theorem sx3_okL:sx3.okL:=⟨by decide,by decide,by decide⟩
theorem sx3_dec (q:Option Addr) (c:Nat):(cDecR [] ⟨[8,2,4,4,30,0,0,0],q,0,c⟩ 0).2=sx3:=kq
theorem sx3_read:cReadS [[76,79,65,68],[114,48],[114,49],[50,44,49,53,44,48,44,48,44,61]]=some sx3:=kq
theorem sx3_pok:((List.range (opFls 8).length).all fun i=>((opFls 8).getD i .D).pok (([[76,79,65,68],[114,48],[114,49],[50,44,49,53,44,48,44,48,44,61]]:List (List UInt8)).getD (i+1) []))=true:=kq
theorem sx3_find:rdFind (([[76,79,65,68],[114,48],[114,49],[50,44,49,53,44,48,44,48,44,61]]:List (List UInt8)).getD 0 [])=some 8:=kq
def sx4:In:={ emptyI 17 with n:=5,l:=[2] }
theorem sx4_fine:cFine sx4=true:=kq
theorem sx4_okL:sx4.okL:=⟨by decide,by decide,by decide⟩
theorem sx4_dec (q:Option Addr) (c:Nat):(cDecR [(2,5)] ⟨[17,0,0,0,0,0,2,6],q,1,c⟩ 0).2=sx4:=kq
theorem sx4_read:cReadS [[67,65,76,76],[45],[33,53],[91,114,50,93]]=some sx4:=kq
theorem sx4_pok:((List.range (opFls 17).length).all fun i=>((opFls 17).getD i .D).pok (([[67,65,76,76],[45],[33,53],[91,114,50,93]]:List (List UInt8)).getD (i+1) []))=true:=kq
theorem sx4_find:rdFind (([[67,65,76,76],[45],[33,53],[91,114,50,93]]:List (List UInt8)).getD 0 [])=some 17:=kq
def sA4 (g:Nat):IA:=⟨none,0,some ⟨g,0,none⟩,1,none,0⟩
end Go.Proofs
end
section
namespace Go.Proofs
open Go Go.SX
def eqIn0 (x y:In):Bool:=x.op != y.op||x.d != y.d||x.a != y.a||x.b != y.b||!(x.t.k==y.t.k&&(x.t.p==y.t.p&&(x.t.q==y.t.q&&(x.t.v==y.t.v&&x.t.s==y.t.s))))||!(x.u.k==y.u.k&&(x.u.p==y.u.p&&(x.u.q==y.u.q&&(x.u.v==y.u.v&&x.u.s==y.u.s))))||!(x.w.k==y.w.k&&(x.w.p==y.w.p&&(x.w.q==y.w.q&&(x.w.v==y.w.v&&x.w.s==y.w.s))))||x.n != y.n||x.m != y.m||x.p != y.p||!(x.vn==y.vn&&x.vs==y.vs)||!x.size==y.size||!x.range==y.range||(x.f.length:Int) != (y.f.length:Int)||(x.l.length:Int) != (y.l.length:Int)||(x.y.length:Int) != (y.y.length:Int)
theorem eqIn0_eq (x y:In):eqIn0 x y=!(eqIn1 x y&&(x.size==y.size)&&(x.range==y.range)&&((x.f.length:Int)==(y.f.length:Int))&&((x.l.length:Int)==(y.l.length:Int))&&((x.y.length:Int)==(y.y.length:Int))):=by
 simp only [eqIn0,eqIn1,eqT,bne,Bool.not_and,Bool.or_assoc]
theorem eqIn0_len {x y:In} (h:eqIn0 x y=false):x.f.length=y.f.length∧x.l.length=y.l.length∧x.y.length=y.y.length:=by
 rw [eqIn0_eq] at h;simp only [Bool.not_eq_false',Bool.and_eq_true,beq_iff_eq] at h;omega
theorem eqIn_yes {x y:In} (h:eqIn0 x y=false) (hf:eqL eqF x.f y.f=true) (hl:eqL eqI x.l y.l=true) (hy:eqL eqT x.y y.y=true):eqIn x y=true:=by
 rw [eqIn0_eq] at h;simp only [Bool.not_eq_false',Bool.and_eq_true] at h;unfold eqIn;rw [hf,hl,hy,h.1.1.1.1.1,h.1.1.1.1.2,h.1.1.1.2];rfl
theorem eqL_true_len {α:Type} {f:α→α→Bool} {l m:List α} (h:eqL f l m=true):l.length=m.length:=by
 by_cases e:l.length=m.length
 ·exact e
 ·rw [eqL_len e] at h; cases h
theorem eqIn_no_0 {x y:In} (h:eqIn0 x y=true):eqIn x y=false:=by
 cases e:eqIn x y with
 | false=>rfl
 | true =>
  unfold eqIn at e;simp only [Bool.and_eq_true] at e;obtain ⟨⟨⟨⟨⟨h1,h2⟩,h3⟩,h4⟩,h5⟩,h6⟩:=e;rw [eqIn0_eq,h1,h5,h6,eqL_true_len h2,eqL_true_len h3,eqL_true_len h4] at h;simp at h
theorem eqIn_no_f {x y:In} (h:eqL eqF x.f y.f=false):eqIn x y=false:=by unfold eqIn; rw [h]; simp
theorem eqIn_no_l {x y:In} (h:eqL eqI x.l y.l=false):eqIn x y=false:=by unfold eqIn; rw [h]; simp
theorem eqIn_no_y {x y:In} (h:eqL eqT x.y y.y=false):eqIn x y=false:=by unfold eqIn; rw [h]; simp
end Go.Proofs
end
section
namespace Go.SX
variable {C:Ctx}
theorem V.factRow (i:Nat) (R:Row) {c:Cfg} (hp:c.st.pers[i]?=some (rowP R)) (ho:R.own=false)
  (h:V C ⟨c.todo,{ c.st with rows:=(c.st.nr,R)::c.st.rows,nr:=c.st.nr+1 }⟩):V C c:=by
 intro ρ a w hS;exact h ρ a w (hS.rowOfP hp ho)
end Go.SX
end
section
namespace Go.Proofs
open Go Go.SX
set_option maxRecDepth 10000
noncomputable def seB (x:In) (A:IA) (i:Nat):Blk:=⟨inC x (.row i A.qf x.f.length A.cf) (.row (i+1) A.ql x.l.length A.cl) (.row (i+2) A.qy x.y.length A.cy),30,true⟩
noncomputable def seSt (x y:In) (A B:IA) (t i:Nat):St :=
 { n:=(Tryz.f26).ntmps,slots:=[(2,.v (.one (.ptr 0 0))),(3,.v (.one (.ptr 1 0))),(t,.v (.one (.int .i64 (i:Int))))],gs:=[],heap:=[(0,seB x A 0),(1,seB y B 3)],next:=2,
    rows:=[(0,rowF x A),(1,rowI x A),(2,rowT x A),(3,rowF y B),(4,rowI y B),(5,rowT y B)],nr:=6,pers:=[],wr:=true,fx:=0 }
set_option maxHeartbeats 1000000 in
theorem cSame26r (x y:In) (A B:IA) (hx:x.okM) (r:Bool) (hr:r=eqIn x y):CallsK Tryz.prog 26 [.agg (inV x A),.agg (inV y B)] (stP (lsP x A++lsP y B)) (fun _:Unit=>True) (fun _=>.v (.one (.sb r))) (fun _=>noF):=by
 refine CallsK.m true Tryz.func26 (fun ρ0 w0=>?_);refine V.q ?_;refine V.bn 123 (eqIn0 x y) (fun hne=>?_) (fun heq=>?_)
 ·refine V.q ?_;have hz:r=false:=hr.trans (eqIn_no_0 hne);subst hz;refine V.sb 4 false ?_;exact V.z
 ·refine V.q ?_;refine V.factRow 0 (rowF x A) kq rfl ?_;refine V.factRow 1 (rowI x A) kq rfl ?_;refine V.factRow 2 (rowT x A) kq rfl ?_;refine V.factRow 3 (rowF y B) kq rfl ?_;refine V.factRow 4 (rowI y B) kq rfl ?_;refine V.factRow 5 (rowT y B) kq rfl ?_;refine V.cellRow 0 24 0 ⟨inV x A,30,true⟩ (rowF x A) kq kq kq ?_;refine V.cellRow 0 25 1 ⟨inC x (.row 0 A.qf x.f.length A.cf) (.val (.slice A.ql x.l.length A.cl)) (.val (.slice A.qy x.y.length A.cy)),30,true⟩ (rowI x A) kq kq kq ?_;refine V.cellRow 0 26 2 ⟨inC x (.row 0 A.qf x.f.length A.cf) (.row 1 A.ql x.l.length A.cl) (.val (.slice A.qy x.y.length A.cy)),30,true⟩ (rowT x A) kq kq kq ?_;refine V.cellRow 1 24 3 ⟨inV y B,30,true⟩ (rowF y B) kq kq kq ?_;refine V.cellRow 1 25 4 ⟨inC y (.row 3 B.qf y.f.length B.cf) (.val (.slice B.ql y.l.length B.cl)) (.val (.slice B.qy y.y.length B.cy)),30,true⟩ (rowI y B) kq kq kq ?_;refine V.cellRow 1 26 5 ⟨inC y (.row 3 B.qf y.f.length B.cf) (.row 4 B.ql y.l.length B.cl) (.val (.slice B.qy y.y.length B.cy)),30,true⟩ (rowT y B) kq kq kq ?_;have hxf:=hx.1;have hxl:=hx.2.1;have hxy:=hx.2.2;have hlf:x.f.length=y.f.length:=(eqIn0_len heq).1;have hll:x.l.length=y.l.length:=(eqIn0_len heq).2.1;have hly:x.y.length=y.y.length:=(eqIn0_len heq).2.2;refine V.iter ?_;refine V.loopTo [2,3,5] [0,1] [0,1,2,3,4,5] [] (fun i:Nat=>x.f.length - i) (seSt x y A B 5) (fun i=>i≤x.f.length∧∀ j,j<i→eqF (x.f.getD j fm0) (y.f.getD j fm0)=true) 0 kq ⟨Nat.zero_le _,fun j hj=>absurd hj (Nat.not_lt_zero j)⟩ (fun i hi ih=>?_);have hi1:=hi.1;have hall:=hi.2;refine V.q ?_;refine V.bn 128 (decide ((i:Int)<(x.f.length:Int))) (fun hc=>?_) (fun hc=>?_)
  ·have hlt:i<x.f.length:=by simpa using hc
   refine V.t [] [(0:Int)≤i∧(i:Int)<x.f.length,(0:Int)≤i∧(i:Int)<y.f.length] ⟨⟨by omega,by omega⟩,⟨by omega,by omega⟩⟩ ?_;refine V.bn 141 (!eqF (x.f.getD i fm0) (y.f.getD i fm0)) (fun hf=>?_) (fun hf=>?_)
   ·refine V.q ?_;have hz:r=false:=hr.trans (eqIn_no_f (eqL_at fm0 hlt (by omega) (by simpa using hf)));subst hz;refine V.sb 4 false ?_;exact V.z
   ·refine V.q ?_;refine V.up 5 i (by omega) ?_;refine V.iter ?_;refine V.back [2,3,5] [0,1] [0,1,2,3,4,5] [] (ih (i+1) ⟨hlt,fun j hj=>?_⟩ (by omega)) kq kq;by_cases e:j=i
    ·subst e; simpa using hf
    ·exact hall j (by omega)
  ·have hle:x.f.length=i:=by
    have:¬ i<x.f.length:=by simpa using hc
    omega
   have hf:eqL eqF x.f y.f=true:=eqL_all fm0 hlf (fun j hj=>hall j (by omega));refine V.q ?_;refine V.iter ?_;refine V.loopTo [2,3,6] [0,1] [0,1,2,3,4,5] [] (fun i:Nat=>x.l.length - i) (seSt x y A B 6) (fun i=>i≤x.l.length∧∀ j,j<i→eqI (x.l.getD j (0:Int)) (y.l.getD j (0:Int))=true) 0 kq ⟨Nat.zero_le _,fun j hj=>absurd hj (Nat.not_lt_zero j)⟩ (fun i hi ih=>?_);have hi1:=hi.1;have hall:=hi.2;refine V.q ?_;refine V.bn 146 (decide ((i:Int)<(x.l.length:Int))) (fun hc=>?_) (fun hc=>?_)
   ·have hlt:i<x.l.length:=by simpa using hc
    refine V.t [] [(0:Int)≤i∧(i:Int)<x.l.length,(0:Int)≤i∧(i:Int)<y.l.length] ⟨⟨by omega,by omega⟩,⟨by omega,by omega⟩⟩ ?_;refine V.bn 159 (!eqI (x.l.getD i (0:Int)) (y.l.getD i (0:Int))) (fun hf=>?_) (fun hf=>?_)
    ·refine V.q ?_;have hz:r=false:=hr.trans (eqIn_no_l (eqL_at (0:Int) hlt (by omega) (by simpa using hf)));subst hz;refine V.sb 4 false ?_;exact V.z
    ·refine V.q ?_;refine V.up 6 i (by omega) ?_;refine V.iter ?_;refine V.back [2,3,6] [0,1] [0,1,2,3,4,5] [] (ih (i+1) ⟨hlt,fun j hj=>?_⟩ (by omega)) kq kq;by_cases e:j=i
     ·subst e; simpa using hf
     ·exact hall j (by omega)
   ·have hle:x.l.length=i:=by
     have:¬ i<x.l.length:=by simpa using hc
     omega
    have hl:eqL eqI x.l y.l=true:=eqL_all (0:Int) hll (fun j hj=>hall j (by omega));refine V.q ?_;refine V.iter ?_;refine V.loopTo [2,3,7] [0,1] [0,1,2,3,4,5] [] (fun i:Nat=>x.y.length - i) (seSt x y A B 7) (fun i=>i≤x.y.length∧∀ j,j<i→eqT (x.y.getD j ty0) (y.y.getD j ty0)=true) 0 kq ⟨Nat.zero_le _,fun j hj=>absurd hj (Nat.not_lt_zero j)⟩ (fun i hi ih=>?_);have hi1:=hi.1;have hall:=hi.2;refine V.q ?_;refine V.bn 164 (decide ((i:Int)<(x.y.length:Int))) (fun hc=>?_) (fun hc=>?_)
    ·have hlt:i<x.y.length:=by simpa using hc
     refine V.t [] [(0:Int)≤i∧(i:Int)<x.y.length,(0:Int)≤i∧(i:Int)<y.y.length] ⟨⟨by omega,by omega⟩,⟨by omega,by omega⟩⟩ ?_;refine V.bn 177 (!eqT (x.y.getD i ty0) (y.y.getD i ty0)) (fun hf=>?_) (fun hf=>?_)
     ·refine V.q ?_;have hz:r=false:=hr.trans (eqIn_no_y (eqL_at ty0 hlt (by omega) (by simpa using hf)));subst hz;refine V.sb 4 false ?_;exact V.z
     ·refine V.q ?_;refine V.up 7 i (by omega) ?_;refine V.iter ?_;refine V.back [2,3,7] [0,1] [0,1,2,3,4,5] [] (ih (i+1) ⟨hlt,fun j hj=>?_⟩ (by omega)) kq kq;by_cases e:j=i
      ·subst e; simpa using hf
      ·exact hall j (by omega)
    ·have hle:x.y.length=i:=by
      have:¬ i<x.y.length:=by simpa using hc
      omega
     have hy:eqL eqT x.y y.y=true:=eqL_all ty0 hly (fun j hj=>hall j (by omega));refine V.q ?_;have hz:r=true:=hr.trans (eqIn_yes heq hf hl hy);subst hz;refine V.sb 4 true ?_;exact V.z
theorem cSame26 (x y:In) (A B:IA) (hx:x.okL):CallsK Tryz.prog 26 [.agg (inV x A),.agg (inV y B)] (stP (lsP x A++lsP y B)) (fun _:Unit=>True) (fun _=>.v (.one (.sb (eqIn x y)))) (fun _=>noF):=cSame26r x y A B hx.okM _ rfl
noncomputable def sSame26 (x y:In) (A B:IA) (hx:x.okM):Con Tryz.prog:=Con.inst 26 (lsP x A++lsP y B) [.agg (inV x A),.agg (inV y B)] (.v (.one (.sb (eqIn x y)))) (CallsK.gives (cSame26r x y A B hx _ rfl) ⟨rfl,rfl,rfl⟩ (fun _ _=>rfl))
def _root_.Go.SX.Con.inst2 {P:Program} (f:FuncId) (need:List Pers) (ys ys':List CV) (v:RV) (h:∀ ρ w,PersOk need w→Calls P f (ys.map (CV.den ρ)).toArray w (Gives (v.den ρ) w)) (h':∀ ρ w,PersOk need w→Calls P f (ys'.map (CV.den ρ)).toArray w (Gives (v.den ρ) w)):Con P where
 f:=f
 need:=need
 fn:=fun xs=>some (v,[xs=ys∨xs=ys'])
 ok:=by
  intro xs v' ob h1 hob ρ w hps _;simp only [Option.some.injEq,Prod.mk.injEq] at h1;obtain ⟨rfl,rfl⟩:=h1;rcases hob (xs=ys∨xs=ys') (List.mem_singleton.2 rfl) with e | e
  ·rw [e]; exact h ρ w hps
  ·rw [e]; exact h' ρ w hps
theorem persOk_sub {l m:List Pers} {w:World} (h:PersOk l w) (hs:∀ p∈m,p∈l):PersOk m w:=fun p hp=>h p (hs p hp)
noncomputable def sSame2 (x:In) (A B D:IA) (hx:x.okL):Con Tryz.prog:=Con.inst2 26 (lsP x D++lsP x B++lsP x A) [.agg (inV x D),.agg (inV x A)] [.agg (inV x B),.agg (inV x A)] (.v (.one (.sb (eqIn x x))))
 (fun ρ w hp=>CallsK.gives (cSame26 x x D A hx) ⟨rfl,rfl,rfl⟩ (fun _ _=>rfl) ρ w (persOk_sub hp (fun p h=>by
  rcases List.mem_append.1 h with h | h
  ·exact List.mem_append_left _ (List.mem_append_left _ h)
  ·exact List.mem_append_right _ h)))
 (fun ρ w hp=>CallsK.gives (cSame26 x x B A hx) ⟨rfl,rfl,rfl⟩ (fun _ _=>rfl) ρ w (persOk_sub hp (fun p h=>by
  rcases List.mem_append.1 h with h | h
  ·exact List.mem_append_left _ (List.mem_append_right _ h)
  ·exact List.mem_append_right _ h)))
theorem eqL_eq {α:Type} {f:α→α→Bool} (hf:∀ a b,f a b=true→a=b):∀ {l m:List α},eqL f l m=true→l=m
 | [],[],_=>rfl
 | x::l,y::m,h=>by
  unfold eqL at h;rw [Bool.and_eq_true] at h;rw [hf x y h.1,eqL_eq hf h.2]
 | [],_::_,h=>by cases h
 | _::_,[],h=>by cases h
theorem eqI_eq (a b:Int) (h:eqI a b=true):a=b:=by simpa [eqI] using h
theorem eqT_eq (a b:Ty) (h:eqT a b=true):a=b:=by
 obtain ⟨a1,a2,a3,a4,a5⟩:=a;obtain ⟨b1,b2,b3,b4,b5⟩:=b;simp only [eqT,Bool.and_eq_true,beq_iff_eq] at h;obtain ⟨h1,h2,h3,h4,h5⟩:=h;subst h1 h2 h3 h4 h5;rfl
theorem eqF_eq (a b:Fm) (h:eqF a b=true):a=b:=by
 obtain ⟨a1,a2,a3,a4⟩:=a;obtain ⟨b1,b2,b3,b4⟩:=b;simp only [eqF,Bool.and_eq_true,beq_iff_eq] at h;obtain ⟨h1,h2,h3,h4⟩:=h;subst h1 h2 h3 h4;rfl
theorem eqIn_eq {x y:In} (h:eqIn x y=true):x=y:=by
 unfold eqIn eqIn1 at h;simp only [Bool.and_eq_true,beq_iff_eq] at h;obtain ⟨⟨⟨⟨⟨hh,hf⟩,hl⟩,hy⟩,hs⟩,hr⟩:=h;obtain ⟨⟨⟨⟨⟨⟨⟨⟨⟨⟨h1,h2⟩,h3⟩,h4⟩,h5⟩,h6⟩,h7⟩,h8⟩,h9⟩,h10⟩,h11,h12⟩:=hh;have e5:=eqT_eq _ _ h5;have e6:=eqT_eq _ _ h6;have e7:=eqT_eq _ _ h7;have ef:=eqL_eq eqF_eq hf;have el:=eqL_eq eqI_eq hl;have ey:=eqL_eq eqT_eq hy;obtain ⟨a1,a2,a3,a4,a5,a6,a7,a8,a9,a10,a11,a12,a13,a14,a15,a16,a17⟩:=x;obtain ⟨b1,b2,b3,b4,b5,b6,b7,b8,b9,b10,b11,b12,b13,b14,b15,b16,b17⟩:=y;simp only at h1 h2 h3 h4 e5 e6 e7 h8 h9 h10 h11 h12 ef el ey hs hr;subst h1 h2 h3 h4 e5 e6 e7 h8 h9 h10 h11 h12 ef el ey hs hr;rfl
def inR (n lo hi:Int):Bool:=decide (n≥lo)&&decide (n≤hi)
def numR (n:Int):Bool:=decide (n≥-2147483647)&&decide (n≤2147483647)
def tyR (t:Ty):Bool:=numR t.k&&numR t.p&&numR t.q&&decide ((t.s.length:Int)≤255)
def fmR (f:Fm):Bool:=numR f.k&&numR f.w&&numR f.d&&decide ((f.s.length:Int)≤255)
theorem numR_eq (n:Int):numR n=isNum n:=by unfold numR isNum; rw [Bool.eq_iff_iff]; simp; omega
theorem tyR_eq (t:Ty):tyR t=isTy t:=by unfold tyR isTy; rw [numR_eq,numR_eq,numR_eq]
theorem fmR_eq (f:Fm):fmR f=isFm f:=by unfold fmR isFm; rw [numR_eq,numR_eq,numR_eq]
theorem rgR_eq (n:Int):inR n (-1) 3999=isRg n:=by unfold inR isRg; rw [Bool.eq_iff_iff]; simp; omega
theorem liR_eq (n:Int):inR n 0 3999=fineI n:=by unfold inR fineI isRg; rw [Bool.eq_iff_iff]; simp; omega
theorem all_eq {α:Type} {f g:α→Bool} (h:∀ x,f x=g x) (l:List α):l.all f=l.all g:=by rw [show f=g from funext h]
theorem and_l {a b:Bool} (h:(a&&b)=true):a=true:=(Bool.and_eq_true .. ▸ h:a=true∧b=true).1
theorem and_r {a b:Bool} (h:(a&&b)=true):b=true:=(Bool.and_eq_true .. ▸ h:a=true∧b=true).2
structure Good (x:In):Prop where
 gd:inR x.d (-1) 3999=true
 ga:inR x.a (-1) 3999=true
 gb:inR x.b (-1) 3999=true
 gn:numR x.n=true
 gm:numR x.m=true
 gp:numR x.p=true
 gt:tyR x.t=true
 gu:tyR x.u=true
 gw:tyR x.w=true
 gvn:numR x.vn=true
 gvs:decide ((x.vs.length:Int)≤255)=true
 nf:decide ((x.f.length:Int)≤16)=true
 nl:decide ((x.l.length:Int)≤16)=true
 ny:decide ((x.y.length:Int)≤16)=true
 gf:x.f.all fmR=true
 gl:(x.l.all fun n=>inR n 0 3999)=true
 gy:x.y.all tyR=true
theorem Good.zero (op:Int):Good (emptyI op):=⟨rfl,rfl,rfl,rfl,rfl,rfl,rfl,rfl,rfl,rfl,rfl,rfl,rfl,rfl,rfl,rfl,rfl⟩
def letR (f:Fl) (x:In):Bool:=match f with
 | .aN=>inR x.n 0 1048576
 | .aM=>inR x.m 0 1048576
 | .pN=>inR x.n 0 63
 | .pM=>inR x.m (-1) 63
 | .far=>inR x.n 0 1048576&&inR x.p 0 63
 | _=>true
theorem num_of {n lo hi:Int} (h:inR n lo hi=true) (h1:-2147483647≤lo:=by decide) (h2:hi≤2147483647:=by decide):numR n=true:=by
 unfold inR at h;unfold numR;simp only [Bool.and_eq_true,decide_eq_true_eq] at h ⊢;omega
theorem prR_eq (n:Int):inR n 0 63=isPr false n:=by unfold inR isPr; simp
theorem pmR_eq (n:Int):inR n (-1) 63=isPr true n:=by unfold inR isPr; rw [Bool.eq_iff_iff]; simp; omega
theorem farR_eq (x:In):(inR x.n 0 1048576&&inR x.p 0 63)=isFar x:=by unfold inR isFar; rw [Bool.eq_iff_iff]; simp; omega
theorem letR_of (f:Fl) (x:In) (h:f.fineB x=true):letR f x=true:=by
 cases f
 case aN=>exact h
 case aM=>exact h
 case pN=>exact (prR_eq x.n).trans h
 case pM=>exact (pmR_eq x.m).trans h
 case far=>exact (farR_eq x).trans h
 all_goals rfl
theorem fine_of (f:Fl) (x:In) (g:Good x) (h:letR f x=true):f.fineB x=true:=by
 cases f
 case D=>exact (rgR_eq x.d).symm.trans g.gd
 case A=>exact (rgR_eq x.a).symm.trans g.ga
 case B=>exact (rgR_eq x.b).symm.trans g.gb
 case N=>exact (numR_eq x.n).symm.trans g.gn
 case M=>exact (numR_eq x.m).symm.trans g.gm
 case P=>exact (numR_eq x.p).symm.trans g.gp
 case T=>exact (tyR_eq x.t).symm.trans g.gt
 case U=>exact (tyR_eq x.u).symm.trans g.gu
 case W=>exact (tyR_eq x.w).symm.trans g.gw
 case V =>
  show (isNum x.vn&&decide ((x.vs.length:Int)≤255))=true;rw [← numR_eq,g.gvn,g.gvs];rfl
 case L =>
  show (x.l.all fineI&&decide ((x.l.length:Int)≤16))=true;rw [← all_eq liR_eq,g.gl,g.nl];rfl
 case Y =>
  show (x.y.all isTy&&decide ((x.y.length:Int)≤16))=true;rw [← all_eq tyR_eq,g.gy,g.ny];rfl
 case F =>
  show (x.f.all isFm&&decide ((x.f.length:Int)≤16))=true;rw [← all_eq fmR_eq,g.gf,g.nf];rfl
 case Sz=>rfl
 case Rg=>rfl
 case aN=>exact h
 case aM=>exact h
 case pN=>exact (prR_eq x.n).symm.trans h
 case pM=>exact (pmR_eq x.m).symm.trans h
 case far=>exact (farR_eq x).symm.trans h
theorem Good.mv {x y:In} (g:Good y) (f:Fl) (h:f.fineB x=true):Good (f.mv x y):=by
 cases f
 case D=>exact ⟨(rgR_eq x.d).trans h,g.ga,g.gb,g.gn,g.gm,g.gp,g.gt,g.gu,g.gw,g.gvn,g.gvs,g.nf,g.nl,g.ny,g.gf,g.gl,g.gy⟩
 case A=>exact ⟨g.gd,(rgR_eq x.a).trans h,g.gb,g.gn,g.gm,g.gp,g.gt,g.gu,g.gw,g.gvn,g.gvs,g.nf,g.nl,g.ny,g.gf,g.gl,g.gy⟩
 case B=>exact ⟨g.gd,g.ga,(rgR_eq x.b).trans h,g.gn,g.gm,g.gp,g.gt,g.gu,g.gw,g.gvn,g.gvs,g.nf,g.nl,g.ny,g.gf,g.gl,g.gy⟩
 case N=>exact ⟨g.gd,g.ga,g.gb,(numR_eq x.n).trans h,g.gm,g.gp,g.gt,g.gu,g.gw,g.gvn,g.gvs,g.nf,g.nl,g.ny,g.gf,g.gl,g.gy⟩
 case M=>exact ⟨g.gd,g.ga,g.gb,g.gn,(numR_eq x.m).trans h,g.gp,g.gt,g.gu,g.gw,g.gvn,g.gvs,g.nf,g.nl,g.ny,g.gf,g.gl,g.gy⟩
 case P=>exact ⟨g.gd,g.ga,g.gb,g.gn,g.gm,(numR_eq x.p).trans h,g.gt,g.gu,g.gw,g.gvn,g.gvs,g.nf,g.nl,g.ny,g.gf,g.gl,g.gy⟩
 case T=>exact ⟨g.gd,g.ga,g.gb,g.gn,g.gm,g.gp,(tyR_eq x.t).trans h,g.gu,g.gw,g.gvn,g.gvs,g.nf,g.nl,g.ny,g.gf,g.gl,g.gy⟩
 case U=>exact ⟨g.gd,g.ga,g.gb,g.gn,g.gm,g.gp,g.gt,(tyR_eq x.u).trans h,g.gw,g.gvn,g.gvs,g.nf,g.nl,g.ny,g.gf,g.gl,g.gy⟩
 case W=>exact ⟨g.gd,g.ga,g.gb,g.gn,g.gm,g.gp,g.gt,g.gu,(tyR_eq x.w).trans h,g.gvn,g.gvs,g.nf,g.nl,g.ny,g.gf,g.gl,g.gy⟩
 case V=>exact ⟨g.gd,g.ga,g.gb,g.gn,g.gm,g.gp,g.gt,g.gu,g.gw,(numR_eq x.vn).trans (and_l h),and_r h,g.nf,g.nl,g.ny,g.gf,g.gl,g.gy⟩
 case L=>exact ⟨g.gd,g.ga,g.gb,g.gn,g.gm,g.gp,g.gt,g.gu,g.gw,g.gvn,g.gvs,g.nf,and_r h,g.ny,g.gf,(all_eq liR_eq x.l).trans (and_l h),g.gy⟩
 case Y=>exact ⟨g.gd,g.ga,g.gb,g.gn,g.gm,g.gp,g.gt,g.gu,g.gw,g.gvn,g.gvs,g.nf,g.nl,and_r h,g.gf,g.gl,(all_eq tyR_eq x.y).trans (and_l h)⟩
 case F=>exact ⟨g.gd,g.ga,g.gb,g.gn,g.gm,g.gp,g.gt,g.gu,g.gw,g.gvn,g.gvs,and_r h,g.nl,g.ny,(all_eq fmR_eq x.f).trans (and_l h),g.gl,g.gy⟩
 case Sz=>exact ⟨g.gd,g.ga,g.gb,g.gn,g.gm,g.gp,g.gt,g.gu,g.gw,g.gvn,g.gvs,g.nf,g.nl,g.ny,g.gf,g.gl,g.gy⟩
 case Rg=>exact ⟨g.gd,g.ga,g.gb,g.gn,g.gm,g.gp,g.gt,g.gu,g.gw,g.gvn,g.gvs,g.nf,g.nl,g.ny,g.gf,g.gl,g.gy⟩
 case aN=>exact ⟨g.gd,g.ga,g.gb,num_of (n:=x.n) (lo:=0) (hi:=1048576) h,g.gm,g.gp,g.gt,g.gu,g.gw,g.gvn,g.gvs,g.nf,g.nl,g.ny,g.gf,g.gl,g.gy⟩
 case aM=>exact ⟨g.gd,g.ga,g.gb,g.gn,num_of (n:=x.m) (lo:=0) (hi:=1048576) h,g.gp,g.gt,g.gu,g.gw,g.gvn,g.gvs,g.nf,g.nl,g.ny,g.gf,g.gl,g.gy⟩
 case pN=>exact ⟨g.gd,g.ga,g.gb,num_of (n:=x.n) ((prR_eq x.n).trans h),g.gm,g.gp,g.gt,g.gu,g.gw,g.gvn,g.gvs,g.nf,g.nl,g.ny,g.gf,g.gl,g.gy⟩
 case pM=>exact ⟨g.gd,g.ga,g.gb,g.gn,num_of (n:=x.m) ((pmR_eq x.m).trans h),g.gp,g.gt,g.gu,g.gw,g.gvn,g.gvs,g.nf,g.nl,g.ny,g.gf,g.gl,g.gy⟩
 case far=>exact ⟨g.gd,g.ga,g.gb,num_of (n:=x.n) (and_l ((farR_eq x).trans h)),g.gm,num_of (n:=x.p) (and_r ((farR_eq x).trans h)),g.gt,g.gu,g.gw,g.gvn,g.gvs,g.nf,g.nl,g.ny,g.gf,g.gl,g.gy⟩
theorem Good.mvL {x:In}:∀ {l:List Fl} {y:In},Good y→(∀ f∈l,f.fineB x=true)→Good (mvL x l y)
 | [],_,g,_=>g
 | f::l,y,g,h=>Good.mvL (l:=l) (y:=f.mv x y) (g.mv f (h f (List.mem_cons_self ..))) (fun f hf=>h f (List.mem_cons_of_mem _ hf))
theorem cFine_iff (x:In) (o:Nat) (ho:isOp o=true) (hop:x.op=(o:Int)):cFine x=true↔eqIn (mvL x (opFls o) (emptyI x.op)) x=true∧Good x∧∀ f∈opFls o,letR f x=true:=by
 have h1:=(isOp_iff o).1 ho;have hfind:opFind x.op=some (opFls o):=by unfold opFind; rw [if_pos (by omega),hop]; rfl
 have hc:cFine x=((opFls o).all (fun f=>f.fineB x)&&eqIn x (mvL x (opFls o) (emptyI x.op))):=by unfold cFine; rw [hfind]
 rw [hc,Bool.and_eq_true,List.all_eq_true];constructor
 ·rintro ⟨ha,he⟩;have e:=eqIn_eq he;refine ⟨?_,?_,fun f hf=>letR_of f x (ha f hf)⟩
  ·rw [← e] at he ⊢;exact he
  ·have g:=Good.mvL (x:=x) (Good.zero x.op) ha;rw [← e] at g;exact g
 ·rintro ⟨he,g,hl⟩;have e:=eqIn_eq he;refine ⟨fun f hf=>fine_of f x g (hl f hf),?_⟩;rw [e] at he ⊢;exact he
end Go.Proofs
end
section
namespace Go.Proofs
open Go Go.SX Go.ChangeShapes Go.WideShapes Go.ChangeAt Go.RowKit
set_option maxRecDepth 10000
section
variable {H:Type} {enc:TypeId×Value→H} {w:World} {base:Nat} {sp:Nat→Bool} {held:Bool}
noncomputable def fsOf (t:TypeId):Array Field:=match Tryz.prog.underlying t with
 | some (.struct fs)=>fs
 | _=>#[]
theorem fields {t:TypeId} {fuel:Nat} {cs:List Value} {x:DataW H×List MemPlace} (hu:Tryz.prog.underlying t=some (.struct (fsOf t))) (h:DataW.trod enc Tryz.prog w base sp held fuel t cs=some x) :
  cs.length=Tryz.prog.cellsOf t∧∃ n,∀ (i:Nat) (t':TypeId) (o k:Nat),((fsOf t)[i]?).map (fun f=>(f.type,f.offset))=some (t',o)→Tryz.prog.cellsOf t'=k→∃ y,DataW.trod enc Tryz.prog w base sp held n t' ((cs.drop o).take k)=some y:=by
 obtain ⟨xs,n,_,_,hl,hxl,hf⟩:=DataW.trod_struct hu h;refine ⟨hl,n,fun i t' o k h1 h2=>?_⟩;cases e:(fsOf t)[i]? with
 | none=>rw [e] at h1; cases h1
 | some f =>
  rw [e] at h1;simp only [Option.map_some,Option.some.injEq,Prod.mk.injEq] at h1;obtain ⟨h3,h4⟩:=h1;subst h3 h4 h2;have hi:i<xs.length:=by rw [hxl]; exact (Array.getElem?_eq_some_iff.1 e).1
  exact ⟨xs[i],by rw [hf i f e,List.getElem?_eq_getElem hi]⟩
def segs (cs:List Value):Nat→List Nat→List Value
 | o,[]=>cs.drop o
 | o,k::ks=>(cs.drop o).take k++segs cs (o+k) ks
theorem segs_eq (cs:List Value):∀ (ks:List Nat) (o:Nat),segs cs o ks=cs.drop o
 | [],_=>rfl
 | k::ks,o=>by
  show (cs.drop o).take k++segs cs (o+k) ks=cs.drop o;rw [segs_eq cs ks (o+k),← List.drop_drop,List.take_append_drop]
theorem o_int {n:Nat} {cs:List Value} {x:DataW H×List MemPlace} (h:DataW.trod enc Tryz.prog w base sp held n 3 cs=some x):∃ k,cs=[Value.int .i64 k]∧(Lit.int .i64 k).wf=true:=by
 obtain ⟨k,h1,_,h2⟩:=DataW.trod_int Tryz.underlying3 h;exact ⟨k,h1,h2⟩
theorem o_bool {n:Nat} {cs:List Value} {x:DataW H×List MemPlace} (h:DataW.trod enc Tryz.prog w base sp held n 4 cs=some x):∃ b,cs=[Value.bool b]:=by
 obtain ⟨b,h1,_⟩:=DataW.trod_bool Tryz.underlying4 h;exact ⟨b,h1⟩
theorem o_str {n:Nat} {cs:List Value} {x:DataW H×List MemPlace} (h:DataW.trod enc Tryz.prog w base sp held n 9 cs=some x):∃ s:List UInt8,cs=[Value.string ⟨s.toArray⟩]∧s.length≤maxLen:=by
 obtain ⟨s,h1,_,h2⟩:=DataW.trod_string Tryz.underlying9 h;exact ⟨s.data.toList,h1,h2⟩
theorem o_ty {n:Nat} {cs:List Value} {x:DataW H×List MemPlace} (h:DataW.trod enc Tryz.prog w base sp held n 23 cs=some x):∃ t:Ty,cs=t.cells.map SV.den0:=by
 obtain ⟨hl,m,hf⟩:=fields (t:=23) kq h;have hn:cs.length=5:=hl.trans kq;obtain ⟨y0,h0⟩:=hf 0 3 0 1 kq kq;obtain ⟨k,e0,w0⟩:=o_int h0;obtain ⟨y1,h1⟩:=hf 1 3 1 1 kq kq;obtain ⟨p,e1,w1⟩:=o_int h1;obtain ⟨y2,h2⟩:=hf 2 3 2 1 kq kq;obtain ⟨q,e2,w2⟩:=o_int h2;obtain ⟨y3,h3⟩:=hf 3 4 3 1 kq kq;obtain ⟨v,e3⟩:=o_bool h3;obtain ⟨y4,h4⟩:=hf 4 9 4 1 kq kq;obtain ⟨s,e4,w4⟩:=o_str h4;have e:cs=(cs.drop 0).take 1++((cs.drop 1).take 1++((cs.drop 2).take 1++((cs.drop 3).take 1++((cs.drop 4).take 1++cs.drop 5)))):=(segs_eq cs [1,1,1,1,1] 0).symm;rw [e0,e1,e2,e3,e4,List.drop_eq_nil_of_le (by omega)] at e;exact ⟨⟨k,p,q,v,s⟩,e⟩
theorem o_fm {n:Nat} {cs:List Value} {x:DataW H×List MemPlace} (h:DataW.trod enc Tryz.prog w base sp held n 93 cs=some x):∃ f:Fm,cs=f.cells.map SV.den0:=by
 obtain ⟨hl,m,hf⟩:=fields (t:=93) kq h;have hn:cs.length=4:=hl.trans kq;obtain ⟨y0,h0⟩:=hf 0 3 0 1 kq kq;obtain ⟨k,e0,w0⟩:=o_int h0;obtain ⟨y1,h1⟩:=hf 1 3 1 1 kq kq;obtain ⟨p,e1,w1⟩:=o_int h1;obtain ⟨y2,h2⟩:=hf 2 3 2 1 kq kq;obtain ⟨q,e2,w2⟩:=o_int h2;obtain ⟨y3,h3⟩:=hf 3 9 3 1 kq kq;obtain ⟨s,e3,w3⟩:=o_str h3;have e:cs=(cs.drop 0).take 1++((cs.drop 1).take 1++((cs.drop 2).take 1++((cs.drop 3).take 1++cs.drop 4))):=(segs_eq cs [1,1,1,1] 0).symm;rw [e0,e1,e2,e3,List.drop_eq_nil_of_le (by omega)] at e;exact ⟨⟨k,p,q,s⟩,e⟩
theorem o_val {n:Nat} {cs:List Value} {x:DataW H×List MemPlace} (h:DataW.trod enc Tryz.prog w base sp held n 25 cs=some x):∃ (n:Int) (s:List UInt8),cs=[Value.int .i64 n,Value.string ⟨s.toArray⟩]:=by
 obtain ⟨hl,m,hf⟩:=fields (t:=25) kq h;have hn:cs.length=2:=hl.trans kq;obtain ⟨y0,h0⟩:=hf 0 3 0 1 kq kq;obtain ⟨k,e0,w0⟩:=o_int h0;obtain ⟨y1,h1⟩:=hf 1 9 1 1 kq kq;obtain ⟨s,e1,w1⟩:=o_str h1;have e:cs=(cs.drop 0).take 1++((cs.drop 1).take 1++cs.drop 2):=(segs_eq cs [1,1] 0).symm;rw [e0,e1,List.drop_eq_nil_of_le (by omega)] at e;exact ⟨k,s,e⟩
def LastP (p:Pers) (w:World):Prop:=p.φ w∧∀ k,p.D k→k<w.heap.size
theorem o_list {α:Type} (f:α→List SV) (d:α) (tS e k:Nat) (hu:Tryz.prog.underlying tS=some (.slice e)) (hk:Tryz.prog.cellsOf e=k) (hk0:0<k) (hf:∀ a,(f a).length=k∧∀ x∈f a,x.plain)
  (elem:∀ (n:Nat) (cs:List Value) (x:DataW H×List MemPlace),DataW.trod enc Tryz.prog w base sp held n e cs=some x→∃ a,cs=(f a).map SV.den0)
  {n:Nat} {cs:List Value} {x:DataW H×List MemPlace} (h:DataW.trod enc Tryz.prog w base sp held n tS cs=some x) :
  ∃ (l:List α) (q:Option Addr) (c:Nat),cs=[.slice q l.length c]∧l.length≤maxLen∧LastP (rowP (rowL f d l q c e k false)) w:=by
 rcases DataW.trod_slice hu h with ⟨rfl,_⟩ | ⟨a,len,cap,elems,rest,m,_,rfl,_,_,hlc,hcm,hlen,hel,_,_⟩
 ·refine ⟨[],none,0,rfl,Nat.zero_le _,?_,?_⟩
  ·exact (row_none (R:=rowL f d [] none 0 e k false) rfl rfl rfl).2 w
  ·exact fun j hj=>absurd hj ((row_none (R:=rowL f d [] none 0 e k false) rfl rfl rfl).1 j)
 ·have hex:∀ i,i<len→∃ b:α,w.cells? base (a.add (i*k)) k=some ((f b).map SV.den0):=fun i hi=>by
   have h1:=hel i hi;rw [hk] at h1;have hi':i<elems.length:=by omega
   rw [List.getElem?_eq_getElem hi'] at h1;rw [Option.bind_eq_some_iff] at h1;obtain ⟨cs',h2,h3⟩:=h1;obtain ⟨b,rfl⟩:=elem _ _ _ h3;exact ⟨b,h2⟩
  let g:Nat→α:=fun i=>if hi:i<len then Classical.choose (hex i hi) else d
  have hg:∀ i,i<len→w.cells? base (a.add (i*k)) k=some ((f (g i)).map SV.den0):=fun i hi=>by
   have:=Classical.choose_spec (hex i hi);simp only [g,dif_pos hi];exact this
  have hll:((List.range len).map g).length=len:=by simp
  have hget:∀ i,i<len→((List.range len).map g).getD i d=g i:=fun i hi=>by simp [List.getD,hi]
  have hcell:∀ i,i<len→∀ j x,(f (g i))[j]?=some x→w.cell? ((a.add (i*k)).add j)=some x.den0:=fun i hi j x hx=>by
   obtain ⟨_,h2,h3⟩:=World.cells?_some (hg i hi);have hj:j<k:=by
    rw [← (hf (g i)).1];exact (List.getElem?_eq_some_iff.1 hx).1
   rw [h3 j hj,List.getElem?_map,hx];rfl
  refine ⟨(List.range len).map g,some a,cap,by rw [hll],by rw [hll]; omega,⟨?_,?_,?_,?_⟩,?_⟩
  ·intro i hi;exact hf _
  ·intro hpos;have hpos':0<len:=by
    have:0<((List.range len).map g).length:=hpos;omega
   have h0:∃ x,(f (g 0))[0]?=some x:=by
    have:0<(f (g 0)).length:=by rw [(hf (g 0)).1]; exact hk0
    exact ⟨_,List.getElem?_eq_getElem this⟩
   obtain ⟨x0,hx0⟩:=h0;have hs:=World.cell?_spot (hcell 0 hpos' 0 x0 hx0);obtain ⟨b,off,spot⟩:=a;have hspot:spot=none:=by simpa [Addr.add] using hs
   subst hspot;refine ⟨b,off,rfl,fun i j x hi hx=>?_⟩;have hi':i<len:=by
    have:i<((List.range len).map g).length:=hi;omega
   have hx':(f (g i))[j]?=some x:=by
    have hx2:(f (((List.range len).map g).getD i d))[j]?=some x:=hx;rw [hget i hi'] at hx2;exact hx2
   have:=hcell i hi' j x hx';rw [add_plain,add_plain,Nat.add_assoc] at this;exact this
  ·intro ho;cases ho
  ·intro o ho;cases ho
  ·rintro j ⟨a',ha',rfl,hd⟩;have ea:a=a':=Option.some.inj ha';subst ea;have hpos':0<len:=by
    rcases hd with hd | hd | hd
    ·cases hd
    ·have:0<((List.range len).map g).length:=hd;omega
    ·cases hd
   have:=World.cells?_block (hg 0 hpos') hk0;simpa [Addr.add] using this
theorem plain_ty (t:Ty):t.cells.length=5∧∀ x∈t.cells,x.plain:=⟨rfl,fun x hx=>by
 simp only [Ty.cells,List.mem_cons,List.not_mem_nil,or_false] at hx;rcases hx with rfl | rfl | rfl | rfl | rfl<;>trivial⟩
theorem plain_fm (t:Fm):t.cells.length=4∧∀ x∈t.cells,x.plain:=⟨rfl,fun x hx=>by
 simp only [Fm.cells,List.mem_cons,List.not_mem_nil,or_false] at hx;rcases hx with rfl | rfl | rfl | rfl<;>trivial⟩
theorem plain_intv (n:Int):(intv n).length=1∧∀ x∈intv n,x.plain:=⟨rfl,fun x hx=>by
 rw [List.mem_singleton.1 hx]; trivial⟩
theorem o_fs {n:Nat} {cs:List Value} {x:DataW H×List MemPlace} (h:DataW.trod enc Tryz.prog w base sp held n 26 cs=some x):∃ (l:List Fm) (q:Option Addr) (c:Nat),cs=[.slice q l.length c]∧l.length≤maxLen∧LastP (rowP (rowL Fm.cells fm0 l q c 93 4 false)) w :=
 o_list Fm.cells fm0 26 93 4 kq kq (by decide) plain_fm (fun n cs x h=>o_fm h) h
theorem o_ls {n:Nat} {cs:List Value} {x:DataW H×List MemPlace} (h:DataW.trod enc Tryz.prog w base sp held n 27 cs=some x):∃ (l:List Int) (q:Option Addr) (c:Nat),cs=[.slice q l.length c]∧l.length≤maxLen∧LastP (rowP (rowL intv 0 l q c 3 1 false)) w :=
 o_list intv 0 27 3 1 kq kq (by decide) plain_intv (fun n cs x h=>by obtain ⟨k,e,_⟩:=o_int h; exact ⟨k,e⟩) h
theorem o_ys {n:Nat} {cs:List Value} {x:DataW H×List MemPlace} (h:DataW.trod enc Tryz.prog w base sp held n 28 cs=some x):∃ (l:List Ty) (q:Option Addr) (c:Nat),cs=[.slice q l.length c]∧l.length≤maxLen∧LastP (rowP (rowL Ty.cells ty0 l q c 23 5 false)) w :=
 o_list Ty.cells ty0 28 23 5 kq kq (by decide) plain_ty (fun n cs x h=>o_ty h) h
theorem o_in {n:Nat} {cs:List Value} {x:DataW H×List MemPlace} (h:DataW.trod enc Tryz.prog w base sp held n 30 cs=some x):∃ (x:In) (A:IA),cs=(inV x A).map SV.den0∧x.f.length≤maxLen∧x.l.length≤maxLen∧x.y.length≤maxLen∧∀ p∈lsP x A,LastP p w:=by
 obtain ⟨hl,m,hf⟩:=fields (t:=30) kq h;have hn:cs.length=29:=hl.trans kq;obtain ⟨y0,h0⟩:=hf 0 3 0 1 kq kq;obtain ⟨op,e0,w0⟩:=o_int h0;obtain ⟨y1,h1⟩:=hf 1 3 1 1 kq kq;obtain ⟨vd,e1,w1⟩:=o_int h1;obtain ⟨y2,h2⟩:=hf 2 3 2 1 kq kq;obtain ⟨va,e2,w2⟩:=o_int h2;obtain ⟨y3,h3⟩:=hf 3 3 3 1 kq kq;obtain ⟨vb,e3,w3⟩:=o_int h3;obtain ⟨y4,h4⟩:=hf 4 23 4 5 kq kq;obtain ⟨vt,e4⟩:=o_ty h4;obtain ⟨y5,h5⟩:=hf 5 23 9 5 kq kq;obtain ⟨vu,e5⟩:=o_ty h5;obtain ⟨y6,h6⟩:=hf 6 23 14 5 kq kq;obtain ⟨vw,e6⟩:=o_ty h6;obtain ⟨y7,h7⟩:=hf 7 3 19 1 kq kq;obtain ⟨vn,e7,w7⟩:=o_int h7;obtain ⟨y8,h8⟩:=hf 8 3 20 1 kq kq;obtain ⟨vm,e8,w8⟩:=o_int h8;obtain ⟨y9,h9⟩:=hf 9 3 21 1 kq kq;obtain ⟨vp,e9,w9⟩:=o_int h9;obtain ⟨y10,h10⟩:=hf 10 25 22 2 kq kq;obtain ⟨vv,vvs,e10⟩:=o_val h10;obtain ⟨y11,h11⟩:=hf 11 26 24 1 kq kq;obtain ⟨lf,q11,c11,e11,w11,r11⟩:=o_fs h11;obtain ⟨y12,h12⟩:=hf 12 27 25 1 kq kq;obtain ⟨ll,q12,c12,e12,w12,r12⟩:=o_ls h12;obtain ⟨y13,h13⟩:=hf 13 28 26 1 kq kq;obtain ⟨ly,q13,c13,e13,w13,r13⟩:=o_ys h13;obtain ⟨y14,h14⟩:=hf 14 4 27 1 kq kq;obtain ⟨bs,e14⟩:=o_bool h14;obtain ⟨y15,h15⟩:=hf 15 4 28 1 kq kq;obtain ⟨br,e15⟩:=o_bool h15;have e:cs=(cs.drop 0).take 1++((cs.drop 1).take 1++((cs.drop 2).take 1++((cs.drop 3).take 1++((cs.drop 4).take 5++((cs.drop 9).take 5++((cs.drop 14).take 5++((cs.drop 19).take 1++((cs.drop 20).take 1++((cs.drop 21).take 1++((cs.drop 22).take 2++((cs.drop 24).take 1++((cs.drop 25).take 1++((cs.drop 26).take 1++((cs.drop 27).take 1++((cs.drop 28).take 1++cs.drop 29))))))))))))))):=(segs_eq cs [1,1,1,1,5,5,5,1,1,1,2,1,1,1,1,1] 0).symm;rw [e0,e1,e2,e3,e4,e5,e6,e7,e8,e9,e10,e11,e12,e13,e14,e15,List.drop_eq_nil_of_le (by omega)] at e;exact ⟨⟨op,vd,va,vb,vt,vu,vw,vn,vm,vp,vv,vvs,lf,ll,ly,bs,br⟩,⟨q11,c11,q12,c12,q13,c13⟩,e,w11,w12,w13,fun p hp=>by
  simp only [lsP,List.mem_cons,List.not_mem_nil,or_false] at hp;rcases hp with rfl | rfl | rfl
  ·exact r11
  ·exact r12
  ·exact r13⟩
theorem open_in {r:Reach} {b0:Nat} {v:Value} {dd:DataW H} {ps:List MemPlace} (hval:Value.okWide Tryz.prog w r b0 30 v) (h:DataW.Trod enc Tryz.prog w base sp held 30 v dd ps) :
  ∃ (x:In) (A:IA),v=(CV.agg (inV x A)).den (fun _=>0)∧x.f.length≤maxLen∧x.l.length≤maxLen∧x.y.length≤maxLen∧∀ p∈lsP x A,LastP p w:=by
 obtain ⟨cs,rfl,_⟩:=okWide_struct (P:=Tryz.prog) (t:=30) (fs:=fsOf 30) kq hval;obtain ⟨fuel,hf⟩:=h;obtain ⟨x,A,e,h1⟩:=o_in hf;refine ⟨x,A,?_,h1⟩;have e':cs=((inV x A).map SV.den0).toArray:=by
  rw [← e];rfl
 rw [e'];rfl
end
end Go.Proofs
end
section
namespace Go.Proofs
open Go Go.SX Go.ChangeShapes Go.WideShapes Go.ChangeAt Go.RowKit
set_option maxRecDepth 10000
theorem allKids:Kids Tryz.prog (· < Tryz.prog.types.size):=kids_rows kq kq
theorem allFull:∀ t e,t<Tryz.prog.types.size→Tryz.prog.underlying t=some (.slice e)→0<Tryz.prog.cellsOf e:=slices_full_of Tryz.prog kq
section
variable {H:Type} {enc:TypeId×Value→H}
theorem trodAll_carry {w w':World} {base:Nat} {sp:Nat→Bool} {held:Bool}:∀ {ts:List TypeId} {vs:List Value} {ds:List (DataW H)} {ps:List MemPlace},
    DataW.TrodAll enc Tryz.prog w base sp held ts vs ds ps→(∀ p∈ps,w.sameAt w' p)→DataW.TrodAll enc Tryz.prog w' base sp held ts vs ds ps
 | [],[],[],_,h,_=>h
 | _::_,_::_,_::_,_,⟨p,q,⟨n,h1⟩,h2,e⟩,hs =>
  ⟨p,q,⟨n,DataW.trod_carry n _ _ _ h1 (fun x hx=>hs x (by rw [e]; exact List.mem_append_left _ hx))⟩,trodAll_carry h2 (fun x hx=>hs x (by rw [e]; exact List.mem_append_right _ hx)),e⟩
theorem same_of_chg {W W':World} (hc:Chg (fun _=>False) W W') (p:MemPlace) (hp:p.block<W.heap.size):W.sameAt W' p:=by
 cases p with
 | cell b off=>exact World.cell?_of_block (w:=W) (a:=⟨b,off,none⟩) (hc.block b hp id)
 | map b=>exact hc.block b hp id
theorem post_true {f:Func} {s:ChangeSpec} {apart fresh handsOn:Bool} {W W':World} {args:Array Value} {ds:List (DataW H)} {before:List MemPlace}
  (hv:s.vars=[]) (hr:f.resultTypes=#[4]) (hp:∀ t∈f.params.toList,t<Tryz.prog.types.size)
  (hW:DataW.Whole enc Tryz.prog f.params.toList s.vars apart W args.toList ds [] before)
  (hs:s.fn H (ds++[])={ results:=[.lit (.bool true)],args:=ds })
  (hc:Chg (fun _=>False) W W'):s.post enc Tryz.prog f apart fresh handsOn false W args (.bool true) W':=by
 have hlt:=hW.lt;have hW0:=hW;obtain ⟨p,q,hA,hV,e,hz,hn⟩:=hW;rw [hv] at hV;obtain ⟨_,rfl⟩:=trodVars_none hV;have hpl:∀ x∈p,x.block<W.heap.size:=fun x hx=>hlt x (by rw [e]; exact List.mem_append_left _ hx);refine ⟨ds,[],before,[],p,[],hW0,?_,?_,?_,?_,fun h=>by cases h⟩
 ·rw [hs,hr];exact trodAll_mk1 (shut_bool Tryz.underlying4 true)
 ·rw [hs];exact trodAll_carry (DataW.TrodAll.respare allKids allFull hp hA (fun x hx=>decide_eq_true (hpl x hx))) (fun x hx=>same_of_chg hc x (hpl x hx))
 ·rw [hs,hv];rfl
 ·exact (World.keptBut_refl W _).congr hc.os hc.output (fun i hi=>hc.block i hi id)
end
end Go.Proofs
end
section
namespace Go.Proofs.YteinbljapojcgaaGreatDoor
open Go Go.SX Go.ChangeShapes Go.WideShapes Go.ChangeAt Go.RowKit
set_option maxRecDepth 100000
section
variable {H:Type} {enc:TypeId×Value→H}
theorem returns_wrap {a:Assume} {C:Checked} {os:Os} {f:FuncId} {fn:Func} {s:ChangeSpec} {conds:List PathCond} {apart fresh handsOn again:Bool} {X:World→Array Value→Prop}
  (hX:∀ (w w':World) (args:Array Value),w.heap=w'.heap→X w args→X w' args)
  (own:ownKnob C.prog.godebug=none) (started:os.Started) (noInit:C.prog.inits.idxOf? f=none) (hfn:C.prog.funcs[f]?=some fn)
  (witness:∃ (w:World) (tape:Tape) (i:Input),w.os=os∧(w.forCall tape i).Shaped C.prog∧i.vars=[]∧Input.okWide C.prog (w.forCall tape i) .any w.heap.size f i ∧
   ((s.pre enc C.prog fn conds apart (w.forCall tape i).memory i.args∧X (w.forCall tape i).memory i.args)∧sizedMet enc C.prog fn (OpenSpec.ofChange s) apart (w.forCall tape i).memory i.args)∧a.holds C.prog (lone (Frame.enter C.prog f i.args .normal) [] (w.forCall tape i)))
  (contract:∀ (W:World) (base:Nat) (args:Array Value) (ds gs:List (DataW H)) (before:List MemPlace),
      (∀ (j:Nat) t v,fn.params[j]?=some t→args[j]?=some v→Value.okWide C.prog W .any base t v) →
   DataW.Whole enc C.prog fn.params.toList s.vars apart W args.toList ds gs before →
   X W args→W.ShapedOpen C.prog →
   Calls C.prog f args W fun e W'=>∃ v,e=.returned v∧s.post enc C.prog fn apart fresh handsOn again W args v W') :
  ReturnsInHanded a C os f .any (fun w args=>(s.pre enc C.prog fn conds apart w args∧X w args)∧sizedMet enc C.prog fn (OpenSpec.ofChange s) apart w args) (s.post enc C.prog fn apart fresh handsOn again):=by
 refine returnsInHanded_of_calls own started noInit witness ?_;intro w tape i _ hsh _ hok hpre hholds;obtain ⟨_,_,_,fn',hfn',_,_,_,_,hval⟩:=hok;have e:fn'=fn:=Option.some.inj (hfn'.symm.trans hfn);subst e;obtain ⟨⟨⟨ds,gs,before,hw,hc⟩,hx⟩,hz⟩:=hpre;have hw':=DataW.Whole.of_heap (w':=w.forCall tape i) (by rfl) hw;refine (contract (w.forCall tape i) w.heap.size i.args ds gs before hval hw' (hX _ _ _ (by rfl) hx) hsh).mono fun e W' ⟨v,he,hp⟩=>?_;subst he;exact ChangeSpec.post_blind hp
theorem iface_cell {P:Program} {w:World} {base:Nat} {sp:Nat→Bool} {held:Bool} {t:TypeId} {ms:Array (String×TypeId)} {n:Nat} {cs:List Value} {u:String} {d:DataW H} {ps:List MemPlace} (ht:P.underlying t=some (.interface ms))
  (h:DataW.trod enc P w base sp held n t cs=some (.iface u d,ps)):∃ tp p,cs=[.iface tp p]:=by
 cases n with
 | zero=>simp [DataW.trod] at h
 | succ n =>
  unfold DataW.trod at h;rw [ht] at h;split at h<;>first | exact ⟨_,_,rfl⟩ | simp_all
end
noncomputable def laidL:List (String×DataW Unit):=Rows.codeOrderRow.laid
theorem tab_e (nm:String) (g t e n:Nat) (k:IntKind) (zs:List Int) (W:World) (d:DataW Unit) (hd:d=Lib.tabData k zs) (hg:Tryz.prog.globalNamed nm=some g) (hty:(Tryz.prog.globals[g]?).map (·.type)=some t)
  (ht:Tryz.prog.underlying t=some (.array n e)) (he:Tryz.prog.underlying e=some (.int k)) (hce:Tryz.prog.cellsOf e=1) (hct:Tryz.prog.cellsOf t=n)
  (h:∃ g t cs fuel p,Tryz.prog.globalNamed nm=some g∧(Tryz.prog.globals[g]?).map (·.type)=some t∧W.var? Tryz.prog nm=some cs∧DataW.trod (fun _=>()) Tryz.prog W 0 (fun _=>true) false fuel t cs.toList=some (d,p)):Lib.TabIs Tryz.prog W nm k zs:=by
 obtain ⟨g',t',cs,fuel,p,h1,h2,h3,h4⟩:=h;obtain rfl:=Option.some.inj (hg.symm.trans h1);obtain rfl:=Option.some.inj (hty.symm.trans h2);subst hd;unfold Lib.TabIs;rw [h3,← Lib.cells_of_tab ht he hce hct h4]
theorem iface_e (nm:String) (g t:Nat) (ms:Array (String×TypeId)) (W:World) (u:String) (d:DataW Unit) (hg:Tryz.prog.globalNamed nm=some g) (hty:(Tryz.prog.globals[g]?).map (·.type)=some t) (ht:Tryz.prog.underlying t=some (.interface ms))
  (h:∃ g t cs fuel p,Tryz.prog.globalNamed nm=some g∧(Tryz.prog.globals[g]?).map (·.type)=some t∧W.var? Tryz.prog nm=some cs∧DataW.trod (fun _=>()) Tryz.prog W 0 (fun _=>true) false fuel t cs.toList=some (.iface u d,p)):∃ tp p,W.var? Tryz.prog nm=some #[Value.iface tp p]:=by
 obtain ⟨g',t',cs,fuel,p,h1,h2,h3,h4⟩:=h;obtain rfl:=Option.some.inj (hg.symm.trans h1);obtain rfl:=Option.some.inj (hty.symm.trans h2);obtain ⟨tp,q,e⟩:=iface_cell ht h4;exact ⟨tp,q,by rw [h3,Array.eq_one_of_toList e]⟩
theorem laid_at {P:Program} {w:World}:∀ {l:List (String×DataW Unit)} {ps:List MemPlace},DataW.LaidVars P w l ps→∀ (n:String) (d:DataW Unit),(n,d)∈l →
  ∃ g t cs fuel p,P.globalNamed n=some g∧(P.globals[g]?).map (·.type)=some t∧w.var? P n=some cs∧DataW.trod (fun _=>()) P w 0 (fun _=>true) false fuel t cs.toList=some (d,p)
 | [],_,_,n,d,h=>by cases h
 | (m,e)::l,_,⟨g,t,cs,fuel,p,q,h1,h2,h3,h4,h5,_⟩,n,d,h=>by
  rcases List.mem_cons.1 h with e1 | h
  ·obtain ⟨rfl,rfl⟩:=Prod.mk.inj e1;exact ⟨g,t,cs,fuel,p,h1,h2,h3,h4⟩
  ·exact laid_at h5 n d h
theorem glb_of_laid {W:World} (h:laidMetH Tryz.prog laidL W) (hsh:W.ShapedOpen Tryz.prog):LastP glbP W:=by
 rw [MakeChecks.laidMetH_plain _ _ _ kq] at h;obtain ⟨ps,hL,_,_⟩:=h;have h11:11<W.heap.size:=by
  have h0:((begin Tryz.prog (fun _ _=>0) default).world.heap[11]?).bind Obj.row?=some (#[.pointer none],258):=kq;obtain ⟨cs,hh,_⟩:=hsh.1 11 #[.pointer none] 258 (of_decide_eq_true kq) h0;rcases Nat.lt_or_ge 11 W.heap.size with hlt | hge
  ·exact hlt
  ·rw [Array.getElem?_eq_none hge] at hh; cases hh
 refine ⟨⟨?_,?_,?_,?_,?_,?_⟩,fun k hk=>Nat.lt_of_lt_of_le hk h11⟩
 ·exact tab_e _ 3 296 106 20 .u64 Lib.pow10Tab W _ kq kq kq kq kq kq kq (laid_at hL _ Rows.laid_internal_strconv_uint64pow10 (List.mem_of_getElem? (i:=2) kq))
 ·exact iface_e _ 4 139 #[("Error",142)] W _ _ kq kq kq (laid_at hL _ Rows.laid_strconv_ErrSyntax (List.mem_of_getElem? (i:=5) kq))
 ·exact iface_e _ 5 139 #[("Error",142)] W _ _ kq kq kq (laid_at hL _ Rows.laid_strconv_ErrRange (List.mem_of_getElem? (i:=4) kq))
 ·exact cell_of_shapedOpen_int (P:=Tryz.prog) (g:=1) (t:=3) (zero:=#[.int .i64 0]) hsh (of_decide_eq_true kq) kq rfl kq kq Tryz.underlying3
 ·exact tab_e _ 0 229 5 256 .u8 Lib.asciiSpaceTab W _ kq kq kq kq kq kq kq (laid_at hL _ Rows.laid_strings_asciiSpace (List.mem_of_getElem? (i:=7) kq))
 ·exact tab_e _ 10 317 5 64 .u8 dbTab W _ kq kq kq kq kq kq kq (laid_at hL _ Rows.laid_math_bits_deBruijn64tab (List.mem_of_getElem? (i:=1) kq))
end Go.Proofs.YteinbljapojcgaaGreatDoor
end
section
namespace Go.Proofs
open Go Go.SX Go.ChangeShapes Go.WideShapes Go.ChangeAt Go.RowKit
set_option maxRecDepth 10000
section
variable {H:Type} {enc:TypeId×Value→H} {w:World} {base:Nat} {sp:Nat→Bool} {held:Bool}
end
end Go.Proofs
end
section
namespace Go.Proofs
open Go Go.SX
set_option maxRecDepth 10000
end Go.Proofs
end
