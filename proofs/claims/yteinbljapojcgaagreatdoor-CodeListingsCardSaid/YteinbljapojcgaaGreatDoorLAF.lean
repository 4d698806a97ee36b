/- A symbolic run of the program that Lean checks, and what the functions of the program come to by it: part 6 of 6. -/
import Derived.Shelf.Lays
import Derived.Ground.Names2Prog
import Derived.Shelf.Strings.Search3
import Derived.Test.YteinbljapojcgaaGreatDoorProg
import Derived.Test.YteinbljapojcgaaGreatDoorRows
import Derived.Test.YteinbljapojcgaaGreatDoorTie
import Derived.Test.YteinbljapojcgaaGreatDoorCards
import Derived.JoinedOf
import Derived.KernelRfl
import Derived.SevenTiedAt
import Derived.ChangeMaps5
import Derived.ProofKit
import Derived.OpenShut
import Derived.Stop.Joined
import Derived.Test.YteinbljapojcgaaGreatDoorLAE
set_option linter.unusedVariables false
set_option maxHeartbeats 4000000
set_option maxRecDepth 10000
open Bool renaming and_eq_true->a0g,or_eq_true->a3w,or_eq_false_iff->a2r,not_eq_false'->a5x,eq_iff_iff->a6j
open Go.IntKind renaming i64->a0h,u8->a1x,wrap->a1s,bits->a1t,signed->a1p
open Go.Lib renaming join->a1u,itoa->a0i,itoa_length_le->a2e,cut->a3d
open Go.Proofs.Fl renaming fineB->a2q,ch->a3z,tkn->a5e
open Go.Proofs.Fm renaming cells->a5f
open Go.Proofs.Sel renaming get->a0u,set->a1i
open Go.Proofs.Tryz renaming prog->a0a,func63->a3c,func67->a2w,func138->a2v,f8->a3j,underlying3->a3g
open Go.Proofs.Ty renaming cells->a5g
open Go.Proofs.m7 renaming get->a3l
open Go.Proofs.m8 renaming get->a5i
open Go.SX.CallsK renaming m->a0j
open Go.SX.V renaming iter->a1l,up->a3v,push->a6q,freeze->a3a,soft->a6f
open Go.SX.VX renaming run->a1z,push->a6s
open Int renaming toNat_natCast->a1h
open List renaming length_append->a0c,length_singleton->a1j,take_add_one->a2c,getElem?_eq_getElem->a0b,map_append->a2x,getD->a0r,length_map->a1k,length_take->a2b,take_length->a1o,getElem?_map->a2t,getElem_mem->a5b,drop_eq_getElem_cons->a2k,take_append_drop->a6g,length_drop->a2p,append_assoc->a1g,mem_append->a2s,mem_singleton->a0d,length_cons->a0p,append_nil->a1q,mem_of_getElem?->a0v,mem_map->a1d,all_eq_true->a0y,mem_cons_self->a0f,mem_cons_of_mem->a0e,length_nil->a1r,flatMap_append->a3y,mem_of_mem_take->a5l,flatMap_cons->a2z,mem_cons->a0k,not_mem_nil->a1a
open Nat renaming zero_le->a0s,le_refl->a0q,le_trans->a0n,not_lt_zero->a0x,add_sub_cancel->a3x
open Option renaming getD_some->a1e,isSome_iff_exists->a2o
open Option.some renaming inj->a2h,injEq->a0l
open Prod.mk renaming injEq->a1f
open UInt8 renaming toNat_inj->a4b,ofNat->a1c
noncomputable section
section
namespace Go.Proofs
open Go Go.SX
def FtK (f:Fl) (x:In) (A:IA):Prop:=CallsK a0a 63 [.agg (inV x A),.one (.int .u8 (f.ch.toNat:Int))] (stP (j7::lsP x A)) (λ_:Unit=>True) (λ_=>ov (.str (f.txt x))) (λ_=>noF)
theorem Y3 (c:UInt8) (l:List (List UInt8)) (w:List UInt8):a1u (l++[w]) [c]=if l.length=0 then w else a1u l [c]++[c]++w:=by
 induction l with
 | nil=>exact Lib.join_one _ _
 | cons v l ih =>
  rw [if_neg (by simp)];cases l with
  | nil=>rw [Lib.join_one]; show a1u [v,w] [c]=_; rw [cL,Lib.join_one]; simp
  | cons u l =>
   rw [if_neg (by simp)] at ih;show a1u (v::u::(l++[w])) [c]=_;rw [cL,cL];have ih':a1u (u::(l++[w])) [c]=_:=ih;rw [ih'];simp
theorem SN (x:In) (A:IA) (hf:a2q .D x=true):FtK .D x A:=by
 have h:=ee (n:=a0u .D x) hf;exact a0j true a3c fun ρ w=>l6 [⟨wn,[3]⟩] 60 [inK .i64 (a0u .D x)] ⟨by omega,by omega⟩<|V.s 4 (.one (.str (rgT (a0u .D x)))) (.one (.str (Fl.txt .D x))) (λ_=>by rw [fG]; rfl)<|V.z
theorem SO (x:In) (A:IA) (hf:a2q .A x=true):FtK .A x A:=by
 have h:=ee (n:=a0u .A x) hf;exact a0j true a3c fun ρ w=>l6 [⟨wn,[3]⟩] 60 [inK .i64 (a0u .A x)] ⟨by omega,by omega⟩<|V.s 4 (.one (.str (rgT (a0u .A x)))) (.one (.str (Fl.txt .A x))) (λ_=>by rw [fG]; rfl)<|V.z
theorem SP (x:In) (A:IA) (hf:a2q .B x=true):FtK .B x A:=by
 have h:=ee (n:=a0u .B x) hf;exact a0j true a3c fun ρ w=>l6 [⟨wn,[3]⟩] 60 [inK .i64 (a0u .B x)] ⟨by omega,by omega⟩<|V.s 4 (.one (.str (rgT (a0u .B x)))) (.one (.str (Fl.txt .B x))) (λ_=>by rw [fG]; rfl)<|V.z
theorem SQ (x:In) (A:IA) (hf:a2q .N x=true):FtK .N x A:=by
 have h:=Q4 (n:=a0u .N x) hf;exact a0j true a3c fun ρ w=>l6 [⟨ai,[3]⟩] 60 [inK .i64 (a0u .N x)] ⟨by omega,by omega⟩<|V.z
theorem SR (x:In) (A:IA) (hf:a2q .M x=true):FtK .M x A:=by
 have h:=Q4 (n:=a0u .M x) hf;exact a0j true a3c fun ρ w=>l6 [⟨ai,[3]⟩] 60 [inK .i64 (a0u .M x)] ⟨by omega,by omega⟩<|V.z
theorem SS (x:In) (A:IA) (hf:a2q .P x=true):FtK .P x A:=by
 have h:=Q4 (n:=a0u .P x) hf;exact a0j true a3c fun ρ w=>l6 [⟨ai,[3]⟩] 60 [inK .i64 (a0u .P x)] ⟨by omega,by omega⟩<|V.z
theorem Pp (x:In) (A:IA) (hf:a2q .aN x=true):FtK .aN x A:=by
 have h:=li (n:=a0u .N x) hf;have h2:=(w8 h).2;have h3:1+(a0i (a0u .N x)).length<=9223372036854775807:=by omega
 exact a0j true a3c fun ρ w=>l6 [⟨ai,[3]⟩] 60 [inK .i64 (a0u .N x),(1+(a0i (a0u .N x)).length:Nat)<=9223372036854775807] ⟨⟨by omega,by omega⟩,h3⟩<|V.z
theorem Pq (x:In) (A:IA) (hf:a2q .aM x=true):FtK .aM x A:=by
 have h:=li (n:=a0u .M x) hf;have h2:=(w8 h).2;have h3:1+(a0i (a0u .M x)).length<=9223372036854775807:=by omega
 exact a0j true a3c fun ρ w=>l6 [⟨ai,[3]⟩] 60 [inK .i64 (a0u .M x),(1+(a0i (a0u .M x)).length:Nat)<=9223372036854775807] ⟨⟨by omega,by omega⟩,h3⟩<|V.z
theorem Pr (x:In) (A:IA) (hf:a2q .pN x=true):FtK .pN x A:=by
 have h:=lj (no:=false) (n:=a0u .N x) hf;have h2:=(w8 h).2;have h3:1+(a0i (a0u .N x)).length<=9223372036854775807:=by omega
 have hn:¬ a0u .N x<0:=by
  have h':bD false (a0u .N x)=true:=hf;unfold bD at h';simp at h';omega
 exact a0j true a3c fun ρ w=>l6 [⟨ai,[3]⟩] 60 [inK .i64 (a0u .N x),(1+(a0i (a0u .N x)).length:Nat)<=9223372036854775807] ⟨⟨by omega,by omega⟩,h3⟩<|V.s 4 (.one (.str ([33]++a0i (a0u .N x)))) (.one (.str (Fl.txt .pN x))) (λ_=>by rw [show Fl.txt .pN x=prT (a0u .N x) from rfl]; unfold prT; rw [if_neg hn]; rfl)<|V.z
theorem Ps (x:In) (A:IA) (hf:a2q .pM x=true):FtK .pM x A:=by
 have h:=lj (no:=true) (n:=a0u .M x) hf;have h2:=(w8 h).2;have h3:1+(a0i (a0u .M x)).length<=9223372036854775807:=by omega
 refine a0j true a3c fun ρ w=>l6 [⟨ai,[3]⟩] 11 [] trivial<|V.t [⟨ai,[3]⟩] [] trivial<|f9 72 (decide (a0u .M x<0)) (λhh=>?_) (λhh=>?_)
 ·exact V.q<|V.s 4 (.one (.str [33,45])) (.one (.str (Fl.txt .pM x))) (λ_=>by rw [show Fl.txt .pM x=prT (a0u .M x) from rfl]; unfold prT; rw [if_pos (of_decide_eq_true hh)])<|V.z
 ·exact V.t [⟨ai,[3]⟩] [inK .i64 (a0u .M x),(1+(a0i (a0u .M x)).length:Nat)<=9223372036854775807] ⟨⟨by omega,by omega⟩,h3⟩<|V.s 4 (.one (.str ([33]++a0i (a0u .M x)))) (.one (.str (Fl.txt .pM x))) (λ_=>by rw [show Fl.txt .pM x=prT (a0u .M x) from rfl]; unfold prT; rw [if_neg (of_decide_eq_false hh)]; rfl)<|V.z
theorem ML (x:In) (A:IA) (hf:a2q .far x=true):FtK .far x A:=by
 have h':O5 x=true:=hf;unfold O5 at h';simp only [a0g,decide_eq_true_eq] at h';have hp:inK .i64 x.p:=⟨by omega,by omega⟩;have hn:inK .i64 x.n:=⟨by omega,by omega⟩;have h1:=a2e x.p hp.1 hp.2;have h2:=a2e x.n hn.1 hn.2;have o1:1+(a0i x.p).length<=9223372036854775807:=by omega
 have o2:([33]++a0i x.p).length+1<=9223372036854775807:=by rw [a0c,a1j]; omega
 have o3:([33]++a0i x.p++[64]).length+(a0i x.n).length<=9223372036854775807:=by rw [a0c,a0c,a1j,a1j]; omega
 exact a0j true a3c fun ρ w=>l6 [⟨ai,[3]⟩] 60 [inK .i64 x.p,1+(a0i x.p).length<=9223372036854775807,([33]++a0i x.p:List UInt8).length+1<=9223372036854775807,inK .i64 x.n,([33]++a0i x.p++[64]:List UInt8).length+(a0i x.n).length<=9223372036854775807] ⟨hp,o1,o2,hn,o3⟩<|V.z
theorem ST (x:In) (A:IA) (hf:a2q .T x=true):FtK .T x A:=by
 have h:=dY (t:=a3l .T x) hf;exact a0j true a3c fun ρ w=>l6 [⟨fO,[3]⟩] 60 [inK .i64 (a3l .T x).k/\inK .i64 (a3l .T x).p/\inK .i64 (a3l .T x).q/\(a3l .T x).s.length<=1000000000] h<|V.z
theorem SU (x:In) (A:IA) (hf:a2q .U x=true):FtK .U x A:=by
 have h:=dY (t:=a3l .U x) hf;exact a0j true a3c fun ρ w=>l6 [⟨fO,[3]⟩] 60 [inK .i64 (a3l .U x).k/\inK .i64 (a3l .U x).p/\inK .i64 (a3l .U x).q/\(a3l .U x).s.length<=1000000000] h<|V.z
theorem SW (x:In) (A:IA) (hf:a2q .W x=true):FtK .W x A:=by
 have h:=dY (t:=a3l .W x) hf;exact a0j true a3c fun ρ w=>l6 [⟨fO,[3]⟩] 60 [inK .i64 (a3l .W x).k/\inK .i64 (a3l .W x).p/\inK .i64 (a3l .W x).q/\(a3l .W x).s.length<=1000000000] h<|V.z
theorem SY (x:In) (A:IA) (hf:a2q .V x=true):FtK .V x A:=by
 have h':cI x=true:=hf;unfold cI at h';rw [a0g,decide_eq_true_eq] at h';have hk:=bV h'.1;have h1:=a2e x.vn hk.1 hk.2;have h5:=mh x.vs;have o1:(a0i x.vn).length+1<=9223372036854775807:=by omega
 have o2:x.vs.length<=1000000000:=by omega
 have o3:(a0i x.vn++[44]).length+(J2 x.vs).length<=9223372036854775807:=by rw [a0c,h5,a1j]; omega
 exact a0j true a3c fun ρ w=>l6 [⟨ai,[3]⟩,⟨Kr,[]⟩] 60 [inK .i64 x.vn,(a0i x.vn).length+1<=9223372036854775807,x.vs.length<=1000000000,(a0i x.vn++[44]:List UInt8).length+(J2 x.vs).length<=9223372036854775807] ⟨hk,o1,o2,o3⟩<|V.z
theorem Pt (x:In) (A:IA) (hf:a2q .Sz x=true):FtK .Sz x A:=by
 exact a0j true a3c fun ρ w=>l6 [Fx.e] 60 [] trivial<|V.s 4 (.one (.str (ab (a5i .S x)))) (.one (.str (Fl.txt .Sz x))) (λ_=>by rw [show Fl.txt .Sz x=Z2 (a5i .S x) from rfl]; cases a5i .S x<;>rfl)<|V.z
theorem Pu (x:In) (A:IA) (hf:a2q .Rg x=true):FtK .Rg x A:=by
 exact a0j true a3c fun ρ w=>l6 [Fx.e] 60 [] trivial<|V.s 4 (.one (.str (ab (a5i .R x)))) (.one (.str (Fl.txt .Rg x))) (λ_=>by rw [show Fl.txt .Rg x=Z2 (a5i .R x) from rfl]; cases a5i .R x<;>rfl)<|V.z
def fxL (x:In) (A:IA) (j:HXI):St :=
 { n:=168,slots:=[(1,ov (.int .u8 (a3z .L).toNat)),(2,ov (.ptr 0 0)),(5,ov (.str j.l)),(6,ov (.int .i64 (x.l.length:Int))),(7,ov (.int .i64 (j.i:Int)))],gs:=[],heap:=[(0,⟨inV x A,30,true⟩)],next:=1,rows:=[],nr:=0,pers:=j7::lsP x A,wr:=true,fx:=0 }
theorem SZ (x:In) (A:IA) (hf:a2q .L x=true):FtK .L x A:=by
 have q7:=O8 hf;have n8:(x.l.length:Int)<=16:=of_decide_eq_true (O9 hf);refine a0j true a3c fun ρ w=>l6 [] 20 [] trivial<|j6 [1,2,5,6,7] [true,true,true,true] (λj:HXI=>x.l.length - j.i) (fxL x A) (λj=>j.i<=x.l.length/\j.l=[91]++a1u ((x.l.take j.i).map rgT) [59]/\j.l.length<=1+1001*j.i) ⟨[91],none,0,0⟩ kq ⟨a0s _,rfl,a0q _⟩ (λj hj ih=>?_);obtain ⟨s,q0,c0,i⟩:=j;obtain ⟨hi,hs,rT⟩:=hj;simp only at hi hs rT;refine a1l<|V.q<|f9 129 (decide ((i:Int)<(x.l.length:Int))) (λhc=>?_) (λhc=>?_)
 ·have e9:i<x.l.length:=by simpa using hc
  have mC:=V5 e9 0 q7;have iU:=fw mC;have Rm:(rgT (x.l.getD i 0)).length<=1000:=a0n (sZ (n:=x.l.getD i 0) (by omega) (by omega)) (by decide);have aC:(x.l.take (i+1)).map rgT=(x.l.take i).map rgT++[rgT (x.l.getD i 0)]:=by
   rw [a2c,a0b e9,a2x,a0r,a0b e9]; rfl
  have hz:((x.l.take i).map rgT).length=i:=by rw [a1k,a2b]; omega
  refine V.q<|f9 133 (decide ((i:Int)>0)) (λhp=>?_) (λhp=>?_)
  ·have yC:0<i:=by simpa using hp
   have o1:s.length+1<=9223372036854775807:=by omega
   have o2:(s++[59]).length+(rgT (x.l.getD i 0)).length<=9223372036854775807:=by rw [a0c,a1j]; omega
   exact V.t [] [(s.length+1:Nat)<=9223372036854775807] o1<|l6 [] 2 [] trivial<|G4 140 2 (C1 x A)<|l6 [⟨wn,[3]⟩] 3 [(0:Int)<=i/\(i:Int)<x.l.length,inK .i64 (x.l.getD i 0),((s++[59]:List UInt8).length+(rgT (x.l.getD i 0)).length:Nat)<=9223372036854775807] ⟨⟨by omega,by omega⟩,⟨by omega,by omega⟩,o2⟩<|a3v 7 i (by omega)<|d9 [1,2,5,6,7] [true,true,true,true] (ih ⟨s++[59]++rgT (x.l.getD i 0),none,0,i+1⟩ ⟨e9,by simp only; rw [aC,Y3,hz,if_neg (by omega),hs]; simp,by simp only [a0c,a1j]; omega⟩ (by simp only; omega)) kq kq
  ·have yC:i=0:=by simpa using hp
   have o2:s.length+(rgT (x.l.getD i 0)).length<=9223372036854775807:=by omega
   exact l6 [] 2 [] trivial<|G4 140 2 (C1 x A)<|l6 [⟨wn,[3]⟩] 3 [(0:Int)<=i/\(i:Int)<x.l.length,inK .i64 (x.l.getD i 0),(s.length+(rgT (x.l.getD i 0)).length:Nat)<=9223372036854775807] ⟨⟨by omega,by omega⟩,⟨by omega,by omega⟩,o2⟩<|a3v 7 i (by omega)<|d9 [1,2,5,6,7] [true,true,true,true] (ih ⟨s++rgT (x.l.getD i 0),none,0,i+1⟩ ⟨e9,by simp only; rw [aC,Y3,hz,if_pos yC,hs,yC]; simp [a1u],by simp only [a0c]; omega⟩ (by simp only; omega)) kq kq
 ·have B0:i=x.l.length:=by simp at hc; omega
  have o1:s.length+1<=9223372036854775807:=by omega
  rw [B0,a1o] at hs;refine V.t [] [(s.length+1:Nat)<=9223372036854775807] o1 ?_;subst hs;exact V.z
def fxY (x:In) (A:IA) (j:HXI):St :=
 { n:=168,slots:=[(1,ov (.int .u8 (a3z .Y).toNat)),(2,ov (.ptr 0 0)),(5,ov (.str j.l)),(6,ov (.int .i64 (x.y.length:Int))),(7,ov (.int .i64 (j.i:Int)))],gs:=[],heap:=[(0,⟨inV x A,30,true⟩)],next:=1,rows:=[],nr:=0,pers:=j7::lsP x A,wr:=true,fx:=0 }
theorem Ta (x:In) (A:IA) (hf:a2q .Y x=true):FtK .Y x A:=by
 have q7:=O8 hf;have n8:(x.y.length:Int)<=16:=of_decide_eq_true (O9 hf);refine a0j true a3c fun ρ w=>l6 [] 20 [] trivial<|j6 [1,2,5,6,7] [true,true,true,true] (λj:HXI=>x.y.length - j.i) (fxY x A) (λj=>j.i<=x.y.length/\j.l=[91]++a1u ((x.y.take j.i).map y9) [59]/\j.l.length<=1+1001*j.i) ⟨[91],none,0,0⟩ kq ⟨a0s _,rfl,a0q _⟩ (λj hj ih=>?_);obtain ⟨s,q0,c0,i⟩:=j;obtain ⟨hi,hs,rT⟩:=hj;simp only at hi hs rT;refine a1l<|V.q<|f9 129 (decide ((i:Int)<(x.y.length:Int))) (λhc=>?_) (λhc=>?_)
 ·have e9:i<x.y.length:=by simpa using hc
  have mC:=V5 e9 ty0 q7;have iU:=dY mC;have Rm:(y9 (x.y.getD i ty0)).length<=1000:=Eb mC;have aC:(x.y.take (i+1)).map y9=(x.y.take i).map y9++[y9 (x.y.getD i ty0)]:=by
   rw [a2c,a0b e9,a2x,a0r,a0b e9]; rfl
  have hz:((x.y.take i).map y9).length=i:=by rw [a1k,a2b]; omega
  refine V.q<|f9 133 (decide ((i:Int)>0)) (λhp=>?_) (λhp=>?_)
  ·have yC:0<i:=by simpa using hp
   have o1:s.length+1<=9223372036854775807:=by omega
   have o2:(s++[59]).length+(y9 (x.y.getD i ty0)).length<=9223372036854775807:=by rw [a0c,a1j]; omega
   exact V.t [] [(s.length+1:Nat)<=9223372036854775807] o1<|l6 [] 3 [] trivial<|G4 150 3 (E7 x A)<|l6 [⟨fO,[3]⟩] 2 [(0:Int)<=i/\(i:Int)<x.y.length,inK .i64 (x.y.getD i ty0).k/\inK .i64 (x.y.getD i ty0).p/\inK .i64 (x.y.getD i ty0).q/\(x.y.getD i ty0).s.length<=1000000000,((s++[59]:List UInt8).length+(y9 (x.y.getD i ty0)).length:Nat)<=9223372036854775807] ⟨⟨by omega,by omega⟩,iU,o2⟩<|a3v 7 i (by omega)<|d9 [1,2,5,6,7] [true,true,true,true] (ih ⟨s++[59]++y9 (x.y.getD i ty0),none,0,i+1⟩ ⟨e9,by simp only; rw [aC,Y3,hz,if_neg (by omega),hs]; simp,by simp only [a0c,a1j]; omega⟩ (by simp only; omega)) kq kq
  ·have yC:i=0:=by simpa using hp
   have o2:s.length+(y9 (x.y.getD i ty0)).length<=9223372036854775807:=by omega
   exact l6 [] 3 [] trivial<|G4 150 3 (E7 x A)<|l6 [⟨fO,[3]⟩] 2 [(0:Int)<=i/\(i:Int)<x.y.length,inK .i64 (x.y.getD i ty0).k/\inK .i64 (x.y.getD i ty0).p/\inK .i64 (x.y.getD i ty0).q/\(x.y.getD i ty0).s.length<=1000000000,(s.length+(y9 (x.y.getD i ty0)).length:Nat)<=9223372036854775807] ⟨⟨by omega,by omega⟩,iU,o2⟩<|a3v 7 i (by omega)<|d9 [1,2,5,6,7] [true,true,true,true] (ih ⟨s++y9 (x.y.getD i ty0),none,0,i+1⟩ ⟨e9,by simp only; rw [aC,Y3,hz,if_pos yC,hs,yC]; simp [a1u],by simp only [a0c]; omega⟩ (by simp only; omega)) kq kq
 ·have B0:i=x.y.length:=by simp at hc; omega
  have o1:s.length+1<=9223372036854775807:=by omega
  rw [B0,a1o] at hs;refine V.t [] [(s.length+1:Nat)<=9223372036854775807] o1 ?_;subst hs;exact V.z
def fxF (x:In) (A:IA) (j:HXI):St :=
 { n:=168,slots:=[(1,ov (.int .u8 (a3z .F).toNat)),(2,ov (.ptr 0 0)),(5,ov (.str j.l)),(6,ov (.int .i64 (x.f.length:Int))),(7,ov (.int .i64 (j.i:Int)))],gs:=[],heap:=[(0,⟨inV x A,30,true⟩)],next:=1,rows:=[],nr:=0,pers:=j7::lsP x A,wr:=true,fx:=0 }
theorem Tb (x:In) (A:IA) (hf:a2q .F x=true):FtK .F x A:=by
 have q7:=O8 hf;have n8:(x.f.length:Int)<=16:=of_decide_eq_true (O9 hf);refine a0j true a3c fun ρ w=>l6 [] 20 [] trivial<|j6 [1,2,5,6,7] [true,true,true,true] (λj:HXI=>x.f.length - j.i) (fxF x A) (λj=>j.i<=x.f.length/\j.l=[91]++a1u ((x.f.take j.i).map E9) [59]/\j.l.length<=1+1001*j.i) ⟨[91],none,0,0⟩ kq ⟨a0s _,rfl,a0q _⟩ (λj hj ih=>?_);obtain ⟨s,q0,c0,i⟩:=j;obtain ⟨hi,hs,rT⟩:=hj;simp only at hi hs rT;refine a1l<|V.q<|f9 129 (decide ((i:Int)<(x.f.length:Int))) (λhc=>?_) (λhc=>?_)
 ·have e9:i<x.f.length:=by simpa using hc
  have mC:=V5 e9 fm0 q7;have iU:=tb mC;have Rm:(E9 (x.f.getD i fm0)).length<=1000:=Ec mC;have aC:(x.f.take (i+1)).map E9=(x.f.take i).map E9++[E9 (x.f.getD i fm0)]:=by
   rw [a2c,a0b e9,a2x,a0r,a0b e9]; rfl
  have hz:((x.f.take i).map E9).length=i:=by rw [a1k,a2b]; omega
  refine V.q<|f9 133 (decide ((i:Int)>0)) (λhp=>?_) (λhp=>?_)
  ·have yC:0<i:=by simpa using hp
   have o1:s.length+1<=9223372036854775807:=by omega
   have o2:(s++[59]).length+(E9 (x.f.getD i fm0)).length<=9223372036854775807:=by rw [a0c,a1j]; omega
   exact V.t [] [(s.length+1:Nat)<=9223372036854775807] o1<|l6 [] 4 [] trivial<|G4 160 1 (C7 x A)<|l6 [⟨wo,[3]⟩] 1 [(0:Int)<=i/\(i:Int)<x.f.length,inK .i64 (x.f.getD i fm0).k/\inK .i64 (x.f.getD i fm0).w/\inK .i64 (x.f.getD i fm0).d/\(x.f.getD i fm0).s.length<=1000000000,((s++[59]:List UInt8).length+(E9 (x.f.getD i fm0)).length:Nat)<=9223372036854775807] ⟨⟨by omega,by omega⟩,iU,o2⟩<|a3v 7 i (by omega)<|d9 [1,2,5,6,7] [true,true,true,true] (ih ⟨s++[59]++E9 (x.f.getD i fm0),none,0,i+1⟩ ⟨e9,by simp only; rw [aC,Y3,hz,if_neg (by omega),hs]; simp,by simp only [a0c,a1j]; omega⟩ (by simp only; omega)) kq kq
  ·have yC:i=0:=by simpa using hp
   have o2:s.length+(E9 (x.f.getD i fm0)).length<=9223372036854775807:=by omega
   exact l6 [] 4 [] trivial<|G4 160 1 (C7 x A)<|l6 [⟨wo,[3]⟩] 1 [(0:Int)<=i/\(i:Int)<x.f.length,inK .i64 (x.f.getD i fm0).k/\inK .i64 (x.f.getD i fm0).w/\inK .i64 (x.f.getD i fm0).d/\(x.f.getD i fm0).s.length<=1000000000,(s.length+(E9 (x.f.getD i fm0)).length:Nat)<=9223372036854775807] ⟨⟨by omega,by omega⟩,iU,o2⟩<|a3v 7 i (by omega)<|d9 [1,2,5,6,7] [true,true,true,true] (ih ⟨s++E9 (x.f.getD i fm0),none,0,i+1⟩ ⟨e9,by simp only; rw [aC,Y3,hz,if_pos yC,hs,yC]; simp [a1u],by simp only [a0c]; omega⟩ (by simp only; omega)) kq kq
 ·have B0:i=x.f.length:=by simp at hc; omega
  have o1:s.length+1<=9223372036854775807:=by omega
  rw [B0,a1o] at hs;refine V.t [] [(s.length+1:Nat)<=9223372036854775807] o1 ?_;subst hs;exact V.z
theorem MM (f:Fl) (x:In) (A:IA) (hf:f.fineB x=true):FtK f x A:=by
 cases f
 case D=>exact SN x A hf
 case A=>exact SO x A hf
 case B=>exact SP x A hf
 case N=>exact SQ x A hf
 case M=>exact SR x A hf
 case P=>exact SS x A hf
 case T=>exact ST x A hf
 case U=>exact SU x A hf
 case W=>exact SW x A hf
 case V=>exact SY x A hf
 case L=>exact SZ x A hf
 case Y=>exact Ta x A hf
 case F=>exact Tb x A hf
 case Sz=>exact Pt x A hf
 case Rg=>exact Pu x A hf
 case aN=>exact Pp x A hf
 case aM=>exact Pq x A hf
 case pN=>exact Pr x A hf
 case pM=>exact Ps x A hf
 case far=>exact ML x A hf
def Tc (x:In) (A:IA) (ls:List UInt8) (j:HXI):St :=
 { n:=34,slots:=[(1,ov (.ptr 0 0)),(3,ov (.int .i64 0)),(5,ov (.str j.l)),(6,ov (.str ls)),(7,ov (.int .i64 (j.i:Int)))],gs:=[],
    heap:=[(0,⟨inV x A,30,true⟩)],next:=1,rows:=[],nr:=0,pers:=j7::lsP x A,wr:=true,fx:=0 }
theorem FE (x:In) (A:IA) (hx:x.okM):CallsK a0a 23 [.agg (inV x A)] (stP (j7::lsP x A)) (λ_:Unit=>True) (λ_=>.tup [.one (.str (txA x).1),.one (.int .i64 (txA x).2)]) (λ_=>noF):=by
 obtain ⟨b,hb⟩:∃ b,j2 x=b:=⟨_,rfl⟩;have e:txA x=bif b then (lnT x,0) else ([],170):=by unfold txA; rw [hb]
 rw [e];have key:=IQ x A hx;rw [hb] at key;cases b with
 | false =>
  exact a0j true Tryz.func23 fun ρ w=>V.q<|V.c [(1,false),(2,false),(3,false)] key λ_ _=>l6 [] 9 [] trivial<|V.z
 | true =>
  obtain ⟨o,ho,eo⟩:=nd hb;have qe:=(vZ ho eo hb).1;have aD:=jY o (by have:=(p6 o).1 ho; omega);have F5:n7 (o:Int)=some (c6 o):=by unfold n7; rw [if_pos (by have:=(p6 o).1 ho; omega)]; rfl
  rw [F5] at aD;simp only [a1e] at aD;have wM:(rfN (o:Int)).1=s6 o:=by rw [lE ho]
  have hL:lnT x=a1u (s6 o::R8 x (c6 o)) [32]:=tU eo;show CallsK a0a 23 [.agg (inV x A)] _ _ (λ_=>.tup [.one (.str (lnT x)),.one (.int .i64 0)]) _;rw [hL];have lK:(c6 o).length<=7:=by
   have:=Y0 (o:Int);rw [F5] at this;exact this
  have Xf:(s6 o).length<=20:=of_decide_eq_true (D7 (p:=λo=>decide ((s6 o).length<=20)) kq ho);generalize c6 o=fls at aD qe lK;refine a0j true Tryz.func23 fun ρ w=>V.q<|V.c [(1,false),(2,false),(3,false)] key λ_ _=>l6 [] 2 [] trivial<|V.s 15 (.one (.int .i64 x.op)) (.one (.int .i64 (o:Int))) (λ_=>by rw [eo])<|V.c [] (Z7 (o:Int)) λ_ _=>V.q<|V.s 6 (.one (.str (rfN (o:Int)).2)) (.one (.str (fls.map a3z))) (λ_=>by rw [aD])<|V.s 5 (.one (.str (rfN (o:Int)).1)) (.one (.str (s6 o))) (λ_=>by rw [wM])<|j6 [1,3,5,6,7] [true,true,true,true] (λj:HXI=>fls.length - j.i) (Tc x A (fls.map a3z)) (λj=>j.i<=fls.length/\j.l=a1u (s6 o::R8 x (fls.take j.i)) [32]/\j.l.length<=20+20001*j.i) ⟨s6 o,none,0,0⟩ kq ⟨a0s _,(Lib.join_one _ _).symm,Xf⟩ (λj hj ih=>?_);obtain ⟨s,q0,c0,i⟩:=j;obtain ⟨hi,hs,rT⟩:=hj;simp only at hi hs rT;refine a1l<|V.q<|f9 22 (decide ((i:Int)<((fls.map a3z).length:Int))) (λhc=>?_) (λhc=>?_)
  ·have e9:i<fls.length:=by simpa using hc
   obtain ⟨f,hf⟩:∃ f,fls.getD i .D=f:=⟨_,rfl⟩;have N5:(fls.map a3z).getD (i:Int).toNat 0=f.ch:=by
    rw [a1h,<- hf,a0r,a2t,a0b e9,a0r,a0b e9];rfl
   have aC:fls.take (i+1)=fls.take i++[f]:=by
    rw [a2c,a0b e9];rw [a0r,a0b e9] at hf;simp only [a1e] at hf;rw [hf]; rfl
   have lN:f.fineB x=true:=by rw [<- hf,a0r,a0b e9]; exact qe _ (a5b e9)
   have hl:=tn f x lN;have hW:=MM f x A lN;unfold FtK at hW;rw [<- N5] at hW;exact V.q<|p9 [] [] 8 kq<|@a1z _ [] [] 8 _ _ ([]:List (Ent a0a)) [s.length+1<=9223372036854775807,(0:Int)<=i/\(i:Int)<((fls.map a3z).length:Int)] kq kq ⟨by omega,by omega,by rw [a1k]; omega⟩<|@VX.callK _ [] [] 8 _ _ _ _ _ _ _ _ _ [(0,false),(1,false),(2,false),(3,false)] hW kq kq kq (λ_=>kq) λ_ _=>@a1z _ [] [] 8 _ _ ([]:List (Ent a0a)) [(s++[32]:List UInt8).length+(f.txt x).length<=9223372036854775807] kq kq (by rw [a0c,a1j]; show _<=9223372036854775807; omega)<|@o7 _ [] [] 8 _ _ kq<|V.q<|a3v 7 i (by omega)<|d9 [1,3,5,6,7] [true,true,true,true] (ih ⟨s++[32]++f.txt x,none,0,i+1⟩ ⟨e9,by
    simp only;rw [aC,hs];unfold R8;rw [a2x,<- List.cons_append];exact (Y3 32 (s6 o::(fls.take i).map (λf=>f.txt x)) (f.txt x)).symm,by simp only [a0c,a1j]; omega⟩ (by simp only; omega)) kq kq
  ·have bA:i=fls.length:=by simp at hc; omega
   rw [bA,a1o] at hs;refine V.q ?_;subst hs;exact V.z
structure CtI where
 l:List (List UInt8)
 q:Option Addr
 k:Nat
 st:Nat
 i:Nat
def Td (s:List UInt8) (c:UInt8) (j:CtI):St :=
 { n:=35,slots:=[(0,ov (.str s)),(1,ov (.int .u8 (c.toNat:Int))),(4,ov (.val (.slice none 0 0))),(5,ov (.row 0 j.q j.l.length j.k)),(6,ov (.int .i64 (j.st:Int))),(7,ov (.int .i64 (j.i:Int)))],
    gs:=[],heap:=[],next:=0,rows:=[(0,d5 z7 [] j.l j.q j.k 9 1 true)],nr:=1,pers:=[],wr:=true,fx:=0 }
def ctP (s:List UInt8) (c:UInt8) (j:CtI):Prop:=j.i<=s.length+1/\j.st<=j.i/\j.l.length<=j.st/\(j.i<=s.length/\d4 c s=j.l++d4 c (s.drop j.st)/\c ∉ (s.drop j.st).take (j.i - j.st)∨j.i=s.length+1/\j.l=d4 c s)
def ctW (s:List UInt8) (st i:Nat):List UInt8:=(s.take i).drop st
theorem Ku {s:List UInt8} {st i:Nat} (h:st<=i) (hi:i<s.length):s.drop st=(s.drop st).take (i - st)++s.getD i 0::s.drop (i+1):=by
 have e1:(s.drop st).drop (i - st)=s.getD i 0::s.drop (i+1):=by
  rw [List.drop_drop,show st+(i - st)=i by omega,a2k hi,a0r,a0b hi];rfl
 rw [<- e1,a6g]
theorem FF {s:List UInt8} {st i:Nat}:ctW s st i=(s.drop st).take (i - st):=by unfold ctW; rw [List.drop_take]
theorem MN {s:List UInt8} {c:UInt8} {j:CtI} (h:ctP s c j) (hi:j.i=s.length):j.l++[ctW s j.st j.i]=d4 c s:=by
 obtain ⟨_,h2,_,h4 | h4⟩:=h
 ·have e:(s.drop j.st).take (j.i - j.st)=s.drop j.st:=List.take_of_length_le (by rw [a2p]; omega);rw [FF,e,h4.2.1,gr c (s.drop j.st) (by rw [e] at h4; exact h4.2.2)]
 ·omega
theorem MO {s:List UInt8} {c:UInt8} {j:CtI} (h:ctP s c j) (hi:j.i<s.length) (hc:s.getD j.i 0=c):d4 c s=(j.l++[ctW s j.st j.i])++d4 c (s.drop (j.i+1)):=by
 obtain ⟨_,h2,_,h4 | h4⟩:=h
 ·rw [h4.2.1,Ku h2 hi,hc,gq c _ _ h4.2.2,FF,a1g];rfl
 ·omega
theorem Pv {s:List UInt8} {c:UInt8} {j:CtI} (h:ctP s c j) (hi:j.i<s.length) (hc:s.getD j.i 0≠c):c ∉ (s.drop j.st).take (j.i+1 - j.st):=by
 obtain ⟨_,h2,_,h4 | h4⟩:=h
 ·intro hm;have e:(s.drop j.st).take (j.i+1 - j.st)=(s.drop j.st).take (j.i - j.st)++[s.getD j.i 0]:=by
   have hl:((s.drop j.st).take (j.i - j.st)).length=j.i - j.st:=by rw [a2b,a2p]; omega
   conv=>lhs; rw [Ku h2 hi,List.take_append,hl,show j.i+1 - j.st - (j.i - j.st)=1 by omega,List.take_take,Nat.min_eq_right (by omega)]
   rfl
  rw [e] at hm;rcases a2s.1 hm with hm | hm
  ·exact h4.2.2 hm
  ·exact hc (a0d.1 hm).symm
 ·omega
theorem tX (s:List UInt8) (c:UInt8) (hs:s.length<=1000000000):CallsK a0a 65 [.one (.str s),.one (.int .u8 (c.toNat:Int))] noF (λ_:Option Addr×Nat=>True)
  (λy=>ov (.val (.slice y.1 (d4 c s).length y.2))) (λy=>z8 [e8 (d5 z7 [] (d4 c s) y.1 y.2 9 1 false)]):=by
 refine a0j true Tryz.func65 fun ρ w=>V.q<|U9 z7 [] 5 9 1 kq kq<|j6 [0,1,4,5,6,7] [] (λj:CtI=>s.length+1 - j.i) (Td s c) (ctP s c) ⟨[],none,0,0,0⟩ kq ⟨a0s _,a0q _,a0q _,.inl ⟨a0s _,rfl,by simp⟩⟩ (λj hj ih=>?_);have hP:=hj;obtain ⟨l,q,k,st,i⟩:=j;obtain ⟨h1,h2,h3,h4⟩:=hj;simp only at h1 h2 h3 h4;refine a1l<|V.q<|f9 11 (decide ((i:Int)<=s.length)) (λhc=>?_) (λhc=>?_)
 ·have B0:i<=s.length:=by simpa using hc
  refine V.t [] [((i:Int)==s.length)=false->(0:Int)<=i/\(i:Int)<s.length] (λhh=>have:=beq_eq_false_iff_ne.1 hh; ⟨by omega,by omega⟩)<|f9 24 (((i:Int)==s.length)||(((s.getD (i:Int).toNat 0).toNat:Int)==(c.toNat:Int))) (λhd=>?_) (λhd=>?_)
  ·refine V.t [] [(0:Int)<=st/\(st:Int)<=i/\(i:Int)<=s.length] ⟨by omega,by omega,by omega⟩<|a6q z7 [] l (ctW s st i) 0 q k 9 1 [.str (ctW s st i)] 16 kq (by omega) rfl (λ_ _=>kq) λq' k'=>V.q<|a3v 6 i (by omega)<|a3v 7 i (by omega)<|d9 [0,1,4,5,6,7] [] (ih ⟨l++[ctW s st i],q',k',i+1,i+1⟩ ⟨by simp only; omega,a0q _,by simp only [a0c,a1j]; omega,?_⟩ (by simp only; omega)) kq kq;by_cases he:i=s.length
   ·exact .inr ⟨by simp only; omega,MN hP he⟩
   ·refine .inl ⟨by simp only; omega,MO hP (by simp only; omega) ?_,by simp⟩;rw [a3w] at hd;rcases hd with hd | hd
    ·have:=eq_of_beq hd;omega
    ·have:=eq_of_beq hd;rw [a1h] at this;exact a4b.1 (show (s.getD i 0).toNat=c.toNat by omega)
  ·refine V.q<|a3v 7 i (by omega) ?_;rw [a2r] at hd;have E0:=beq_eq_false_iff_ne.1 hd.1;have VC:s.getD i 0≠c:=by
    intro e;have:=beq_eq_false_iff_ne.1 hd.2;rw [a1h,e] at this;exact this rfl
   have e9:i<s.length:=by omega
   refine d9 [0,1,4,5,6,7] [] (ih ⟨l,q,k,st,i+1⟩ ⟨by simp only; omega,by simp only; omega,h3,.inl ⟨e9,?_,Pv hP e9 VC⟩⟩ (by simp only; omega)) kq kq;rcases h4 with h4 | h4
   ·exact h4.2.1
   ·omega
 ·have bA:i=s.length+1:=by simp at hc; omega
  rcases h4 with h4 | h4
  ·omega
  obtain ⟨_,h4⟩:=h4;refine V.q<|a3a 0 (d5 z7 [] l q k 9 1 true) kq kq ?_;subst h4;exact V.e ((q,k):Option Addr×Nat) [(0,true)] trivial
def ngB (s:List UInt8):Bool:=!(s==[])&&(((s.getD (0:Int).toNat 0).toNat:Int)==45)
def tY (b:Bool) (t:List UInt8):Int:=match bu 11 t 0 with
 | some n=>bif b then -(n:Int) else (n:Int)
 | none=>0
structure NmI where
 n:Nat
 i:Nat
def Te (s t:List UInt8) (j:NmI):St :=
 { n:=48,slots:=[(0,ov (.str t)),(2,ov (.int .i64 0)),(3,ov (.sb (ngB s))),(4,ov (.int .i64 (j.n:Int))),(5,ov (.int .i64 (j.i:Int)))],
    gs:=[],heap:=[],next:=0,rows:=[],nr:=0,pers:=[],wr:=true,fx:=0 }
theorem yq {t:List UInt8} {i n:Nat} (h:i<t.length) (KN:i<11) :
  bu (11 - i) (t.drop i) n=if (t.getD i 0).toNat<48∨57<(t.getD i 0).toNat then none else bu (11 - (i+1)) (t.drop (i+1)) (10*n+((t.getD i 0).toNat - 48)):=by
 rw [a2k h,show 11 - i=(11 - (i+1))+1 by omega,a0r,a0b h];rfl
theorem BU {t:List UInt8} {i n:Nat} (h:i=t.length∨i=11):bu (11 - i) (t.drop i) n=some n:=by
 rcases h with h | h
 ·rw [h,List.drop_length];cases 11 - t.length<;>rfl
 ·rw [h]; rfl
theorem FG {n:Nat} {c:UInt8} (hn:n<100000000000) (h1:48<=c.toNat):a0h.wrap (a0h.wrap (10*(n:Int))+a0h.wrap (a1x.wrap ((c.toNat:Int) - 48)))=((10*n+(c.toNat - 48):Nat):Int):=by
 have h:=c.toNat_lt;have e:a1x.wrap ((c.toNat:Int) - 48)=(c.toNat:Int) - 48:=by simp [a1s,a1t,a1p]; omega
 rw [e];simp [a1s,a1t,a1p];omega
theorem MP (s t:List UInt8) (hs:s.length<=1000000000) (b:Bool) (hb:ngB s=b) (ht:(bif b then (s.take s.length).drop 1 else s)=t) :
  CallsK a0a 130 [.one (.str s)] noF (λ_:Unit=>True) (λ_=>ov (.int .i64 (tY (ngB s) t))) (λ_=>noF):=by
 have kl:(!(s==[]))=true->(0:Int)<=0/\(0:Int)<s.length:=λh=>⟨Int.le_refl _,by cases s with | nil=>cases h | cons c s=>simp only [a0p]; omega⟩;have Rm:t.length<=1000000000:=by
  cases b with
  | true=>rw [<- ht]; show ((s.take s.length).drop 1).length<=_; rw [a2p,a2b]; omega
  | false=>rw [<- ht]; exact hs
 cases b
 case' true =>
  have hl:1<=s.length:=by
   cases s with
   | nil=>cases hb
   | cons c s=>simp
  refine a0j true Tryz.func130 fun ρ w=>V.t [] [(!(s==[]))=true->(0:Int)<=0/\(0:Int)<s.length] kl<|m0 13 (ngB s) true hb<|V.t [] [(0:Int)<=1/\(1:Int)<=s.length/\(s.length:Int)<=s.length] ⟨by omega,by omega,by omega⟩<|V.s 0 (.one (.str ((s.take s.length).drop 1))) (.one (.str t)) (λ_=>by rw [<- ht]; rfl) ?_
 case' false =>
  refine a0j true Tryz.func130 fun ρ w=>V.t [] [(!(s==[]))=true->(0:Int)<=0/\(0:Int)<s.length] kl<|m0 13 (ngB s) false hb<|V.q<|V.s 0 (.one (.str s)) (.one (.str t)) (λ_=>by rw [<- ht]; rfl) ?_
 all_goals
  refine j6 [0,2,3,4,5] [] (λj:NmI=>11 - j.i) (Te s t) (λj=>j.i<=11/\j.i<=t.length/\bu 11 t 0=bu (11 - j.i) (t.drop j.i) j.n/\j.n<10 ^ j.i) ⟨0,0⟩ kq ⟨a0s _,a0s _,rfl,by decide⟩ (λj hj ih=>?_);obtain ⟨n,i⟩:=j;obtain ⟨KN,hi,hr,hn⟩:=hj;simp only at KN hi hr hn;have hp:10 ^ i<=10 ^ 11:=Nat.pow_le_pow_right (by decide) KN;have NW:n<100000000000:=Nat.lt_of_lt_of_le hn hp;refine a1l<|V.q<|f9 23 (decide ((i:Int)<t.length)&&decide ((i:Int)<11)) (λhc=>?_) (λhc=>?_)
  ·rw [a0g,decide_eq_true_eq,decide_eq_true_eq] at hc;have e9:i<t.length:=by omega
   have lL:(0:Int)<=i/\(i:Int)<t.length:=⟨by omega,hc.1⟩;have F9:=yq (n:=n) e9 (by omega);refine V.t [] [(0:Int)<=i/\(i:Int)<t.length,decide (((t.getD (i:Int).toNat 0).toNat:Int)<48)=false->(0:Int)<=i/\(i:Int)<t.length] ⟨lL,λ_=>lL⟩<|f9 35 (decide (((t.getD (i:Int).toNat 0).toNat:Int)<48)||decide (((t.getD (i:Int).toNat 0).toNat:Int)>57)) (λhd=>?_) (λhd=>?_)
   ·rw [a3w,decide_eq_true_eq,decide_eq_true_eq,a1h] at hd;rw [if_pos (by omega)] at F9;exact V.q<|V.s 2 (.one (.int .i64 0)) (.one (.int .i64 (tY (ngB s) t))) (λ_=>by unfold tY; rw [hr,F9])<|V.z
   ·rw [a2r,decide_eq_false_iff_not,decide_eq_false_iff_not,a1h] at hd;rw [if_neg (by omega)] at F9;exact V.t [] [(0:Int)<=i/\(i:Int)<t.length] lL<|V.s 4 (.one (.int .i64 (a0h.wrap (a0h.wrap (10*(n:Int))+a0h.wrap (a1x.wrap (((t.getD (i:Int).toNat 0).toNat:Int) - 48)))))) (.one (.int .i64 ((10*n+((t.getD i 0).toNat - 48):Nat):Int))) (λ_=>by rw [a1h,FG NW (by omega)])<|a3v 5 i (by omega)<|d9 [0,2,3,4,5] [] (ih ⟨10*n+((t.getD i 0).toNat - 48),i+1⟩ ⟨by simp only; omega,e9,hr.trans F9,by simp only; rw [Nat.pow_succ]; have:=(t.getD i 0).toNat_lt; omega⟩ (by simp only; omega)) kq kq
  ·have he:i=t.length∨i=11:=by
    rw [Bool.and_eq_false_iff,decide_eq_false_iff_not,decide_eq_false_iff_not] at hc;omega
   have hv:=hr.trans (BU (n:=n) he);refine V.q<|f9 44 (ngB s) (λhd=>?_) (λhd=>?_)
   ·refine V.q<|V.s 2 (.one (.int .i64 (a0h.wrap (0 - (n:Int))))) (.one (.int .i64 (tY (ngB s) t))) (λ_=>by
     unfold tY;rw [hv,hd,show a0h.wrap (0 - (n:Int))=-(n:Int) by simp [a1s,a1t,a1p]; omega];rfl) ?_
    exact V.z
   ·refine V.q<|V.s 2 (.one (.int .i64 (n:Int))) (.one (.int .i64 (tY (ngB s) t))) (λ_=>by
     unfold tY;rw [hv,hd];rfl) ?_
    exact V.z
theorem FH (s:List UInt8):K2 s=tY (ngB s) (bif ngB s then (s.take s.length).drop 1 else s):=by
 cases s with
 | nil=>rfl
 | cons c r =>
  have e:ngB (c::r)=((c.toNat:Int)==45):=rfl;have e2:((c::r).take (c::r).length).drop 1=r:=by rw [a1o]; rfl
  rw [e2];unfold K2 tY;by_cases h:c=45
  ·have hb:ngB (c::r)=true:=by rw [e,h]; rfl
   rw [hb,if_pos (by rw [h]; rfl),cond_true];show (match bu 11 r 0 with | some n=>_ | none=>_)=_;cases bu 11 r 0<;>rfl
  ·have hb:ngB (c::r)=false:=by
    rw [e,beq_eq_false_iff_ne];intro h2;exact h (a4b.1 (show c.toNat=45 by omega))
   rw [hb,if_neg (by intro h2; exact h (a2h h2)),cond_false];show (match bu 11 (c::r) 0 with | some n=>_ | none=>_)=_;cases bu 11 (c::r) 0<;>rfl
theorem Pw (s:List UInt8) (hs:s.length<=1000000000):CallsK a0a 130 [.one (.str s)] noF (λ_:Unit=>True) (λ_=>ov (.int .i64 (K2 s))) (λ_=>noF):=by
 rw [FH];exact MP s _ hs _ rfl rfl
def eA:Con a0a:=ix 130 [] (λs=>(.v (.one (.int .i64 (K2 s))),[s.length<=1000000000])) (λs ρ w q8 hp =>
 CallsK.gives (Pw s (q8 _ (a0d.2 rfl))) ⟨rfl,rfl,rfl⟩ (λ_ _=>rfl) ρ w hp)
def Px:Con a0a:=r6 Tryz.func131 true [] [] kq kq
def rR:Con a0a:=Px.as (λxs=>match xs with
  | [.one (.str s)]=>some (.v (.one (.str (s.drop 1))),[])
  | _=>none) (by
 intro xs v ob h q8;split at h
 ·rename_i s;simp only [a0l,a1f] at h;obtain ⟨rfl,rfl⟩:=h;refine ⟨.v (.one (.str (bif s==[] then [] else (s.take s.length).drop 1))),[(s==[])=false->(0:Int)<=1/\(1:Int)<=s.length/\(s.length:Int)<=s.length],kq,?_,fun ρ=>?_⟩
  ·intro p hp;rw [a0d.1 hp];intro h;cases s with
   | nil=>cases h
   | cons c s=>simp only [a0p]; omega
  ·cases s with
   | nil=>rfl
   | cons c s=>rw [a1o]; rfl
 ·cases h)
def Py:Con a0a:=r6 Tryz.func240 true [] [] kq kq
def Pz:Con a0a:=r6 Tryz.func129 true [⟨rR,[]⟩,⟨eA,[]⟩] [] kq kq
def An:Con a0a:=Pz.as (λxs=>match xs with
  | [.one (.str s)]=>some (.v (.one (.int .i64 (W5 s))),[s.length<=1000000000])
  | _=>none) (by
 intro xs v ob h q8;split at h
 ·rename_i s;simp only [a0l,a1f] at h;obtain ⟨rfl,rfl⟩:=h;have hs:=q8 _ (a0d.2 rfl);refine ⟨.v (.one (.int .i64 (bif s==[45] then -1 else K2 (s.drop 1)))),[(s==[45])=false->(s.drop 1).length<=1000000000],kq,?_,fun ρ=>?_⟩
  ·intro p hp;rw [a0d.1 hp,a2p];intro _;omega
  ·unfold W5;cases s==[45]<;>rfl
 ·cases h)
theorem Tf (l:List (List UInt8)) (q:Option Addr) (k i:Nat) (hl:l.length<=2000000000):CallsK a0a 132 [.one (.val (.slice q l.length k)),.one (.int .i64 (i:Int))] (z8 [e8 (d5 z7 [] l q k 9 1 false)]) (λ_:Unit=>True)
  (λ_=>ov (.str (l.getD i []))) (λ_=>noF):=by
 refine a0j true Tryz.func132 fun ρ w=>V.q<|f9 8 (decide ((i:Int)>=(l.length:Int))) (λhb=>?_) (λhb=>?_)
 ·have bA:l.length<=i:=by have:=of_decide_eq_true hb; omega
  refine V.q<|V.s 4 (.one (.str [])) (.one (.str (l.getD i []))) (λ_=>by rw [a0r,List.getElem?_eq_none bA]; rfl) ?_;exact V.z
 ·have e9:i<l.length:=by have:=of_decide_eq_false hb; omega
  exact V.q<|G4 9 0 (d5 z7 [] l q k 9 1 false)<|V.t [] [(0:Int)<=i/\(i:Int)<l.length] ⟨by omega,by omega⟩<|V.z
def IW (l:List (List UInt8)) (q:Option Addr) (k:Nat) (hl:l.length<=2000000000):Con a0a where
 f:=132
 need:=[e8 (d5 z7 [] l q k 9 1 false)]
 fn:=λxs=>match xs with
  | [.one (.val v),.one (.int .i64 n)]=>some (.v (.one (.str (l.getD n.toNat []))),[v=.slice q l.length k/\0<=n])
  | _=>none
 ok:=by
  intro xs v ob h q8 ρ w hp e9;clear e9;split at h
  ·rename_i v0 n;simp only [a0l,a1f] at h;obtain ⟨rfl,rfl⟩:=h;obtain ⟨rfl,hn⟩:=q8 _ (a0d.2 rfl);have h:=CallsK.gives (Tf l q k n.toNat hl) ⟨rfl,rfl,rfl⟩ (λ_ _=>rfl) ρ w hp;rw [Int.toNat_of_nonneg hn] at h;exact h
  ·cases h
def dgI (n:Int):Int:=bif decide (n>=97) then a1x.wrap (a1x.wrap (n - 97)+10) else a1x.wrap (n - 48)
theorem MQ:∀ n:Fin 256,dgI (n.val:Int)=((gR (a1c n.val)).toNat:Int):=by decide +kernel
theorem FJ (c:UInt8):dgI (c.toNat:Int)=((gR c).toNat:Int):=by
 have:=MQ ⟨c.toNat,c.toNat_lt⟩
 rwa [show a1c c.toNat=c from UInt8.ofNat_toNat] at this
theorem MR (a b:UInt8):a1x.wrap (a1x.wrap (dgI (a.toNat:Int)*16)+dgI (b.toNat:Int))=((gR a*16+gR b).toNat:Int):=by
 rw [FJ,FJ,UInt8.toNat_add,UInt8.toNat_mul];simp [a1s,a1t,a1p]
structure UnI where
 l:List UInt8
 q:Option Addr
 k:Nat
 i:Nat
def Th (s:List UInt8) (j:UnI):St :=
 { n:=28,slots:=[(0,ov (.str s)),(2,ov (.str [])),(3,ov (.row 0 j.q j.l.length j.k)),(4,ov (.int .i64 (j.i:Int)))],gs:=[],heap:=[],next:=0,
    rows:=[(0,d5 bsv 0 j.l j.q j.k 5 1 true)],nr:=1,pers:=[],wr:=true,fx:=0 }
theorem BV {s:List UInt8} {i:Nat} (h:i+1<s.length):dN (s.drop i)=(gR (s.getD i 0)*16+gR (s.getD (i+1) 0))::dN (s.drop (i+2)):=by
 rw [a2k (by omega:i<s.length),a2k h,a0r,a0b (by omega:i<s.length),a0r,a0b h];rfl
theorem FK {s:List UInt8} {i:Nat} (h:s.length<=i+1):dN (s.drop i)=[]:=by
 have:(s.drop i).length<=1:=by rw [a2p]; omega
 match s.drop i,this with
 | [],_=>rfl
 | [_],_=>rfl
theorem PA (s:List UInt8) (hs:s.length<=1000000000):CallsK a0a 134 [.one (.str s)] noF (λ_:Unit=>True) (λ_=>ov (.str (dN (s.drop 1)))) (λ_=>noF):=by
 refine a0j true Tryz.func134 fun ρ w=>V.q<|U9 bsv 0 3 5 1 kq kq<|j6 [0,2,3,4] [] (λj:UnI=>s.length+2 - j.i) (Th s) (λj=>j.i<=s.length+1/\j.l.length<=j.i/\dN (s.drop 1)=j.l++dN (s.drop j.i)) ⟨[],none,0,1⟩ kq ⟨by simp only; omega,a0s _,rfl⟩ (λj hj ih=>?_);obtain ⟨l,q,k,i⟩:=j;obtain ⟨hi,hl,hu⟩:=hj;simp only at hi hl hu;refine a1l<|V.q<|f9 9 (decide (a0h.wrap ((i:Int)+1)<s.length)) (λhc=>?_) (λhc=>?_)
 ·have hw:a0h.wrap ((i:Int)+1)=((i+1:Nat):Int):=av (by omega);rw [hw,decide_eq_true_eq] at hc;have e9:i+1<s.length:=by omega
  have h1:(0:Int)<=i/\(i:Int)<s.length:=⟨by omega,by omega⟩;have h2:(0:Int)<=a0h.wrap ((i:Int)+1)/\a0h.wrap ((i:Int)+1)<s.length:=by rw [hw]; exact ⟨by omega,by omega⟩
  have hx:bsv (gR (s.getD i 0)*16+gR (s.getD (i+1) 0))=[.int .u8 (a1x.wrap (a1x.wrap (dgI ((s.getD (i:Int).toNat 0).toNat:Int)*16)+dgI ((s.getD (a0h.wrap ((i:Int)+1)).toNat 0).toNat:Int)))]:=by
   rw [hw,a1h,a1h,MR]; rfl
  exact V.q<|p9 [] [0] 14 kq<|@a1z _ [] [0] 14 _ _ ([Py.e]:List (Ent a0a)) [(0:Int)<=i/\(i:Int)<s.length,(0:Int)<=a0h.wrap ((i:Int)+1)/\a0h.wrap ((i:Int)+1)<s.length] kq kq ⟨h1,h2⟩<|@a6s _ [] [0] 14 _ _ _ bsv 0 l (gR (s.getD i 0)*16+gR (s.getD (i+1) 0)) 0 q k 5 1 [.int .u8 (a1x.wrap (a1x.wrap (dgI ((s.getD (i:Int).toNat 0).toNat:Int)*16)+dgI ((s.getD (a0h.wrap ((i:Int)+1)).toNat 0).toNat:Int)))] 1 kq kq kq (by omega) hx (λ_ _=>kq) λq' k'=>@a1z _ [] [0] 14 _ _ ([]:List (Ent a0a)) [] kq kq trivial<|@o7 _ [] [0] 14 _ _ kq<|V.q<|V.s 4 (.one (.int .i64 (a0h.wrap ((i:Int)+2)))) (.one (.int .i64 ((i+2:Nat):Int))) (λ_=>by rw [sX (by omega)])<|d9 [0,2,3,4] [] (ih ⟨l++[gR (s.getD i 0)*16+gR (s.getD (i+1) 0)],q',k',i+2⟩ ⟨by simp only; omega,by simp only [a0c,a1j]; omega,by simp only; rw [hu,BV e9,a1g]; rfl⟩ (by simp only; omega)) kq kq
 ·have hw:a0h.wrap ((i:Int)+1)=((i+1:Nat):Int):=av (by omega);rw [hw,decide_eq_false_iff_not] at hc;rw [FK (i:=i) (by omega),a1q] at hu;refine V.q<|fX l 0 q k 5 true kq kq<|V.q ?_;rw [hu];exact V.z
def FL:Con a0a:=ix 134 [] (λs=>(.v (.one (.str (dN (s.drop 1)))),[s.length<=1000000000])) (λs ρ w q8 hp =>
 CallsK.gives (PA s (q8 _ (a0d.2 rfl))) ⟨rfl,rfl,rfl⟩ (λ_ _=>rfl) ρ w hp)
theorem nj (c:UInt8) (s:List UInt8) (i:Nat):(rAt c s i).length<=s.length:=by
 unfold rAt;rw [a0r];cases e:(d4 c s)[i]? with
 | none=>simp
 | some p=>exact L4 c s p (a0v e)
theorem tZ {c:UInt8} {s:List UInt8} (hs:s.length<=1000000000):(d4 c s).length<=2000000000:=a0n (I1 c s) (by omega)
def aO (y:Option Addr×Nat) (l:List (List UInt8)) (n:Int):Prop:=Value.slice y.1 l.length y.2=Value.slice y.1 l.length y.2/\0<=n
theorem Ti (s:List UInt8) (hs:s.length<=1000000000):CallsK a0a 133 [.one (.str s)] noF (λ_:Unit=>True) (λ_=>.v (.agg ((eL s).cells))) (λ_=>noF):=by
 have hl:=λi=>a0n (nj 44 s i) hs;refine a0j true Tryz.func133 fun ρ w=>V.q<|V.c [] (tX s 44 hs) λy _=>G2 0 true (d5 z7 [] (d4 44 s) y.1 y.2 9 1 false)<|V.runT [⟨IW (d4 44 s) y.1 y.2 (tZ hs),[1]⟩,⟨eA,[]⟩,⟨FL,[]⟩] [aO y (d4 44 s) 0,(rAt 44 s 0).length<=1000000000,aO y (d4 44 s) 1,(rAt 44 s 1).length<=1000000000,aO y (d4 44 s) 2,(rAt 44 s 2).length<=1000000000,aO y (d4 44 s) 3,aO y (d4 44 s) 4,(rAt 44 s 4).length<=1000000000]
  kq kq ⟨⟨rfl,by decide⟩,hl 0,⟨rfl,by decide⟩,hl 1,⟨rfl,by decide⟩,hl 2,⟨rfl,by decide⟩,⟨rfl,by decide⟩,hl 4⟩ ?_
 exact V.z
def IX:Con a0a:=ix 133 [] (λs=>(.v (.agg ((eL s).cells)),[s.length<=1000000000])) (λs ρ w q8 hp =>
 CallsK.gives (Ti s (q8 _ (a0d.2 rfl))) ⟨rfl,rfl,rfl⟩ (λ_ _=>rfl) ρ w hp)
def rwF (x:In) (A:IA):St:={ psF [] x A with heap:=[],next:=0 }
def TnK (f:Fl) (s:List UInt8) (x:In) (A:IA):Prop:=CallsK a0a 67 [.agg (inO x A),.one (.int .u8 (f.ch.toNat:Int)),.one (.str s)] (rwF x A) (λy:In×IA=>y.1=f.tkn s x) (λy=>.v (.agg (inO y.1 y.2))) (λy=>rwF y.1 y.2)
theorem Tj (s:List UInt8) (hs:s.length<=1000000000) (x:In) (A:IA):TnK .D s x A:=by
 exact a0j true a2w fun ρ w=>l6 [⟨An,[]⟩] 60 [s.length<=1000000000] hs<|V.e ((a5e .D s x,A):In×IA) [] rfl
theorem Tk (s:List UInt8) (hs:s.length<=1000000000) (x:In) (A:IA):TnK .A s x A:=by
 exact a0j true a2w fun ρ w=>l6 [⟨An,[]⟩] 60 [s.length<=1000000000] hs<|V.e ((a5e .A s x,A):In×IA) [] rfl
theorem Tl (s:List UInt8) (hs:s.length<=1000000000) (x:In) (A:IA):TnK .B s x A:=by
 exact a0j true a2w fun ρ w=>l6 [⟨An,[]⟩] 60 [s.length<=1000000000] hs<|V.e ((a5e .B s x,A):In×IA) [] rfl
theorem Tm (s:List UInt8) (hs:s.length<=1000000000) (x:In) (A:IA):TnK .N s x A:=by
 exact a0j true a2w fun ρ w=>l6 [⟨eA,[]⟩] 60 [s.length<=1000000000] hs<|V.e ((a5e .N s x,A):In×IA) [] rfl
theorem Tn (s:List UInt8) (hs:s.length<=1000000000) (x:In) (A:IA):TnK .M s x A:=by
 exact a0j true a2w fun ρ w=>l6 [⟨eA,[]⟩] 60 [s.length<=1000000000] hs<|V.e ((a5e .M s x,A):In×IA) [] rfl
theorem To (s:List UInt8) (hs:s.length<=1000000000) (x:In) (A:IA):TnK .P s x A:=by
 exact a0j true a2w fun ρ w=>l6 [⟨eA,[]⟩] 60 [s.length<=1000000000] hs<|V.e ((a5e .P s x,A):In×IA) [] rfl
theorem Tp (s:List UInt8) (hs:s.length<=1000000000) (x:In) (A:IA):TnK .T s x A:=by
 exact a0j true a2w fun ρ w=>l6 [⟨IX,[]⟩] 60 [s.length<=1000000000] hs<|V.e ((a5e .T s x,A):In×IA) [] rfl
theorem Tq (s:List UInt8) (hs:s.length<=1000000000) (x:In) (A:IA):TnK .U s x A:=by
 exact a0j true a2w fun ρ w=>l6 [⟨IX,[]⟩] 60 [s.length<=1000000000] hs<|V.e ((a5e .U s x,A):In×IA) [] rfl
theorem Tr (s:List UInt8) (hs:s.length<=1000000000) (x:In) (A:IA):TnK .W s x A:=by
 exact a0j true a2w fun ρ w=>l6 [⟨IX,[]⟩] 60 [s.length<=1000000000] hs<|V.e ((a5e .W s x,A):In×IA) [] rfl
theorem PB (s:List UInt8) (hs:s.length<=1000000000) (x:In) (A:IA):TnK .Sz s x A:=by
 exact a0j true a2w fun ρ w=>l6 [] 60 [] trivial<|V.e ((a5e .Sz s x,A):In×IA) [] rfl
theorem PC (s:List UInt8) (hs:s.length<=1000000000) (x:In) (A:IA):TnK .Rg s x A:=by
 exact a0j true a2w fun ρ w=>l6 [] 60 [] trivial<|V.e ((a5e .Rg s x,A):In×IA) [] rfl
theorem PD (s:List UInt8) (hs:s.length<=1000000000) (x:In) (A:IA):TnK .aN s x A:=by
 have hd:(s.drop 1).length<=1000000000:=by rw [a2p]; omega
 exact a0j true a2w fun ρ w=>l6 [⟨rR,[]⟩,⟨eA,[]⟩] 60 [(s.drop 1).length<=1000000000] hd<|V.e ((a5e .aN s x,A):In×IA) [] rfl
theorem PE (s:List UInt8) (hs:s.length<=1000000000) (x:In) (A:IA):TnK .pN s x A:=by
 have hd:(s.drop 1).length<=1000000000:=by rw [a2p]; omega
 exact a0j true a2w fun ρ w=>l6 [⟨rR,[]⟩,⟨eA,[]⟩] 60 [(s.drop 1).length<=1000000000] hd<|V.e ((a5e .pN s x,A):In×IA) [] rfl
theorem PF (s:List UInt8) (hs:s.length<=1000000000) (x:In) (A:IA):TnK .aM s x A:=by
 have hd:(s.drop 1).length<=1000000000:=by rw [a2p]; omega
 exact a0j true a2w fun ρ w=>l6 [⟨rR,[]⟩,⟨eA,[]⟩] 60 [(s.drop 1).length<=1000000000] hd<|V.e ((a5e .aM s x,A):In×IA) [] rfl
theorem PH (s:List UInt8) (hs:s.length<=1000000000) (x:In) (A:IA):TnK .pM s x A:=by
 have hd:(s.drop 1).length<=1000000000:=by rw [a2p]; omega
 cases h:s==[33,45] with
 | true =>
  have e:a1i .M x (-1)=a5e .pM s x:=by show _=a1i .M x (if _ then _ else _); rw [if_pos h]
  exact a0j true a2w fun ρ w=>l6 [] 11 [] trivial<|V.q<|m0 138 (!(s==[33,45])) false (by rw [h]; rfl)<|V.q<|V.e ((a1i .M x (-1),A):In×IA) [] e
 | false =>
  have e:a1i .M x (K2 (s.drop 1))=a5e .pM s x:=by show _=a1i .M x (if _ then _ else _); rw [if_neg (by rw [h]; decide)]
  exact a0j true a2w fun ρ w=>l6 [] 11 [] trivial<|V.q<|m0 138 (!(s==[33,45])) true (by rw [h]; rfl)<|V.t [⟨rR,[]⟩,⟨eA,[]⟩] [(s.drop 1).length<=1000000000] hd<|V.e ((a1i .M x (K2 (s.drop 1)),A):In×IA) [] e
theorem Ts (s:List UInt8) (hs:s.length<=1000000000) (x:In) (A:IA):TnK .V s x A:=by
 have hl:=λi=>a0n (nj 44 s i) hs;exact a0j true a2w fun ρ w=>l6 [] 60 [] trivial<|V.c [] (tX s 44 hs) λy _=>G2 0 true (d5 z7 [] (d4 44 s) y.1 y.2 9 1 false)<|l6 [⟨IW (d4 44 s) y.1 y.2 (tZ hs),[1]⟩,⟨eA,[]⟩,⟨FL,[]⟩] 60 [aO y (d4 44 s) 0,(rAt 44 s 0).length<=1000000000,aO y (d4 44 s) 1,(rAt 44 s 1).length<=1000000000] ⟨⟨rfl,by decide⟩,hl 0,⟨rfl,by decide⟩,hl 1⟩<|V.e ((a5e .V s x,A):In×IA) [] rfl
theorem MS (s:List UInt8) (hs:s.length<=1000000000) (x:In) (A:IA):TnK .far s x A:=by
 have hd:(s.drop 1).length<=1000000000:=by rw [a2p]; omega
 have hl:=λi=>a0n (nj 64 (s.drop 1) i) hd;exact a0j true a2w fun ρ w=>l6 [⟨rR,[]⟩] 60 [] trivial<|V.c [] (tX (s.drop 1) 64 hd) λy _=>G2 0 true (d5 z7 [] (d4 64 (s.drop 1)) y.1 y.2 9 1 false)<|l6 [⟨IW (d4 64 (s.drop 1)) y.1 y.2 (tZ hd),[1]⟩,⟨eA,[]⟩] 60 [aO y (d4 64 (s.drop 1)) 0,(rAt 64 (s.drop 1) 0).length<=1000000000,aO y (d4 64 (s.drop 1)) 1,(rAt 64 (s.drop 1) 1).length<=1000000000] ⟨⟨rfl,by decide⟩,hl 0,⟨rfl,by decide⟩,hl 1⟩<|V.e ((a5e .far s x,A):In×IA) [] rfl
theorem aA (s:List UInt8) (hs:s.length<=1000000000):(S6 s).length<=1000000000:=by unfold S6; rw [a2p,a2b]; omega
structure TnI where
 x:In
 A:IA
 i:Nat
def MT (f:Fl) (ws:List (List UInt8)) (y:Option Addr×Nat) (j:TnI):St :=
 { n:=181,slots:=[(1,ov (.int .u8 (f.ch.toNat:Int))),(3,ov (.ptr 0 0)),(6,ov (.ptr 1 0)),(9,ov (.row 3 y.1 ws.length y.2)),(10,ov (.int .i64 (j.i:Int)))],gs:=[],
    heap:=[(0,⟨inO j.x j.A,30,true⟩),(1,⟨inZ,30,true⟩)],next:=2,rows:=S4 j.x j.A++[(3,d5 z7 [] ws y.1 y.2 9 1 false)],nr:=4,pers:=[],wr:=true,fx:=0 }
theorem ua {α:Type} (N:List UInt8->α) {ws:List (List UInt8)} {i:Nat} (h:i<ws.length):(ws.take (i+1)).map N=(ws.take i).map N++[N (ws.getD i [])]:=by
 rw [a2c,a0b h,a2x,a0r,a0b h]; rfl
theorem gM {ws:List (List UInt8)} {b:Nat} (hw:∀ w∈ws,w.length<=b) (i:Nat):(ws.getD i []).length<=b:=by
 rw [a0r];cases e:ws[i]? with
 | none=>exact a0s _
 | some p=>exact hw p (a0v e)
theorem pP {s:List UInt8} (hs:s.length<=1000000000) (h:¬ (s.length:Int)<=2):a0h.wrap ((s.length:Int) - 1)=((s.length - 1:Nat):Int):=by
 simp [a1s,a1t,a1p];omega
theorem Tt (s:List UInt8) (hs:s.length<=1000000000) (x:In) (A:IA) (hx:x.okM):TnK .L s x A:=by
 have Cn:(d4 59 (S6 s)).length<=1000000001:=a0n (I1 59 (S6 s)) (by have:=aA s hs; omega);have yJ:∀ w∈d4 59 (S6 s),w.length<=1000000000:=λw hw=>a0n (L4 59 (S6 s) w hw) (aA s hs);have Az:x.l.length<=1000000:=hx.2.1;refine a0j true a2w fun ρ w=>l6 [] 17 [] trivial<|V.q<|f9 15 (decide ((s.length:Int)<=2)) (λhc=>?_) (λhc=>?_)
 ·have e:x=a5e .L s x:=by
   show x={ x with l:=ag W5 x.l s };unfold ag;rw [if_pos (by have:=of_decide_eq_true hc; omega)]
  exact V.q<|V.e ((x,A):In×IA) [] e
 ·have hn:=of_decide_eq_false hc;have hw:=pP hs hn;have e:a5e .L s x={ x with l:=x.l++(d4 59 (S6 s)).map W5 }:=by
   show { x with l:=ag W5 x.l s }=_;unfold ag;rw [if_neg (by omega)]
  refine V.t [] [(0:Int)<=1/\(1:Int)<=a0h.wrap ((s.length:Int) - 1)/\a0h.wrap ((s.length:Int) - 1)<=s.length] (by rw [hw]; exact ⟨by decide,by omega,by omega⟩)<|V.s 21 (.one (.str ((s.take (a0h.wrap ((s.length:Int) - 1)).toNat).drop 1))) (.one (.str (S6 s))) (λ_=>by rw [hw,a1h]; rfl)<|V.c [] (tX (S6 s) 59 (aA s hs)) (λy _=>?_);generalize d4 59 (S6 s)=ws at Cn yJ e;refine G2 0 true (d5 z7 [] ws y.1 y.2 9 1 false)<|V.q<|G4 9 0 (d5 z7 [] ws y.1 y.2 9 1 false)<|j6 [1,3,6,9,10] [] (λj:TnI=>ws.length - j.i) (MT .L ws y) (λj=>j.i<=ws.length/\j.x={ x with l:=x.l++(ws.take j.i).map W5 }) ⟨x,A,0⟩ kq ⟨a0s _,by simp only [List.take_zero,List.map_nil,a1q]⟩ (λj hj ih=>?_);obtain ⟨x2,A2,i⟩:=j;obtain ⟨hi,ns⟩:=hj;simp only at hi ns;have de:x2.l.length=x.l.length+i:=by rw [ns]; simp only [a0c,a1k,a2b,Nat.min_eq_left hi]
  have Cj:=gM yJ i;refine a1l<|V.q<|f9 26 (decide ((i:Int)<(ws.length:Int))) (λhd=>?_) (λhd=>?_)
  ·have e9:i<ws.length:=by have:=of_decide_eq_true hd; omega
   have lL:(0:Int)<=i/\(i:Int)<ws.length:=⟨by omega,by omega⟩;exact l6 [] 2 [] trivial<|p9 [] [1] 10 kq<|@a1z _ [] [1] 10 _ _ ([⟨An,[]⟩]:List (Ent a0a)) [(0:Int)<=i/\(i:Int)<ws.length,(ws.getD (i:Int).toNat []).length<=1000000000] kq kq ⟨lL,Cj⟩<|@a6s _ [] [1] 10 _ _ _ C6 0 x2.l (W5 (ws.getD (i:Int).toNat [])) 1 A2.ql A2.cl 3 1 (C6 (W5 (ws.getD (i:Int).toNat []))) 8 kq kq kq (by rw [de]; omega) rfl (λ_ _=>kq) λq' k'=>@a1z _ [] [1] 10 _ _ ([]:List (Ent a0a)) [] kq kq trivial<|@o7 _ [] [1] 10 _ _ kq<|l6 [] 3 [] trivial<|a3v 10 i (by omega)<|d9 [1,3,6,9,10] [] (ih ⟨{ x2 with l:=x2.l++[W5 (ws.getD (i:Int).toNat [])] },{ A2 with ql:=q',cl:=k' },i+1⟩ ⟨e9,by simp only; rw [ns,ua W5 e9,<- a1g]; rfl⟩ (by simp only; omega)) kq kq
  ·have bA:i=ws.length:=by have:=of_decide_eq_false hd; omega
   rw [bA,a1o] at ns;exact V.q<|V.e ((x2,A2):In×IA) [] (ns.trans e.symm)
theorem Tu (s:List UInt8) (hs:s.length<=1000000000) (x:In) (A:IA) (hx:x.okM):TnK .Y s x A:=by
 have Cn:(d4 59 (S6 s)).length<=1000000001:=a0n (I1 59 (S6 s)) (by have:=aA s hs; omega);have yJ:∀ w∈d4 59 (S6 s),w.length<=1000000000:=λw hw=>a0n (L4 59 (S6 s) w hw) (aA s hs);have Az:x.y.length<=1000000:=hx.2.2;refine a0j true a2w fun ρ w=>l6 [] 17 [] trivial<|V.q<|f9 15 (decide ((s.length:Int)<=2)) (λhc=>?_) (λhc=>?_)
 ·have e:x=a5e .Y s x:=by
   show x={ x with y:=ag eL x.y s };unfold ag;rw [if_pos (by have:=of_decide_eq_true hc; omega)]
  exact V.q<|V.e ((x,A):In×IA) [] e
 ·have hn:=of_decide_eq_false hc;have hw:=pP hs hn;have e:a5e .Y s x={ x with y:=x.y++(d4 59 (S6 s)).map eL }:=by
   show { x with y:=ag eL x.y s }=_;unfold ag;rw [if_neg (by omega)]
  refine V.t [] [(0:Int)<=1/\(1:Int)<=a0h.wrap ((s.length:Int) - 1)/\a0h.wrap ((s.length:Int) - 1)<=s.length] (by rw [hw]; exact ⟨by decide,by omega,by omega⟩)<|V.s 21 (.one (.str ((s.take (a0h.wrap ((s.length:Int) - 1)).toNat).drop 1))) (.one (.str (S6 s))) (λ_=>by rw [hw,a1h]; rfl)<|V.c [] (tX (S6 s) 59 (aA s hs)) (λy _=>?_);generalize d4 59 (S6 s)=ws at Cn yJ e;refine G2 0 true (d5 z7 [] ws y.1 y.2 9 1 false)<|V.q<|G4 9 0 (d5 z7 [] ws y.1 y.2 9 1 false)<|j6 [1,3,6,9,10] [] (λj:TnI=>ws.length - j.i) (MT .Y ws y) (λj=>j.i<=ws.length/\j.x={ x with y:=x.y++(ws.take j.i).map eL }) ⟨x,A,0⟩ kq ⟨a0s _,by simp only [List.take_zero,List.map_nil,a1q]⟩ (λj hj ih=>?_);obtain ⟨x2,A2,i⟩:=j;obtain ⟨hi,ns⟩:=hj;simp only at hi ns;have de:x2.y.length=x.y.length+i:=by rw [ns]; simp only [a0c,a1k,a2b,Nat.min_eq_left hi]
  have Cj:=gM yJ i;refine a1l<|V.q<|f9 26 (decide ((i:Int)<(ws.length:Int))) (λhd=>?_) (λhd=>?_)
  ·have e9:i<ws.length:=by have:=of_decide_eq_true hd; omega
   have lL:(0:Int)<=i/\(i:Int)<ws.length:=⟨by omega,by omega⟩;exact l6 [] 3 [] trivial<|p9 [] [2] 10 kq<|@a1z _ [] [2] 10 _ _ ([⟨IX,[]⟩]:List (Ent a0a)) [(0:Int)<=i/\(i:Int)<ws.length,(ws.getD (i:Int).toNat []).length<=1000000000] kq kq ⟨lL,Cj⟩<|@a6s _ [] [2] 10 _ _ _ a5g ty0 x2.y (eL (ws.getD (i:Int).toNat [])) 2 A2.qy A2.cy 23 5 (a5g (eL (ws.getD (i:Int).toNat []))) 48 kq kq kq (by rw [de]; omega) rfl (λ_ _=>kq) λq' k'=>@a1z _ [] [2] 10 _ _ ([]:List (Ent a0a)) [] kq kq trivial<|@o7 _ [] [2] 10 _ _ kq<|l6 [] 2 [] trivial<|a3v 10 i (by omega)<|d9 [1,3,6,9,10] [] (ih ⟨{ x2 with y:=x2.y++[eL (ws.getD (i:Int).toNat [])] },{ A2 with qy:=q',cy:=k' },i+1⟩ ⟨e9,by simp only; rw [ns,ua eL e9,<- a1g]; rfl⟩ (by simp only; omega)) kq kq
  ·have bA:i=ws.length:=by have:=of_decide_eq_false hd; omega
   rw [bA,a1o] at ns;exact V.q<|V.e ((x2,A2):In×IA) [] (ns.trans e.symm)
theorem Tv (s:List UInt8) (hs:s.length<=1000000000) (x:In) (A:IA) (hx:x.okM):TnK .F s x A:=by
 have Cn:(d4 59 (S6 s)).length<=1000000001:=a0n (I1 59 (S6 s)) (by have:=aA s hs; omega);have yJ:∀ w∈d4 59 (S6 s),w.length<=1000000000:=λw hw=>a0n (L4 59 (S6 s) w hw) (aA s hs);have Az:x.f.length<=1000000:=hx.1;refine a0j true a2w fun ρ w=>l6 [] 17 [] trivial<|V.q<|f9 15 (decide ((s.length:Int)<=2)) (λhc=>?_) (λhc=>?_)
 ·have e:x=a5e .F s x:=by
   show x={ x with f:=ag lD x.f s };unfold ag;rw [if_pos (by have:=of_decide_eq_true hc; omega)]
  exact V.q<|V.e ((x,A):In×IA) [] e
 ·have hn:=of_decide_eq_false hc;have hw:=pP hs hn;have e:a5e .F s x={ x with f:=x.f++(d4 59 (S6 s)).map lD }:=by
   show { x with f:=ag lD x.f s }=_;unfold ag;rw [if_neg (by omega)]
  refine V.t [] [(0:Int)<=1/\(1:Int)<=a0h.wrap ((s.length:Int) - 1)/\a0h.wrap ((s.length:Int) - 1)<=s.length] (by rw [hw]; exact ⟨by decide,by omega,by omega⟩)<|V.s 21 (.one (.str ((s.take (a0h.wrap ((s.length:Int) - 1)).toNat).drop 1))) (.one (.str (S6 s))) (λ_=>by rw [hw,a1h]; rfl)<|V.c [] (tX (S6 s) 59 (aA s hs)) (λy _=>?_);generalize d4 59 (S6 s)=ws at Cn yJ e;refine G2 0 true (d5 z7 [] ws y.1 y.2 9 1 false)<|V.q<|G4 9 0 (d5 z7 [] ws y.1 y.2 9 1 false)<|j6 [1,3,6,9,10] [] (λj:TnI=>ws.length - j.i) (MT .F ws y) (λj=>j.i<=ws.length/\j.x={ x with f:=x.f++(ws.take j.i).map lD }) ⟨x,A,0⟩ kq ⟨a0s _,by simp only [List.take_zero,List.map_nil,a1q]⟩ (λj hj ih=>?_);obtain ⟨x2,A2,i⟩:=j;obtain ⟨hi,ns⟩:=hj;simp only at hi ns;have de:x2.f.length=x.f.length+i:=by rw [ns]; simp only [a0c,a1k,a2b,Nat.min_eq_left hi]
  have Cj:=gM yJ i;refine a1l<|V.q<|f9 26 (decide ((i:Int)<(ws.length:Int))) (λhd=>?_) (λhd=>?_)
  ·have e9:i<ws.length:=by have:=of_decide_eq_true hd; omega
   have lL:(0:Int)<=i/\(i:Int)<ws.length:=⟨by omega,by omega⟩;refine l6 [] 4 [(0:Int)<=i/\(i:Int)<ws.length] lL<|V.c [] (tX (ws.getD (i:Int).toNat []) 44 Cj) λz _=>G2 0 true (d5 z7 [] (d4 44 (ws.getD (i:Int).toNat [])) z.1 z.2 9 1 false) ?_;have hl:=λk=>a0n (nj 44 (ws.getD (i:Int).toNat []) k) Cj;exact V.q<|p9 [] [0] 18 kq<|@a1z _ [] [0] 18 _ _ ([⟨IW (d4 44 (ws.getD (i:Int).toNat [])) z.1 z.2 (tZ Cj),[1]⟩,⟨eA,[]⟩,⟨FL,[]⟩]:List (Ent a0a)) [aO z (d4 44 (ws.getD (i:Int).toNat [])) 0,(rAt 44 (ws.getD (i:Int).toNat []) 0).length<=1000000000,aO z (d4 44 (ws.getD (i:Int).toNat [])) 1,(rAt 44 (ws.getD (i:Int).toNat []) 1).length<=1000000000,aO z (d4 44 (ws.getD (i:Int).toNat [])) 2,(rAt 44 (ws.getD (i:Int).toNat []) 2).length<=1000000000,aO z (d4 44 (ws.getD (i:Int).toNat [])) 3,(rAt 44 (ws.getD (i:Int).toNat []) 3).length<=1000000000] kq kq ⟨⟨rfl,by decide⟩,hl 0,⟨rfl,by decide⟩,hl 1,⟨rfl,by decide⟩,hl 2,⟨rfl,by decide⟩,hl 3⟩<|@a6s _ [] [0] 18 _ _ _ a5f fm0 x2.f (lD (ws.getD (i:Int).toNat [])) 0 A2.qf A2.cf 93 4 (a5f (lD (ws.getD (i:Int).toNat []))) 40 kq kq kq (by rw [de]; omega) rfl (λ_ _=>kq) λq' k'=>@a1z _ [] [0] 18 _ _ ([]:List (Ent a0a)) [] kq kq trivial<|@o7 _ [] [0] 18 _ _ kq<|l6 [] 1 [] trivial<|a3v 10 i (by omega)<|d9 [1,3,6,9,10] [] (ih ⟨{ x2 with f:=x2.f++[lD (ws.getD (i:Int).toNat [])] },{ A2 with qf:=q',cf:=k' },i+1⟩ ⟨e9,by simp only; rw [ns,ua lD e9,<- a1g]; rfl⟩ (by simp only; omega)) kq kq
  ·have bA:i=ws.length:=by have:=of_decide_eq_false hd; omega
   rw [bA,a1o] at ns;exact V.q<|V.e ((x2,A2):In×IA) [] (ns.trans e.symm)
theorem Tw (f:Fl) (s:List UInt8) (hs:s.length<=1000000000) (x:In) (A:IA) (hx:x.okM):TnK f s x A:=by
 cases f
 case L=>exact Tt s hs x A hx
 case Y=>exact Tu s hs x A hx
 case F=>exact Tv s hs x A hx
 case D=>exact Tj s hs x A
 case A=>exact Tk s hs x A
 case B=>exact Tl s hs x A
 case N=>exact Tm s hs x A
 case M=>exact Tn s hs x A
 case P=>exact To s hs x A
 case T=>exact Tp s hs x A
 case U=>exact Tq s hs x A
 case W=>exact Tr s hs x A
 case V=>exact Ts s hs x A
 case Sz=>exact PB s hs x A
 case Rg=>exact PC s hs x A
 case aN=>exact PD s hs x A
 case aM=>exact PF s hs x A
 case pN=>exact PE s hs x A
 case pM=>exact PH s hs x A
 case far=>exact MS s hs x A
theorem MU (f g:Fl) (l:List UInt8) (y:In) (h:f.ind g=true) (hy:f.fr y):f.fr (g.tkn l y):=by
 cases f<;>first | trivial | (cases g<;>first | exact hy | cases h)
theorem pQ {α:Type} (N:List UInt8->α) (w:List UInt8) (hw:w.length<=1000000):(ag N [] w).length<=1000000:=by
 unfold ag;split
 ·exact a0s _
 ·rw [List.nil_append,a1k];refine a0n (I1 59 (S6 w)) ?_;unfold S6;rw [a2p,a2b];omega
theorem IY (f:Fl) (w:List UInt8) (x:In) (hw:w.length<=1000000) (hx:x.okM) (hf:f.fr x):(f.tkn w x).okM:=by
 cases f
 case L=>exact ⟨hx.1,by show (ag W5 x.l w).length<=_; rw [show x.l=[] from hf]; exact pQ _ w hw,hx.2.2⟩
 case Y=>exact ⟨hx.1,hx.2.1,by show (ag eL x.y w).length<=_; rw [show x.y=[] from hf]; exact pQ _ w hw⟩
 case F=>exact ⟨by show (ag lD x.f w).length<=_; rw [show x.f=[] from hf]; exact pQ _ w hw,hx.2⟩
 all_goals exact hx
def qp (s:List UInt8) (o:Nat):Option In :=
 if (s6 o==(d4 32 s).getD 0 [])=true/\(d4 32 s).length=(c6 o).length+1 then
  (if (j2 (cU (c6 o) ((d4 32 s).drop 1) (f0 (o:Int)))&&(aj (cU (c6 o) ((d4 32 s).drop 1) (f0 (o:Int))) o==s))=true then some (cU (c6 o) ((d4 32 s).drop 1) (f0 (o:Int))) else none)
 else none
theorem FM {s:List UInt8} {o:Nat} (ho:F8 o=true) {x:In} (h:qp s o=some x):fI s=some x:=by
 unfold qp at h;split at h
 ·rename_i hc;have hn:=eq_of_beq hc.1;unfold fI;rw [<- hn,bW ho];show (if _ then _ else _)=_;rw [if_pos hc.2];exact h
 ·cases h
theorem FN {s:List UInt8} (h:∀ o,F8 o=true->qp s o=none):fI s=none:=by
 unfold fI;cases hf:K6 ((d4 32 s).getD 0 []) with
 | none=>rfl
 | some o =>
  show (if _ then _ else _)=_;unfold K6 at hf;have h1:=List.find?_some hf;obtain ⟨i,hi,rfl⟩:=a1d.1 (List.mem_of_find?_eq_some hf);have ho:F8 (i+1)=true:=(p6 _).2 (by have:=List.mem_range.1 hi; omega);have h2:=h (i+1) ho;unfold qp at h2;split
  ·rename_i hl;rw [if_pos ⟨h1,hl⟩] at h2;exact h2
  ·rfl
theorem IZ {s:List UInt8} (o:Nat) {ws:List (List UInt8)} (h:d4 32 s=ws):qp s o=if (s6 o==ws.getD 0 [])=true/\ws.length=(c6 o).length+1 then
  (if (j2 (cU (c6 o) (ws.drop 1) (f0 (o:Int)))&&(aj (cU (c6 o) (ws.drop 1) (f0 (o:Int))) o==s))=true then some (cU (c6 o) (ws.drop 1) (f0 (o:Int))) else none) else none:=by rw [<- h]; rfl
def PI (s:List UInt8) (ws:List (List UInt8)) (y:Option Addr×Nat) (j:Nat):St :=
 { n:=68,slots:=[(0,ov (.str s)),(2,ov (.ptr 0 0)),(3,ov (.int .i64 0)),(4,ov (.row 0 y.1 ws.length y.2)),(5,ov (.int .i64 (j:Int)))],gs:=[],
    heap:=[(0,⟨inZ,30,true⟩)],next:=1,rows:=[(0,d5 z7 [] ws y.1 y.2 9 1 false)],nr:=1,pers:=[j7],wr:=true,fx:=0 }
def Tx (s:List UInt8) (ws:List (List UInt8)) (y:Option Addr×Nat) (o:Nat) (ls:List UInt8) (j:TnI):St :=
 { n:=68,slots:=[(0,ov (.str s)),(2,ov (.ptr 0 0)),(3,ov (.int .i64 0)),(4,ov (.row 3 y.1 ws.length y.2)),(5,ov (.int .i64 (o:Int))),(7,ov (.str ls)),(8,ov (.ptr 1 0)),(9,ov (.int .i64 (j.i:Int)))],gs:=[],
    heap:=[(0,⟨inZ,30,true⟩),(1,⟨inO j.x j.A,30,true⟩)],next:=2,rows:=S4 j.x j.A++[(3,d5 z7 [] ws y.1 y.2 9 1 false)],nr:=4,pers:=[j7],wr:=true,fx:=0 }
theorem Ja (s:List UInt8) (hs:s.length<=1000000):CallsK a0a 25 [.one (.str s)] H0 (λy:In×IA=>y.1=(prA s).1/\y.1.okM) (λy=>.tup [.agg (inV y.1 y.2),.one (.int .i64 (prA s).2)]) (λy=>z8 (lsP y.1 y.2)):=by
 have GB:=EZ s;have Cn:(d4 32 s).length<=1000001:=a0n (I1 32 s) (by omega);have yJ:∀ w∈d4 32 s,w.length<=1000000:=λw hw=>a0n (L4 32 s w hw) hs;have Cj:0<(d4 32 s).length:=List.length_pos_iff.2 (cK 32 s);refine a0j true Tryz.func25 fun ρ w=>V.q<|V.c [] (tX s 32 (by omega)) (λy _=>?_);generalize hws:d4 32 s=ws at Cn yJ Cj;refine G2 0 true (d5 z7 [] ws y.1 y.2 9 1 false)<|V.q<|G4 4 0 (d5 z7 [] ws y.1 y.2 9 1 false)<|j6 [0,2,3,4,5] [false,false,true] (λj:Nat=>39 - j) (PI s ws y) (λj=>1<=j/\j<=39/\∀ o,F8 o=true->o<j->qp s o=none) 1 kq ⟨a0q _,by decide,λo ho hl=>by have:=(p6 o).1 ho; omega⟩ (λo hj ih=>?_);obtain ⟨h1,Xx,J8⟩:=hj;refine a1l<|V.q<|f9 15 (decide ((o:Int)<=38)) (λhc=>?_) (λhc=>?_)
 ·have B0:o<=38:=by have:=of_decide_eq_true hc; omega
  have ho:F8 o=true:=(p6 o).2 (by omega);have aD:=jY o (by omega);have F5:n7 (o:Int)=some (c6 o):=by unfold n7; rw [if_pos (by omega)]; rfl
  rw [F5] at aD;simp only [a1e] at aD;have wM:(rfN (o:Int)).1=s6 o:=by rw [lE ho]
  have lK:(c6 o).length<=7:=by
   have:=Y0 (o:Int);rw [F5] at this;exact this
  have Jl:a0h.wrap ((((c6 o).map a3z).length:Int)+1)=((((c6 o).map a3z).length+1:Nat):Int):=av (by rw [a1k]; omega);have VP:a0h.wrap ((o:Int)+1)=((o+1:Nat):Int):=av (by omega);have Co:qp s o=none->∀ o',F8 o'=true->o'<o+1->qp s o'=none:=λh o' ky hl=>by
   by_cases e:o'=o
   ·rw [e]; exact h
   ·exact J8 o' ky (by omega)
  have yE:=IZ o hws;refine V.q<|V.c [] (Z7 (o:Int)) λ_ _=>V.t [] [(0:Int)<=0/\(0:Int)<ws.length] ⟨by decide,by omega⟩<|f9 35 (!((rfN (o:Int)).1==ws.getD (0:Int).toNat [])||((ws.length:Int) != a0h.wrap (((rfN (o:Int)).2.length:Int)+1))) (λhd=>?_) (λhd=>?_)
  ·have kx:qp s o=none:=by
    rw [aD,wM,Jl,a3w,a1k] at hd;rw [yE,if_neg];rintro ⟨q1,q2⟩;rcases hd with hd | hd
    ·rw [show ws.getD (0:Int).toNat []=ws.getD 0 [] from rfl,q1] at hd;cases hd
    ·rw [q2,bne_self_eq_false] at hd;cases hd
   exact V.q<|V.s 5 (.one (.int .i64 (a0h.wrap ((o:Int)+1)))) (.one (.int .i64 ((o+1:Nat):Int))) (λ_=>by rw [VP])<|d9 [0,2,3,4,5] [true] (ih (o+1) ⟨by omega,by omega,Co kx⟩ (by omega)) kq kq
  ·refine V.q<|V.s 7 (.one (.str (rfN (o:Int)).2)) (.one (.str ((c6 o).map a3z))) (λ_=>by rw [aD])<|V.c [] (ni (o:Int)) λ_ _=>V.q ?_;have QG:=jR ho;have QX:∀ f∈c6 o,f.fr (f0 (o:Int)):=λf _=>fH f _;rw [aD,wM,Jl,a2r,a1k] at hd;have n8:ws.length=(c6 o).length+1:=by
    have:=hd.2;rw [bne_eq_false_iff_eq] at this;omega
   have UZ:(s6 o==ws.getD 0 [])=true:=by
    have:=hd.1;rw [a5x] at this;exact this
   rw [if_pos ⟨UZ,n8⟩] at yE;generalize c6 o=fls at aD lK n8 QG QX yE;refine H6 a5f fm0 1 24 ⟨inC (f0 (o:Int)) (.val (.slice none 0 0)) (.val (.slice none 0 0)) (.val (.slice none 0 0)),30,true⟩ 93 4 kq rfl<|H6 C6 0 1 25 ⟨inC (f0 (o:Int)) (.row 1 none 0 0) (.val (.slice none 0 0)) (.val (.slice none 0 0)),30,true⟩ 3 1 kq rfl<|H6 a5g ty0 1 26 ⟨inC (f0 (o:Int)) (.row 1 none 0 0) (.row 2 none 0 0) (.val (.slice none 0 0)),30,true⟩ 23 5 kq rfl<|j6 [0,2,3,4,5,7,8,9] [true] (λj:TnI=>fls.length - j.i) (Tx s ws y o (fls.map a3z)) (λj=>j.i<=fls.length/\j.x.okM/\(∀ f∈fls.drop j.i,f.fr j.x)/\lC (fls.drop j.i)=true/\cU (fls.drop j.i) (ws.drop (j.i+1)) j.x=cU fls (ws.drop 1) (f0 (o:Int))) ⟨f0 (o:Int),IA0,0⟩ kq ⟨a0s _,⟨a0s _,a0s _,a0s _⟩,QX,QG,rfl⟩ (λj hj ih2=>?_);obtain ⟨x,A,i⟩:=j;obtain ⟨hi,Rd,co,iU,aC⟩:=hj;simp only at hi Rd co iU aC;refine a1l<|V.q<|f9 41 (decide ((i:Int)<((fls.map a3z).length:Int))) (λhb=>?_) (λhb=>?_)
   ·have e9:i<fls.length:=by simpa using hb
    obtain ⟨f,hf⟩:∃ f,fls.getD i .D=f:=⟨_,rfl⟩;have N5:(fls.map a3z).getD (i:Int).toNat 0=f.ch:=by
     rw [a1h,<- hf,a0r,a2t,a0b e9,a0r,a0b e9];rfl
    have QC:fls.drop i=f::fls.drop (i+1):=by
     rw [a2k e9];rw [a0r,a0b e9] at hf;simp only [a1e] at hf;rw [hf]
    have NY:a0h.wrap ((i:Int)+1)=((i+1:Nat):Int):=av (by omega);have Vv:=gM yJ (a0h.wrap ((i:Int)+1)).toNat;have hW:=Tw f (ws.getD (a0h.wrap ((i:Int)+1)).toNat []) (a0n Vv (by decide)) x A Rd;unfold TnK at hW;rw [<- N5] at hW;refine V.q<|p9 [] [0,1,2] 10 kq<|@a1z _ [] [0,1,2] 10 _ _ ([]:List (Ent a0a)) [(0:Int)<=i/\(i:Int)<((fls.map a3z).length:Int),(0:Int)<=a0h.wrap ((i:Int)+1)/\a0h.wrap ((i:Int)+1)<ws.length] kq kq ⟨⟨by omega,by rw [a1k]; omega⟩,by rw [NY]; omega,by rw [NY]; omega⟩<|@cQ _ [] [0,1,2] 10 _ _ _ _ _ _ _ _ _ [] hW kq kq kq (λ_=>kq) λz hz=>@o7 _ [] [0,1,2] 10 _ _ kq<|V.q<|V.s 9 (.one (.int .i64 (a0h.wrap ((i:Int)+1)))) (.one (.int .i64 ((i+1:Nat):Int))) (λ_=>by rw [NY]) ?_;obtain ⟨x3,A3⟩:=z;have GH:x3=f.tkn (ws.getD (i+1) []) x:=by rw [<- a1h (i+1),<- NY]; exact hz
    rw [QC] at co iU aC;unfold lC at iU;rw [a0g,a0y] at iU;exact d9 [0,2,3,4,5,7,8,9] [true] (ih2 ⟨x3,A3,i+1⟩ ⟨e9,by rw [GH]; exact IY f _ x (gM yJ _) Rd (co f (a0f ..)),λg hg=>by rw [GH]; exact MU g f _ x (O9 (iU.1 g hg)) (co g (a0e _ hg)),iU.2,by
     simp only;rw [<- aC,GH];show _=cU (fls.drop (i+1)) ((ws.drop (i+1)).drop 1) (f.tkn ((ws.drop (i+1)).getD 0 []) x);rw [List.drop_drop,show (ws.drop (i+1)).getD 0 []=ws.getD (i+1) [] by simp [a0r]]⟩ (by simp only; omega)) kq kq
   ·have bA:i=fls.length:=by simp at hb; omega
    rw [bA,List.drop_length] at aC;have aC:x=cU fls (ws.drop 1) (f0 (o:Int)):=aC;rw [<- aC] at yE;have f7:x.op=(o:Int):=by rw [aC]; exact tL _ _ _
    refine V.q<|a3a 0 (d5 a5f fm0 x.f A.qf A.cf 93 4 true) kq kq<|a3a 1 (d5 C6 0 x.l A.ql A.cl 3 1 true) kq kq<|a3a 2 (d5 a5g ty0 x.y A.qy A.cy 23 5 true) kq kq<|V.c [(3,false),(2,true),(1,true),(0,true)] (FE x A Rd) (λ_ _=>?_);have wO:lnT x=aj x o:=tU f7;refine V.q<|f9 65 ((txA x).2==0&&(txA x).1==s) (λhe=>?_) (λhe=>?_)
    ·rw [a0g] at he;have Cp:j2 x=true:=by
      cases hq:j2 x with
      | true=>rfl
      | false =>
       have:=he.1;unfold txA at this;rw [hq] at this;cases this
     have GA:(aj x o==s)=true:=by
      have:=he.2;unfold txA at this;rw [Cp,cond_true,wO] at this;exact this
     rw [if_pos (by rw [Cp,GA]; rfl)] at yE;have QT:prA s=(x,0):=by unfold prA; rw [<- GB,FM ho yE]; rfl
     exact V.q<|V.s 3 (.one (.int .i64 0)) (.one (.int .i64 (prA s).2)) (λ_=>by rw [QT])<|V.e ((x,A):In×IA) [(2,true),(1,true),(0,true)] ⟨by rw [QT],Rd⟩
    ·have kx:qp s o=none:=by
      rw [yE,if_neg];intro hq;rw [a0g] at hq;have:((txA x).2==0&&(txA x).1==s)=true:=by
       unfold txA;rw [hq.1,cond_true,wO,hq.2];rfl
      rw [this] at he;cases he
     exact V.q<|V.s 5 (.one (.int .i64 (a0h.wrap ((o:Int)+1)))) (.one (.int .i64 ((o+1:Nat):Int))) (λ_=>by rw [VP])<|d9 [0,2,3,4,5] [false,false,false,true] (ih (o+1) ⟨by omega,by omega,Co kx⟩ (by omega)) kq kq
 ·have he:o=39:=by have:=of_decide_eq_false hc; omega
  have kx:fI s=none:=FN λo' ky=>J8 o' ky (by have:=(p6 o').1 ky; omega);have QT:prA s=(C2,222):=by unfold prA; rw [<- GB,kx]; rfl
  exact V.q<|V.s 3 (.one (.int .i64 222)) (.one (.int .i64 (prA s).2)) (λ_=>by rw [QT])<|a6f 0<|vpn (C7 C2 IA0)<|vpn (C1 C2 IA0)<|vpn (E7 C2 IA0)<|V.e ((C2,IA0):In×IA) [(2,true),(1,true),(0,true)] ⟨by rw [QT],a0s _,a0s _,a0s _⟩
def wkF (ps:List m6) (b:WSt):St :=
 { n:=0,slots:=[],gs:=[],heap:=[(0,⟨[.row 0 b.q b.bs.length b.c,.row 1 b.q2 b.rs.length b.c2],129,true⟩)],next:=1,rows:=[(0,d5 bsv 0 b.bs b.q b.c 5 1 true),(1,d5 rlv (0,0) b.rs b.q2 b.c2 62 2 true)],nr:=2,pers:=ps,wr:=false }
def WkR (b:WSt) (o:List UInt8) (r:List (Int×Int)) (b':WSt):Prop:=b'.bs=b.bs++o/\b'.rs=b.rs++r
theorem Ao {n:Int} (h:I3 n):-4611686018427387904<n/\n<4611686018427387904:=⟨by have:=h.1; omega,by have:=h.2; omega⟩
theorem W7 (n:Int) (b:WSt) (h:I3 n) (hb:b.bs.length<=1000000000000):CallsK a0a 243 [.one (.ptr 0 0),.one (.int .i64 n)] (wkF [] b) (WkR b (N3 n) []) (λ_=>.tup []) (wkF []):=by
 have hl:=I0 9 (zz n);exact a0j true Tryz.func243 fun ρ w=>V.q<|p9 [] [0] 10 kq<|@a1z _ [] [0] 10 _ _ ([(⟨FA n (Ao h).1 (Ao h).2,[]⟩:Ent a0a)]:List (Ent a0a)) [[CV.one (.int .i64 n)]=[CV.one (.int .i64 n)]] kq kq rfl<|@VX.pushes _ [] [0] 10 _ _ _ bsv 0 b.bs (q9 9 (zz n)) 0 b.q b.c 5 1 (q9 9 (zz n)).length (λj=>[.int .u8 (((q9 9 (zz n)).getD j 0).toNat:Int)]) 1 kq rfl kq kq (by omega) (λ_ _=>rfl) (λ_ _=>kq) λq' cap'=>@a1z _ [] [0] 10 _ _ ([]:List (Ent a0a)) [] kq kq trivial<|@o7 _ [] [0] 10 _ _ kq<|V.q<|V.e (⟨b.bs++q9 9 (zz n),q',cap',b.rs,b.q2,b.c2⟩:WSt) [] ⟨rfl,(a1q _).symm⟩
theorem yr (l:List UInt8) (b:WSt) (hl:l.length<=1000000) (hb:b.bs.length<=900000000000):CallsK a0a 247 [.one (.ptr 0 0),.one (.str l)] (wkF [] b) (WkR b (fl l) []) (λ_=>.tup []) (wkF []):=by
 have hg:=I0 9 (zz l.length);refine a0j true Tryz.func247 fun ρ w=>V.q<|V.c [] (W7 (l.length:Int) b ⟨by omega,by omega⟩ (by omega)) (λb1 h1=>?_);obtain ⟨bs,q,c,rs,q2,c2⟩:=b1;obtain ⟨h1,h2⟩:=h1;simp only at h1 h2;have Gm:bs.length<=900000000010:=by rw [h1,a0c]; unfold N3; omega
 exact V.q<|V.pushes bsv 0 bs l 2 q c 5 1 l.length (λj=>[.int .u8 ((l.getD j 0).toNat:Int)]) 1 kq rfl (by omega) (λ_ _=>rfl) (λ_ _=>kq) λq' cap'=>V.q<|V.e (⟨bs++l,q',cap',rs,q2,c2⟩:WSt) [] ⟨by simp only; rw [h1,a1g]; rfl,h2⟩
theorem yu (v:Bool) (b:WSt) (hb:b.bs.length<=900000000000):CallsK a0a 248 [.one (.ptr 0 0),.one (.sb v)] (wkF [] b) (WkR b [sK v] []) (λ_=>.tup []) (wkF []):=by
 refine a0j true Tryz.func248 fun ρ w=>V.q<|f9 4 v (λhh=>?_) (λhh=>?_)
 ·subst hh;exact V.q<|a6q bsv 0 b.bs 1 0 b.q b.c 5 1 [.int .u8 1] 1 kq (by omega) kq (λ_ _=>kq) λq' cap'=>V.q<|V.e (⟨b.bs++[1],q',cap',b.rs,b.q2,b.c2⟩:WSt) [] ⟨rfl,(a1q _).symm⟩
 ·subst hh;exact V.q<|a6q bsv 0 b.bs 0 0 b.q b.c 5 1 [.int .u8 0] 1 kq (by omega) kq (λ_ _=>kq) λq' cap'=>V.q<|V.e (⟨b.bs++[0],q',cap',b.rs,b.q2,b.c2⟩:WSt) [] ⟨rfl,(a1q _).symm⟩
theorem ub (n:Int) (b:WSt) (hb:b.bs.length<=900000000000):CallsK a0a 244 [.one (.ptr 0 0),.one (.int .i64 n)] (wkF [] b) (WkR b (Z0 n) []) (λ_=>.tup []) (wkF []):=by
 refine a0j true Tryz.func244 fun ρ w=>V.t [] [(0:Int)<=24,(0:Int)<=16,(0:Int)<=8] ⟨by decide,by decide,show (0:Int)<=8 by decide⟩<|V.pushes bsv 0 b.bs (Z0 n) 0 b.q b.c 5 1 4 (λj=>(([.int .u8 (a1x.wrap (n.fdiv (2 ^ 24))),.int .u8 (a1x.wrap (n.fdiv (2 ^ 16))),.int .u8 (a1x.wrap (n.fdiv (2 ^ 8))),.int .u8 (a1x.wrap n)]:List SV).drop (j*1)).take 1) 1 kq rfl (by omega) (λi hi=>?_) (λ_ _=>kq) (λq' cap'=>?_)
 ·match i,hi with
  | 0,_=>exact T2 n 24
  | 1,_=>exact T2 n 16
  | 2,_=>exact T2 n 8
  | 3,_=>have:=T2 n 0; rw [show n.fdiv (2 ^ 0)=n from Int.fdiv_one n] at this; exact this
 exact V.q<|V.e (⟨b.bs++Z0 n,q',cap',b.rs,b.q2,b.c2⟩:WSt) [] ⟨rfl,(a1q _).symm⟩
theorem FO (n p:Int) (b:WSt) (hb:b.bs.length<=900000000000) (hr:b.rs.length<=900000000):CallsK a0a 245 [.one (.ptr 0 0),.one (.int .i64 n),.one (.int .i64 p)] (wkF [] b) (WkR b (Z0 n) [((b.bs.length:Int),p)]) (λ_=>.tup []) (wkF []):=by
 refine a0j true Tryz.func245 fun ρ w=>V.q<|p9 [] [1] 16 kq<|@a1z _ [] [1] 16 _ _ ([]:List (Ent a0a)) [] kq kq trivial<|@a6s _ [] [1] 16 _ _ _ rlv (0,0) b.rs ((b.bs.length:Int),p) 1 b.q2 b.c2 62 2 [.int .i64 (b.bs.length:Int),.int .i64 p] 16 kq kq kq (by omega) rfl (λ_ _=>kq) λq' cap'=>@a1z _ [] [1] 16 _ _ ([]:List (Ent a0a)) [] kq kq trivial<|@o7 _ [] [1] 16 _ _ kq<|V.q<|V.c [] (ub n ⟨b.bs,b.q,b.c,b.rs++[((b.bs.length:Int),p)],q',cap'⟩ hb) (λb1 h1=>?_);obtain ⟨h1,h2⟩:=h1;exact V.q<|V.e b1 [] ⟨h1,by rw [h2,a1q]⟩
theorem A5 (n:Int):(N3 n).length<=10:=I0 9 (zz n)
theorem Jb (t:Ty) (b:WSt) (h1:I3 t.k) (h2:I3 t.p) (h3:I3 t.q) (hl:t.s.length<=1000000) (hb:b.bs.length<=800000000000):CallsK a0a 246 [.one (.ptr 0 0),.agg t.cells] (wkF [] b) (WkR b (M9 t) []) (λ_=>.tup []) (wkF []):=by
 have l1:=A5 t.k;have l2:=A5 t.p;have l3:=A5 t.q;refine a0j true Tryz.func246 fun ρ w=>V.q<|V.c [] (W7 t.k b h1 (by omega)) (λb1 e1=>?_);obtain ⟨e1,r1⟩:=e1;refine V.q<|V.c [] (W7 t.p b1 h2 (by rw [e1,a0c]; omega)) (λb2 e2=>?_);obtain ⟨e2,r2⟩:=e2;refine V.q<|V.c [] (W7 t.q b2 h3 (by rw [e2,e1,a0c,a0c]; omega)) (λb3 e3=>?_);obtain ⟨e3,r3⟩:=e3;refine V.q<|V.c [] (yu t.v b3 (by rw [e3,e2,e1]; simp only [a0c]; omega)) (λb4 e4=>?_);obtain ⟨e4,r4⟩:=e4;refine V.q<|V.c [] (yr t.s b4 hl (by rw [e4,e3,e2,e1]; simp only [a0c,a0p,a1r]; omega)) (λb5 e5=>?_);obtain ⟨e5,r5⟩:=e5;exact V.q<|V.e b5 [] ⟨by rw [e5,e4,e3,e2,e1]; simp [M9,a1g],by rw [r5,r4,r3,r2,r1]; simp⟩
def WfK (f:Fl) (x:In) (A:IA) (b:WSt):Prop :=
 CallsK a0a 138 [.one (.ptr 0 0),.agg (inV x A),.one (.int .u8 (f.ch.toNat:Int))] (wkF (lsP x A) b) (WkR b (f.enc x) (f.rel x b.bs.length)) (λ_=>.tup []) (wkF [])
theorem Tz (x:In) (A:IA) (b:WSt) (hf:a2q .D x=true) (hb:b.bs.length<=500000000000) (hr:b.rs.length<=500000000):WfK .D x A b:=by
 exact a0j false a2v fun ρ w=>l6 [] 30 [inK .i64 (a0u .D x+1)] (by have h:=K4 hf; simp only [B9,inK]; omega)<|V.c [] (W7 (a0u .D x+1) b (by have h:=K4 hf; exact ⟨by omega,by omega⟩) (by omega)) λb1 e1=>V.q<|V.e b1 [] e1
theorem TA (x:In) (A:IA) (b:WSt) (hf:a2q .A x=true) (hb:b.bs.length<=500000000000) (hr:b.rs.length<=500000000):WfK .A x A b:=by
 exact a0j false a2v fun ρ w=>l6 [] 30 [inK .i64 (a0u .A x+1)] (by have h:=K4 hf; simp only [B9,inK]; omega)<|V.c [] (W7 (a0u .A x+1) b (by have h:=K4 hf; exact ⟨by omega,by omega⟩) (by omega)) λb1 e1=>V.q<|V.e b1 [] e1
theorem TB (x:In) (A:IA) (b:WSt) (hf:a2q .B x=true) (hb:b.bs.length<=500000000000) (hr:b.rs.length<=500000000):WfK .B x A b:=by
 exact a0j false a2v fun ρ w=>l6 [] 30 [inK .i64 (a0u .B x+1)] (by have h:=K4 hf; simp only [B9,inK]; omega)<|V.c [] (W7 (a0u .B x+1) b (by have h:=K4 hf; exact ⟨by omega,by omega⟩) (by omega)) λb1 e1=>V.q<|V.e b1 [] e1
theorem TC (x:In) (A:IA) (b:WSt) (hf:a2q .N x=true) (hb:b.bs.length<=500000000000) (hr:b.rs.length<=500000000):WfK .N x A b:=by
 exact a0j false a2v fun ρ w=>l6 [] 30 [] trivial<|V.c [] (W7 (a0u .N x) b (q5 hf) (by omega)) λb1 e1=>V.q<|V.e b1 [] e1
theorem TD (x:In) (A:IA) (b:WSt) (hf:a2q .M x=true) (hb:b.bs.length<=500000000000) (hr:b.rs.length<=500000000):WfK .M x A b:=by
 exact a0j false a2v fun ρ w=>l6 [] 30 [] trivial<|V.c [] (W7 (a0u .M x) b (q5 hf) (by omega)) λb1 e1=>V.q<|V.e b1 [] e1
theorem TE (x:In) (A:IA) (b:WSt) (hf:a2q .P x=true) (hb:b.bs.length<=500000000000) (hr:b.rs.length<=500000000):WfK .P x A b:=by
 exact a0j false a2v fun ρ w=>l6 [] 30 [] trivial<|V.c [] (W7 (a0u .P x) b (q5 hf) (by omega)) λb1 e1=>V.q<|V.e b1 [] e1
theorem TF (x:In) (A:IA) (b:WSt) (hf:a2q .T x=true) (hb:b.bs.length<=500000000000) (hr:b.rs.length<=500000000):WfK .T x A b:=by
 exact a0j false a2v fun ρ w=>l6 [] 30 [] trivial<|V.c [] (Jb (a3l .T x) b (N1 hf).1 (N1 hf).2.1 (N1 hf).2.2.1 (by have:=ed hf; omega) (by omega)) λb1 e1=>V.q<|V.e b1 [] e1
theorem TG (x:In) (A:IA) (b:WSt) (hf:a2q .U x=true) (hb:b.bs.length<=500000000000) (hr:b.rs.length<=500000000):WfK .U x A b:=by
 exact a0j false a2v fun ρ w=>l6 [] 30 [] trivial<|V.c [] (Jb (a3l .U x) b (N1 hf).1 (N1 hf).2.1 (N1 hf).2.2.1 (by have:=ed hf; omega) (by omega)) λb1 e1=>V.q<|V.e b1 [] e1
theorem TH (x:In) (A:IA) (b:WSt) (hf:a2q .W x=true) (hb:b.bs.length<=500000000000) (hr:b.rs.length<=500000000):WfK .W x A b:=by
 exact a0j false a2v fun ρ w=>l6 [] 30 [] trivial<|V.c [] (Jb (a3l .W x) b (N1 hf).1 (N1 hf).2.1 (N1 hf).2.2.1 (by have:=ed hf; omega) (by omega)) λb1 e1=>V.q<|V.e b1 [] e1
theorem PJ (x:In) (A:IA) (b:WSt) (hf:a2q .Sz x=true) (hb:b.bs.length<=500000000000) (hr:b.rs.length<=500000000):WfK .Sz x A b:=by
 exact a0j false a2v fun ρ w=>l6 [] 30 [] trivial<|V.c [] (yu (a5i .S x) b (by omega)) λb1 e1=>V.q<|V.e b1 [] e1
theorem PK (x:In) (A:IA) (b:WSt) (hf:a2q .Rg x=true) (hb:b.bs.length<=500000000000) (hr:b.rs.length<=500000000):WfK .Rg x A b:=by
 exact a0j false a2v fun ρ w=>l6 [] 30 [] trivial<|V.c [] (yu (a5i .R x) b (by omega)) λb1 e1=>V.q<|V.e b1 [] e1
theorem PM (x:In) (A:IA) (b:WSt) (hf:a2q .aN x=true) (hb:b.bs.length<=500000000000) (hr:b.rs.length<=500000000):WfK .aN x A b:=by
 exact a0j false a2v fun ρ w=>l6 [] 30 [] trivial<|V.c [] (ub (a0u .N x) b (by omega)) λb1 e1=>V.q<|V.e b1 [] e1
theorem PN (x:In) (A:IA) (b:WSt) (hf:a2q .aM x=true) (hb:b.bs.length<=500000000000) (hr:b.rs.length<=500000000):WfK .aM x A b:=by
 exact a0j false a2v fun ρ w=>l6 [] 30 [] trivial<|V.c [] (ub (a0u .M x) b (by omega)) λb1 e1=>V.q<|V.e b1 [] e1
theorem PO (x:In) (A:IA) (b:WSt) (hf:a2q .pN x=true) (hb:b.bs.length<=500000000000) (hr:b.rs.length<=500000000):WfK .pN x A b:=by
 refine a0j false a2v fun ρ w=>l6 [] 30 [] trivial<|V.c [] (FO 0 (a0u .N x) b (by omega) (by omega)) λb1 e1=>V.q ?_;have hn:¬ a0u .N x<0:=by
  have h':bD false (a0u .N x)=true:=hf;unfold bD at h';simp at h';omega
 refine dw b1 [] kq kq kq ?_;show WkR b (fp (a0u .N x)) (X5 (a0u .N x) b.bs.length) b1;unfold fp X5;rw [if_neg hn,if_neg hn];exact e1
theorem MV (x:In) (A:IA) (b:WSt) (hf:a2q .far x=true) (hb:b.bs.length<=500000000000) (hr:b.rs.length<=500000000):WfK .far x A b:=by
 exact a0j false a2v fun ρ w=>l6 [] 30 [] trivial<|V.c [] (FO x.n x.p b (by omega) (by omega)) λb1 e1=>V.q<|V.e b1 [] e1
theorem PP (x:In) (A:IA) (b:WSt) (hf:a2q .pM x=true) (hb:b.bs.length<=500000000000) (hr:b.rs.length<=500000000):WfK .pM x A b:=by
 refine a0j false a2v fun ρ w=>l6 [] 11 [] trivial<|V.q<|f9 79 (decide (a0u .M x<0)) (λhh=>?_) (λhh=>?_)
 ·have hn:a0u .M x<0:=by simpa using hh
  refine V.q<|V.c [] (ub (-1) b (by omega)) λb1 e1=>V.q<|dw b1 [] kq kq kq ?_;show WkR b (fp (a0u .M x)) (X5 (a0u .M x) b.bs.length) b1;unfold fp X5;rw [if_pos hn,if_pos hn];exact e1
 ·have hn:¬ a0u .M x<0:=by simpa using hh
  refine V.q<|V.c [] (FO 0 (a0u .M x) b (by omega) (by omega)) λb1 e1=>V.q<|dw b1 [] kq kq kq ?_;show WkR b (fp (a0u .M x)) (X5 (a0u .M x) b.bs.length) b1;unfold fp X5;rw [if_neg hn,if_neg hn];exact e1
theorem TJ (x:In) (A:IA) (b:WSt) (hf:a2q .V x=true) (hb:b.bs.length<=500000000000) (hr:b.rs.length<=500000000):WfK .V x A b:=by
 refine a0j false a2v fun ρ w=>l6 [] 30 [] trivial ?_;have hv:n9 x.vn=true:=O8 hf;have hs:(x.vs.length:Int)<=255:=of_decide_eq_true (O9 hf);have l1:=A5 x.vn;refine V.c [] (W7 x.vn b (q5 hv) (by omega)) (λb1 e1=>?_);obtain ⟨e1,r1⟩:=e1;refine V.q<|V.c [] (yr x.vs b1 (by omega) (by rw [e1,a0c]; omega)) (λb2 e2=>?_);obtain ⟨e2,r2⟩:=e2;exact V.q<|V.e b2 [] ⟨by rw [e2,e1,a1g]; rfl,by rw [r2,r1]; simp [Fl.rel]⟩
structure WLI where
 b:WSt
 i:Nat
theorem FP {α:Type} (e:α->List UInt8) (l:List α) (d:α) (i:Nat) (h:i<l.length):(l.take (i+1)).flatMap e=(l.take i).flatMap e++e (l.getD i d):=by
 rw [a2c,a0b h,a3y,a0r,a0b h];simp
theorem jZ {α:Type} {p:α->Bool} {l:List α} (h:l.all p=true) {i:Nat} (hi:i<l.length) (d:α):p (l.getD i d)=true:=by
 rw [a0r,a0b hi];exact a0y.1 h _ (a5b hi)
def wlL (x:In) (A:IA) (j:WLI):St :=
 { n:=217,slots:=[(0,ov (.ptr 0 0)),(4,ov (.ptr 1 0)),(6,ov (.int .i64 (j.i:Int)))],gs:=[],
    heap:=[(0,⟨[.row 0 j.b.q j.b.bs.length j.b.c,.row 1 j.b.q2 j.b.rs.length j.b.c2],129,true⟩),(1,⟨inV x A,30,true⟩)],next:=2,rows:=[(0,d5 bsv 0 j.b.bs j.b.q j.b.c 5 1 true),(1,d5 rlv (0,0) j.b.rs j.b.q2 j.b.c2 62 2 true)],nr:=2,pers:=lsP x A,wr:=false,fx:=1 }
theorem TL (x:In) (A:IA) (b:WSt) (hf:a2q .L x=true) (hb:b.bs.length<=500000000000) (hr:b.rs.length<=500000000):WfK .L x A b:=by
 have pY:=O8 hf;have n8:(x.l.length:Int)<=16:=of_decide_eq_true (O9 hf);have l0:=A5 (x.l.length:Int);refine a0j false a2v fun ρ w=>l6 [] 30 [] trivial<|V.c [] (W7 (x.l.length:Int) b ⟨by omega,by omega⟩ (by omega)) (λb1 e1=>?_);obtain ⟨e1,r1⟩:=e1;refine V.q<|j6 [0,4,6] [true,true,true] (λj:WLI=>x.l.length - j.i) (wlL x A)
  (λj=>j.i<=x.l.length/\j.b.bs=b1.bs++(x.l.take j.i).flatMap eI/\j.b.rs=b.rs/\j.b.bs.length<=b.bs.length+10+400*j.i) ⟨b1,0⟩ kq ⟨a0s _,by simp,by rw [r1,a1q],by rw [e1,a0c]; omega⟩ (λj hj ih=>?_)
 obtain ⟨b2,i⟩:=j;obtain ⟨hi,e2,r2,l2⟩:=hj;simp only at hi e2 r2 l2;refine a1l<|V.q<|f9 139 (decide ((i:Int)<(x.l.length:Int))) (λhc=>?_) (λhc=>?_)
 ·have e9:i<x.l.length:=by simpa using hc
  have hx:=jZ pY e9 0;have C4:=FP eI x.l 0 i e9;have Rp:-1<=x.l.getD i 0/\x.l.getD i 0<4000:=K4 (O9 hx);refine V.q<|G4 144 1 (C1 x A)<|V.t [] [(0:Int)<=i/\(i:Int)<(x.l.length:Int),inK .i64 (x.l.getD (i:Int).toNat 0+1)] ⟨⟨by omega,by omega⟩,by rw [a1h]; simp only [B9,inK]; omega⟩<|V.s 148 (.one (.int .i64 (x.l.getD (i:Int).toNat 0+1))) (.one (.int .i64 (x.l.getD i 0+1))) (λ_=>by rw [a1h])<|V.c [] (W7 (x.l.getD i 0+1) b2 ⟨by omega,by omega⟩ (by omega)) (λb3 e3=>?_);obtain ⟨e3,r3⟩:=e3;rw [a1q] at r3;have e3:b3.bs=b2.bs++eI (x.l.getD i 0):=e3;have l3:b3.bs.length<=b.bs.length+10+400*(i+1):=by
   have:=A5 (x.l.getD i 0+1);rw [e3,a0c];unfold eI;omega
  refine V.t [] [inK .i64 ((i:Int)+1)] (by simp only [B9,inK]; omega)<|d9 [0,4,6] [true,true,true] (ih ⟨b3,i+1⟩ ⟨e9,by simp only; rw [e3,e2,C4,a1g],by simp only; rw [r3,r2],l3⟩ (by simp only; omega)) kq kq
 ·have bA:i=x.l.length:=by simp at hc; omega
  rw [bA,a1o] at e2;exact V.q<|V.e b2 [] ⟨by rw [e2,e1,a1g]; rfl,by rw [r2]; exact (a1q _).symm⟩
def wlY (x:In) (A:IA) (j:WLI):St :=
 { n:=217,slots:=[(0,ov (.ptr 0 0)),(4,ov (.ptr 1 0)),(7,ov (.int .i64 (j.i:Int)))],gs:=[],
    heap:=[(0,⟨[.row 0 j.b.q j.b.bs.length j.b.c,.row 1 j.b.q2 j.b.rs.length j.b.c2],129,true⟩),(1,⟨inV x A,30,true⟩)],next:=2,rows:=[(0,d5 bsv 0 j.b.bs j.b.q j.b.c 5 1 true),(1,d5 rlv (0,0) j.b.rs j.b.q2 j.b.c2 62 2 true)],nr:=2,pers:=lsP x A,wr:=false,fx:=1 }
theorem TM (x:In) (A:IA) (b:WSt) (hf:a2q .Y x=true) (hb:b.bs.length<=500000000000) (hr:b.rs.length<=500000000):WfK .Y x A b:=by
 have pY:=O8 hf;have n8:(x.y.length:Int)<=16:=of_decide_eq_true (O9 hf);have l0:=A5 (x.y.length:Int);refine a0j false a2v fun ρ w=>l6 [] 30 [] trivial<|V.c [] (W7 (x.y.length:Int) b ⟨by omega,by omega⟩ (by omega)) (λb1 e1=>?_);obtain ⟨e1,r1⟩:=e1;refine V.q<|j6 [0,4,7] [true,true,true] (λj:WLI=>x.y.length - j.i) (wlY x A)
  (λj=>j.i<=x.y.length/\j.b.bs=b1.bs++(x.y.take j.i).flatMap M9/\j.b.rs=b.rs/\j.b.bs.length<=b.bs.length+10+400*j.i) ⟨b1,0⟩ kq ⟨a0s _,by simp,by rw [r1,a1q],by rw [e1,a0c]; omega⟩ (λj hj ih=>?_)
 obtain ⟨b2,i⟩:=j;obtain ⟨hi,e2,r2,l2⟩:=hj;simp only at hi e2 r2 l2;refine a1l<|V.q<|f9 161 (decide ((i:Int)<(x.y.length:Int))) (λhc=>?_) (λhc=>?_)
 ·have e9:i<x.y.length:=by simpa using hc
  have hx:=jZ pY e9 ty0;have C4:=FP M9 x.y ty0 i e9;obtain ⟨t1,t2,t3,t4⟩:=N1 hx;have t5:=ed hx;refine V.q<|G4 166 2 (E7 x A)<|V.t [] [(0:Int)<=i/\(i:Int)<(x.y.length:Int)] ⟨by omega,by omega⟩<|V.s 169 (.agg (x.y.getD (i:Int).toNat ty0).cells) (.agg (x.y.getD i ty0).cells) (λ_=>by rw [a1h])<|V.c [] (Jb (x.y.getD i ty0) b2 t1 t2 t3 (by omega) (by omega)) (λb3 e3=>?_);obtain ⟨e3,r3⟩:=e3;rw [a1q] at r3;have l3:b3.bs.length<=b.bs.length+10+400*(i+1):=by
   have n1:=A5 (x.y.getD i ty0).k;have n2:=A5 (x.y.getD i ty0).p;have n3:=A5 (x.y.getD i ty0).q;have n4:=A5 ((x.y.getD i ty0).s.length:Int);rw [e3,a0c];simp only [M9,fl,a0c,a0p,a1r];omega
  refine V.t [] [inK .i64 ((i:Int)+1)] (by simp only [B9,inK]; omega)<|d9 [0,4,7] [true,true,true] (ih ⟨b3,i+1⟩ ⟨e9,by simp only; rw [e3,e2,C4,a1g],by simp only; rw [r3,r2],l3⟩ (by simp only; omega)) kq kq
 ·have bA:i=x.y.length:=by simp at hc; omega
  rw [bA,a1o] at e2;exact V.q<|V.e b2 [] ⟨by rw [e2,e1,a1g]; rfl,by rw [r2]; exact (a1q _).symm⟩
def wlF (x:In) (A:IA) (j:WLI):St :=
 { n:=217,slots:=[(0,ov (.ptr 0 0)),(4,ov (.ptr 1 0)),(8,ov (.int .i64 (j.i:Int)))],gs:=[],
    heap:=[(0,⟨[.row 0 j.b.q j.b.bs.length j.b.c,.row 1 j.b.q2 j.b.rs.length j.b.c2],129,true⟩),(1,⟨inV x A,30,true⟩)],next:=2,rows:=[(0,d5 bsv 0 j.b.bs j.b.q j.b.c 5 1 true),(1,d5 rlv (0,0) j.b.rs j.b.q2 j.b.c2 62 2 true)],nr:=2,pers:=lsP x A,wr:=false,fx:=1 }
theorem TN (x:In) (A:IA) (b:WSt) (hf:a2q .F x=true) (hb:b.bs.length<=500000000000) (hr:b.rs.length<=500000000):WfK .F x A b:=by
 have pY:=O8 hf;have n8:(x.f.length:Int)<=16:=of_decide_eq_true (O9 hf);have l0:=A5 (x.f.length:Int);refine a0j false a2v fun ρ w=>l6 [] 30 [] trivial<|V.c [] (W7 (x.f.length:Int) b ⟨by omega,by omega⟩ (by omega)) (λb1 e1=>?_);obtain ⟨e1,r1⟩:=e1;refine V.q<|j6 [0,4,8] [true,true,true] (λj:WLI=>x.f.length - j.i) (wlF x A)
  (λj=>j.i<=x.f.length/\j.b.bs=b1.bs++(x.f.take j.i).flatMap W4/\j.b.rs=b.rs/\j.b.bs.length<=b.bs.length+10+400*j.i) ⟨b1,0⟩ kq ⟨a0s _,by simp,by rw [r1,a1q],by rw [e1,a0c]; omega⟩ (λj hj ih=>?_)
 obtain ⟨b2,i⟩:=j;obtain ⟨hi,e2,r2,l2⟩:=hj;simp only at hi e2 r2 l2;refine a1l<|V.q<|f9 182 (decide ((i:Int)<(x.f.length:Int))) (λhc=>?_) (λhc=>?_)
 ·have e9:i<x.f.length:=by simpa using hc
  have hx:=jZ pY e9 fm0;have C4:=FP W4 x.f fm0 i e9;obtain ⟨⟨⟨t1,t2⟩,t3⟩,t4⟩:((n9 (x.f.getD i fm0).k=true/\n9 (x.f.getD i fm0).w=true)/\n9 (x.f.getD i fm0).d=true)/\((x.f.getD i fm0).s.length:Int)<=255:=by
   unfold Q9 at hx;simpa only [a0g,decide_eq_true_eq] using hx
  have n1:=A5 (x.f.getD i fm0).k;have n2:=A5 (x.f.getD i fm0).w;have n3:=A5 (x.f.getD i fm0).d;have n4:=A5 ((x.f.getD i fm0).s.length:Int);refine V.q<|G4 187 0 (C7 x A)<|V.t [] [(0:Int)<=i/\(i:Int)<(x.f.length:Int)] ⟨by omega,by omega⟩<|V.s 191 (.one (.int .i64 (x.f.getD (i:Int).toNat fm0).k)) (.one (.int .i64 (x.f.getD i fm0).k)) (λ_=>by rw [a1h])<|V.c [] (W7 (x.f.getD i fm0).k b2 (q5 t1) (by omega)) (λc0 g0=>?_);obtain ⟨g0,h0⟩:=g0;rw [a1q] at h0;refine V.q<|G4 195 0 (C7 x A)<|V.t [] [(0:Int)<=i/\(i:Int)<(x.f.length:Int)] ⟨by omega,by omega⟩<|V.s 199 (.one (.int .i64 (x.f.getD (i:Int).toNat fm0).w)) (.one (.int .i64 (x.f.getD i fm0).w)) (λ_=>by rw [a1h])<|V.c [] (W7 (x.f.getD i fm0).w c0 (q5 t2) (by rw [g0]; simp only [a0c]; omega)) (λc1 g1=>?_);obtain ⟨g1,h1⟩:=g1;rw [a1q] at h1;refine V.q<|G4 203 0 (C7 x A)<|V.t [] [(0:Int)<=i/\(i:Int)<(x.f.length:Int)] ⟨by omega,by omega⟩<|V.s 207 (.one (.int .i64 (x.f.getD (i:Int).toNat fm0).d)) (.one (.int .i64 (x.f.getD i fm0).d)) (λ_=>by rw [a1h])<|V.c [] (W7 (x.f.getD i fm0).d c1 (q5 t3) (by rw [g1,g0]; simp only [a0c]; omega)) (λc2 g2=>?_);obtain ⟨g2,h2⟩:=g2;rw [a1q] at h2;refine V.q<|G4 211 0 (C7 x A)<|V.t [] [(0:Int)<=i/\(i:Int)<(x.f.length:Int)] ⟨by omega,by omega⟩<|V.s 215 (.one (.str (x.f.getD (i:Int).toNat fm0).s)) (.one (.str (x.f.getD i fm0).s)) (λ_=>by rw [a1h])<|V.c [] (yr (x.f.getD i fm0).s c2 (by omega) (by rw [g2,g1,g0]; simp only [a0c]; omega)) (λb3 g3=>?_);obtain ⟨g3,h3⟩:=g3;rw [a1q] at h3;have e3:b3.bs=b2.bs++W4 (x.f.getD i fm0):=by rw [g3,g2,g1,g0]; simp [W4,a1g]
  have r3:b3.rs=b2.rs:=by rw [h3,h2,h1,h0]
  have l3:b3.bs.length<=b.bs.length+10+400*(i+1):=by
   rw [e3,a0c];simp only [W4,fl,a0c];omega
  refine V.t [] [inK .i64 ((i:Int)+1)] (by simp only [B9,inK]; omega)<|d9 [0,4,8] [true,true,true] (ih ⟨b3,i+1⟩ ⟨e9,by simp only; rw [e3,e2,C4,a1g],by simp only; rw [r3,r2],l3⟩ (by simp only; omega)) kq kq
 ·have bA:i=x.f.length:=by simp at hc; omega
  rw [bA,a1o] at e2;exact V.q<|V.e b2 [] ⟨by rw [e2,e1,a1g]; rfl,by rw [r2]; exact (a1q _).symm⟩
theorem PQ (f:Fl) (x:In) (A:IA) (b:WSt) (hf:f.fineB x=true) (hb:b.bs.length<=500000000000) (hr:b.rs.length<=500000000):WfK f x A b:=by
 cases f
 case D=>exact Tz x A b hf hb hr
 case A=>exact TA x A b hf hb hr
 case B=>exact TB x A b hf hb hr
 case N=>exact TC x A b hf hb hr
 case M=>exact TD x A b hf hb hr
 case P=>exact TE x A b hf hb hr
 case T=>exact TF x A b hf hb hr
 case U=>exact TG x A b hf hb hr
 case W=>exact TH x A b hf hb hr
 case V=>exact TJ x A b hf hb hr
 case L=>exact TL x A b hf hb hr
 case Y=>exact TM x A b hf hb hr
 case F=>exact TN x A b hf hb hr
 case Sz=>exact PJ x A b hf hb hr
 case Rg=>exact PK x A b hf hb hr
 case aN=>exact PM x A b hf hb hr
 case aM=>exact PN x A b hf hb hr
 case pN=>exact PO x A b hf hb hr
 case pM=>exact PP x A b hf hb hr
 case far=>exact MV x A b hf hb hr
structure WII where
 b:WSt
 i:Nat
def TO (x:In) (A:IA) (ls:List UInt8) (j:WII):St :=
 { n:=37,slots:=[(0,ov (.ptr 0 0)),(3,ov (.ptr 1 0)),(5,ov (.str ls)),(6,ov (.int .i64 (j.i:Int)))],gs:=[],
    heap:=[(0,⟨[.row 0 j.b.q j.b.bs.length j.b.c,.row 1 j.b.q2 j.b.rs.length j.b.c2],129,true⟩),(1,⟨inV x A,30,true⟩)],next:=2,rows:=[(0,d5 bsv 0 j.b.bs j.b.q j.b.c 5 1 true),(1,d5 rlv (0,0) j.b.rs j.b.q2 j.b.c2 62 2 true)],nr:=2,pers:=lsP x A,wr:=true,fx:=1 }
theorem Kv (x:In) (A:IA) (b:WSt) (hx:j2 x=true) (hb:b.bs.length<=400000000000) (hr:b.rs.length<=400000000) :
  CallsK a0a 72 [.one (.ptr 0 0),.agg (inV x A)] (wkF (lsP x A) b) (λb':WSt=>(b'.bs,b'.rs)=putL x (c6 x.op.toNat) (b.bs++[a1c x.op.toNat],b.rs)) (λ_=>.tup []) (wkF []):=by
 obtain ⟨f7,M7⟩:=V8 hx;have F5:n7 x.op=some (c6 x.op.toNat):=by unfold n7; rw [if_pos f7]
 rw [F5] at M7;have lK:(c6 x.op.toNat).length<=7:=by
  have:=Y0 x.op;rw [F5] at this;exact this
 have aD:=jY x.op.toNat (by omega);rw [Int.toNat_of_nonneg (by omega),F5] at aD;simp only [a1e] at aD M7;generalize Cc:c6 x.op.toNat=fls at aD M7 lK;refine a0j true Tryz.func72 fun ρ w=>V.q<|V.c [] (Z7 x.op) λ_ _=>V.q<|V.s 5 (.one (.str (rfN x.op).2)) (.one (.str (fls.map a3z))) (λ_=>by rw [aD])<|p9 [] [0] 12 kq<|@a1z _ [] [0] 12 _ _ ([]:List (Ent a0a)) [] kq kq trivial<|@a6s _ [] [0] 12 _ _ _ bsv 0 b.bs (a1c x.op.toNat) 0 b.q b.c 5 1 [.int .u8 (a1x.wrap x.op)] 1 kq kq kq (by omega) (by
  have:=DX (o:=x.op.toNat) (by omega);rw [Int.toNat_of_nonneg (by omega)] at this;rw [this]; rfl) (λ_ _=>kq) (λq' cap'=>?_)
 refine @a1z _ [] [0] 12 _ _ ([]:List (Ent a0a)) [] kq kq trivial<|@o7 _ [] [0] 12 _ _ kq<|V.q<|j6 [0,3,5,6] [true,true,true] (λj:WII=>fls.length - j.i) (TO x A (fls.map a3z))
  (λj=>j.i<=fls.length/\(j.b.bs,j.b.rs)=putL x (fls.take j.i) (b.bs++[a1c x.op.toNat],b.rs)) ⟨⟨b.bs++[a1c x.op.toNat],q',cap',b.rs,b.q2,b.c2⟩,0⟩ kq ⟨a0s _,rfl⟩ (λj hj ih=>?_)
 obtain ⟨b2,i⟩:=j;obtain ⟨hi,o9⟩:=hj;simp only at hi o9;have M3:=jG x (fls.take i) (b.bs++[a1c x.op.toNat],b.rs) (a0y.2 λf hf=>a0y.1 M7 f (a5l hf));rw [<- o9] at M3;simp only [a0c,a0p,a1r,a2b] at M3;refine a1l<|V.q<|f9 28 (decide ((i:Int)<((fls.map a3z).length:Int))) (λhc=>?_) (λhc=>?_)
 ·have e9:i<fls.length:=by simpa using hc
  obtain ⟨f,hf⟩:∃ f,fls.getD i .D=f:=⟨_,rfl⟩;have N5:(fls.map a3z).getD (i:Int).toNat 0=f.ch:=by
   rw [a1h,<- hf,a0r,a2t,a0b e9,a0r,a0b e9];rfl
  have aC:fls.take (i+1)=fls.take i++[f]:=by
   rw [a2c,a0b e9];rw [a0r,a0b e9] at hf;simp only [a1e] at hf;rw [hf]; rfl
  have lN:f.fineB x=true:=by rw [<- hf]; exact jZ (p:=λf=>f.fineB x) M7 e9 .D
  have hW:=PQ f x A b2 lN (by omega) (by omega);unfold WfK at hW;rw [<- N5] at hW;refine V.q<|p9 [0] [0,1] 6 kq<|@a1z _ [0] [0,1] 6 _ _ ([]:List (Ent a0a)) [(0:Int)<=i/\(i:Int)<((fls.map a3z).length:Int)] kq kq ⟨by omega,by rw [a1k]; omega⟩<|@cQ _ [0] [0,1] 6 _ _ _ _ _ _ _ _ _ [(0,false),(1,false),(2,false)] hW kq kq kq (λ_=>kq) λb3 h3=>@o7 _ [0] [0,1] 6 _ _ kq<|V.q<|a3v 6 i (by omega)<|d9 [0,3,5,6] [true,true,true] (ih ⟨b3,i+1⟩ ⟨e9,?_⟩ (by simp only; omega)) kq kq;simp only;rw [aC,lh,<- o9,h3.1,h3.2]
 ·have bA:i=fls.length:=by simp at hc; omega
  rw [bA,a1o] at o9;exact V.q<|V.e b2 [] o9
theorem FQ {x:In} (hx:j2 x=true):J6 x=putL x (c6 x.op.toNat) ([a1c x.op.toNat],[]):=by
 obtain ⟨f7,_⟩:=V8 hx;unfold J6 n7;rw [if_pos f7];rfl
theorem jv {α:Type} (g h:α->List UInt8):∀ (l:List α),(∀ f∈l,(g f).length=(h f).length)->(l.flatMap g).length=(l.flatMap h).length
 | [],_=>rfl
 | f::l,k=>by
  rw [a2z,a2z,a0c,a0c,k f (a0f ..),jv g h l (λf hf=>k f (a0e _ hf))]
theorem nk {α:Type} (f:α->List SV) (d:α) (l:List α) (g:Nat) (e:TypeId) (sz:Nat) (hf:∀ x,(f x).length=sz) (M3:∀ x,∀ y∈f x,y.plain) (hm:l.length<=maxLen) :
  (∀ k,(e8 (d5 f d l (some ⟨g,0,none⟩) l.length e sz false)).D k->∃ q∈[r9 g (l.flatMap f) e],q.D k)/\(∀ w,(∀ q∈[r9 g (l.flatMap f) e],q.φ w)->(e8 (d5 f d l (some ⟨g,0,none⟩) l.length e sz false)).φ w) :=
 ⟨λk hk=>⟨_,a0d.2 rfl,by
  obtain ⟨a,h1,h2,_⟩:=hk;have mE:(some ⟨g,0,none⟩:Option Addr)=some a:=h1;cases mE;exact h2.symm⟩,λw hw=>mc hf M3 hm w (hw _ (a0d.2 rfl))⟩
def Kw:List Item->List Item
 | .inLoop _::k=>k
 | _::k=>Kw k
 | []=>[]
def TQ:List Item:=ak 100 (Kw (ak 100 [.code (I5 Tryz.f14)]))
def PR (n0:Nat) (S:Nat->Prop) (g:Nat):St :=
 { n:=242,slots:=[(11,ov (.ptr 0 0)),(101,ov (.int .i64 4)),(102,ov (.int .i64 4))],gs:=[],heap:=[(0,⟨inV sx4 (sA4 g),30,true⟩)],next:=1,rows:=[],nr:=0,
    pers:=[P7 n0 S (e8 (C1 sx4 (sA4 g))),P7 n0 S (e8 (E7 C2 IA0)),P7 n0 S (e8 (C1 C2 IA0)),P7 n0 S (e8 (C7 C2 IA0)),j7],wr:=true,fx:=0 }
theorem rS (x:Int×Int):∀ y∈rlv x,y.plain:=λy hy=>by
 simp only [rlv,a0k,a1a,or_false] at hy;rcases hy with rfl|rfl<;>trivial
theorem MW:(f0 3).okL:=⟨by decide,by decide,by decide⟩
theorem MX:(f0 0).okL:=⟨by decide,by decide,by decide⟩
def Ap:Con a0a:=r6 Tryz.func49 true [] [] kq kq
def FR (op:Int):List SV:=(inV (f0 op) IA0).map λy=>match y with
 | .sb b=>.bool b
 | y=>y
theorem BW (ρ0:Nat->Nat) (w0:World) (g:Nat):V ⟨a0a,14,N9 ρ0 H0 (λ_:Unit=>True) (λ_=>ov (.sb true)) (λ_=>noF) w0,n6 ρ0 H0,w0,ρ0,none⟩ ⟨TQ,PR w0.heap.size (n6 ρ0 H0) g⟩:=by
 exact V.q<|m0 103 (decide ((4:Int)<4)) false (by decide)<|V.q<|V.c [(4,false),(3,true),(0,true),(1,true)] (jJ sx4 (sA4 g) mY pq) λqc4 _=>V.q<|a3a 0 (d5 rlv (0,0) [(2,5)] qc4.1 qc4.2 62 2 true) kq kq<|V.c [] (mn [128,0] 0 (by decide)) λ_ _=>V.q<|V.c [(5,false)] (EB [83,84,69,80,32,48,49,48] [[83,84,69,80],[48,49,48]] kq (by decide) kq (by decide) (iL (o0:=1) kq kq) kq) λ_ _=>V.q<|V.c [(5,false)] So λqc5 _=>V.q<|V.c [(6,false),(0,true)] (Ia [] ⟨asB,qc5.1,0,qc5.2⟩ rfl (by decide) (by show 7<=100000000; decide) 0 4 ([eK,lr],[0,2,7]) (asV _ _)) λqc6 _=>V.q<|K8 205 true ((0:Int)==0) kq (by decide)<|V.q<|V.absB 3 ⟨[.int .i64 2,.int .i64 5],62,true⟩ kq kq (λ_=>kq) λg1=>B3 [(0,true)] [r9 g1 [.int .i64 2,.int .i64 5] 62] (e8 (d5 rlv (0,0) [(2,5)] (some ⟨g1,0,none⟩) 1 62 2 false)) kq kq (nk rlv (0,0) [(2,5)] g1 62 2 (λ_=>rfl) rS (by decide)).1 (nk rlv (0,0) [(2,5)] g1 62 2 (λ_=>rfl) rS (by decide)).2 (l7 _)<|V.c [(4,true),(0,true)] (LG [(2,5)] [(2,5)] qc4.1 (some ⟨g1,0,none⟩) qc4.2 1 (by decide)) λ_ _=>V.q<|K8 227 true true kq rfl<|V.q<|V.absB 3 ⟨[.int .i64 0,.int .i64 2,.int .i64 7],3,true⟩ kq kq (λ_=>kq) λg2=>B3 [(0,true)] [r9 g2 [.int .i64 0,.int .i64 2,.int .i64 7] 3] (e8 (d5 C6 0 [0,2,7] (some ⟨g2,0,none⟩) 3 3 1 false)) kq kq (nk C6 0 [0,2,7] g2 3 1 (λ_=>rfl) iK (by decide)).1 (nk C6 0 [0,2,7] g2 3 1 (λ_=>rfl) iK (by decide)).2 (l7 _)<|V.c [(4,true),(0,true)] (Oz [0,2,7] [0,2,7] qc6.1 (some ⟨g2,0,none⟩) qc6.2 3 (by decide)) λ_ _=>V.q<|K8 232 true true kq rfl<|V.t [⟨Ap,[]⟩] [] trivial<|V.s 233 (.agg (FR 3)) (.agg (inV (f0 3) IA0)) (λ_=>rfl)<|V.c [(11,false),(10,true),(9,true),(8,true)] (EA (f0 3) IA0 MW) λ_ _=>V.q<|K8 237 true true kq rfl<|V.t [⟨Ap,[]⟩] [] trivial<|V.s 238 (.agg (FR 0)) (.agg (inV (f0 0) IA0)) (λ_=>rfl)<|V.c [(11,false),(10,true),(9,true),(8,true)] (EA (f0 0) IA0 MX) λ_ _=>V.q<|V.z
def snT:List (Int×List UInt8):=[(0,[0]),(-1,[1]),(1,[2]),(63,[126]),(64,[128,1]),(-64,[127]),(-65,[129,1])]
def snL:Nat->List (Int×List UInt8)->List MapEntry
 | _,[]=>[]
 | i,p::l=>{ key:=.int .i64 p.1,val:=.string ⟨p.2.toArray⟩,born:=i }::snL (i+1) l
def wq:Array MapEntry:=(snL 0 snT).toArray
theorem uc:∀ {l:List (Int×List UInt8)} {i:Nat} {e:MapEntry},e∈snL i l->∃ p∈l,e.key=.int .i64 p.1/\e.val=.string ⟨p.2.toArray⟩/\e.born<i+l.length
 | [],i,e,h=>by simp [snL] at h
 | p::l,i,e,h=>by
  simp only [snL,a0k] at h;rcases h with rfl | h
  ·exact ⟨p,a0f ..,rfl,rfl,by simp⟩
  ·obtain ⟨p',h1,h2,h3,h4⟩:=uc h;exact ⟨p',a0e _ h1,h2,h3,by simp only [a0p]; omega⟩
theorem nn (p:Int×List UInt8) (h:p∈snT):n9 p.1=true/\N3 p.1=p.2/\rnV p.2 0=.tup [.one (.int .i64 p.1),.one (.int .i64 (p.2.length:Int)),.one (.int .i64 0)]/\p.2.length<=1000000000:=by
 unfold snT at h;simp only [a0k,a1a,or_false] at h;rcases h with rfl|rfl|rfl|rfl|rfl|rfl|rfl<;>exact ⟨by decide,by decide,kq,by decide⟩
theorem snN (p:Int×List UInt8) (h:p∈snT):CallsK a0a 16 [.one (.int .i64 p.1)] noF (λ_:Unit=>True) (λ_=>.tup [.one (.str p.2),.one (.int .i64 0)]) (λ_=>noF):=by
 have h1:=HZ p.1;rw [(nn p h).1,(nn p h).2.1] at h1;exact h1
theorem snR (p:Int×List UInt8) (h:p∈snT):CallsK a0a 18 [.one (.str p.2),.one (.int .i64 0)] noF (λ_:Unit=>True) (λ_=>.tup [.one (.int .i64 p.1),.one (.int .i64 (p.2.length:Int)),.one (.int .i64 0)]) (λ_=>noF):=by
 have h1:=mn p.2 0 (nn p h).2.2.2;rw [(nn p h).2.2.1] at h1;exact h1
def TT (n0:Nat) (S:Nat->Prop) (gL it:Nat) (seen:Array Nat):St :=
 { n:=242,slots:=[(39,ov (.val (.pointer (some ⟨it,0,none⟩))))],gs:=[],heap:=[],next:=0,
    rows:=[(0,G3 it (.mapIter (some gL) 7 seen 7))],nr:=1,pers:=[P7 n0 S (jr gL (.map wq 7)),j7],wr:=true,fx:=0 }
theorem Jc:∀ x∈wq.toList,x.born<7:=λe he=>by
 obtain ⟨p,_,_,_,h⟩:=uc (l:=snT) (i:=0) he;simpa [snT] using h
theorem FS:(wq.toList.map (·.born)).Nodup:=by
 show [0,1,2,3,4,5,6].Nodup;decide
def MY:Con a0a:=r6 Tryz.func49 true [] [] kq kq
theorem Kx (g:Nat):(∀ k,(e8 (C1 sx4 (sA4 g))).D k->∃ q∈[r9 g [.int .i64 2] 3],q.D k)/\(∀ w,(∀ q∈[r9 g [.int .i64 2] 3],q.φ w)->(e8 (C1 sx4 (sA4 g))).φ w) :=
 ⟨λk hk=>⟨_,a0d.2 rfl,by
  obtain ⟨a,h1,h2,_⟩:=hk;have mE:(some ⟨g,0,none⟩:Option Addr)=some a:=h1;cases mE;exact h2.symm⟩,λw hw=>mc (f:=C6) (d:=0) (l:=[2]) (e:=3) (sz:=1) (λ_=>rfl) (λx y hy=>by rw [a0d.1 hy]; trivial) (by decide) w (hw _ (a0d.2 rfl))⟩
theorem PS:CallsK a0a 14 [] H0 (λ_:Unit=>True) (λ_=>ov (.sb true)) (λ_=>noF):=by
 refine a0j true Tryz.func14 fun ρ0 w0=>V.q<|mK 86 kq (λ_=>kq) λgL=>V.runM [] 0 7 [] (List.replicate 7 (gL,gL)) kq kq trivial (λp hp=>by rw [List.eq_of_mem_replicate hp])<|V.q<|bR 0 gL (.map wq 7) kq<|V.range 86 3 9 gL wq 7 kq kq (fun ρ a w hS=>hS.objN (n0:=w0.heap.size) (S:=n6 ρ0 H0) 0 kq) (λ_=>kq) λit=>V.q<|a1l<|C0 [39] [] [1] [true,true] (λseen:Array Nat=>(leftOf wq seen).size) (TT w0.heap.size (n6 ρ0 H0) gL it) (λ_=>True) #[] kq trivial λseen _ ih=>V.q<|V.next it 0 gL 7 7 7 seen wq kq kq (fun ρ a w hS=>hS.objN (n0:=w0.heap.size) (S:=n6 ρ0 H0) 0 kq) Jc (a0q _) kq (λe he=>kq) (λC8=>?_) (λe he=>?_)
 ·refine V.t [⟨MY,[]⟩] [] trivial<|a6f 5<|a6f 3<|V.absB 4 ⟨[.int .i64 2],3,true⟩ kq kq (λ_=>kq) λg=>vpn (C7 C2 IA0)<|vpn (C1 C2 IA0)<|vpn (E7 C2 IA0)<|B3 [(3,true)] [r9 g [.int .i64 2] 3] (e8 (C1 sx4 (sA4 g))) kq kq (Kx g).1 (Kx g).2 (l7 _)<|a1l<|V.q<|m0 103 (decide ((0:Int)<4)) true (by decide)<|V.t [] [(0:Int)<=0/\(0:Int)<4] ⟨by decide,by decide⟩<|V.c [(6,false),(3,true),(2,true),(1,true)] (jJ sx1 IA0 tz vP) λqc0 _=>V.q<|a3a 1 (d5 rlv (0,0) [] qc0.1 qc0.2 62 2 true) kq kq<|V.c [(7,false),(0,true)] (mX [] ⟨[3,8,2],qc0.1,0,qc0.2⟩ rfl (by decide) 0 ⟨by show 3<=1000000000; decide,a0s _⟩ kq) (λyd0 pZ=>?_);obtain ⟨d0,D0⟩:=yd0;have ed0:d0=sx1:=pZ.trans (Ib qc0.1 qc0.2);subst ed0;refine V.q<|V.c [(10,false),(7,true),(6,true),(5,true)] (zT sx1 IA0 tz 3 kq kq kq vP) λ_ _=>V.q<|V.c [(10,false)] (tw [77,79,86,69,32,114,51,32,114,48] [[77,79,86,69],[114,51],[114,48]] sx1 kq (by decide) kq (by decide) (iL ED Ic) EC) (λyp0 yA=>?_);obtain ⟨p0,P0⟩:=yp0;have ep0:p0=sx1:=yA;subst ep0;refine G2 10 true (C7 sx1 IA0)<|G2 10 true (C1 sx1 IA0)<|G2 10 true (E7 sx1 IA0)<|G2 6 true (C7 sx1 D0)<|G2 8 true (C1 sx1 D0)<|G2 10 true (E7 sx1 D0)<|G2 6 true (C7 sx1 P0)<|G2 8 true (C1 sx1 P0)<|G2 10 true (E7 sx1 P0)<|V.t [⟨tC sx1 IA0 P0 D0 tz,[17,18,19,20,21,22,14,15,16]⟩] [((false=false)->(([.agg (inV sx1 D0),.agg (inV sx1 IA0)]:List CV)=[.agg (inV sx1 D0),.agg (inV sx1 IA0)]∨([.agg (inV sx1 D0),.agg (inV sx1 IA0)]:List CV)=[.agg (inV sx1 P0),.agg (inV sx1 IA0)])),((false=false)->(([.agg (inV sx1 P0),.agg (inV sx1 IA0)]:List CV)=[.agg (inV sx1 D0),.agg (inV sx1 IA0)]∨([.agg (inV sx1 P0),.agg (inV sx1 IA0)]:List CV)=[.agg (inV sx1 P0),.agg (inV sx1 IA0)]))] ⟨λ_=>.inl rfl,λ_=>.inr rfl⟩<|m0 176 false false rfl<|V.q<|a1l<|jK<|V.q<|m0 103 (decide ((1:Int)<4)) true (by decide)<|V.t [] [(0:Int)<=1/\(1:Int)<4] ⟨by decide,by decide⟩<|V.c [(22,false),(19,true),(18,true),(17,true)] (jJ sx2 IA0 tA vQ) λqc1 _=>V.q<|a3a 2 (d5 rlv (0,0) [] qc1.1 qc1.2 62 2 true) kq kq<|V.c [(23,false),(0,true)] (mX [] ⟨[14,0,0,1,2],qc1.1,0,qc1.2⟩ rfl (by decide) 0 ⟨by show 5<=1000000000; decide,a0s _⟩ kq) (λyd1 iS=>?_);obtain ⟨d1,D1⟩:=yd1;have ed1:d1=sx2:=iS.trans (Id qc1.1 qc1.2);subst ed1;refine V.q<|V.c [(26,false),(23,true),(22,true),(21,true)] (zT sx2 IA0 tA 14 kq kq kq vQ) λ_ _=>V.q<|V.c [(26,false)] (tw [74,85,77,80,32,64,50,53,56] [[74,85,77,80],[64,50,53,56]] sx2 kq (by decide) kq (by decide) (iL EF Ie) EE) (λyp1 um=>?_);obtain ⟨p1,P1⟩:=yp1;have ep1:p1=sx2:=um;subst ep1;refine G2 26 true (C7 sx2 IA0)<|G2 26 true (C1 sx2 IA0)<|G2 26 true (E7 sx2 IA0)<|G2 6 true (C7 sx2 D1)<|G2 8 true (C1 sx2 D1)<|G2 10 true (E7 sx2 D1)<|G2 6 true (C7 sx2 P1)<|G2 8 true (C1 sx2 P1)<|G2 10 true (E7 sx2 P1)<|V.t [⟨tC sx2 IA0 P1 D1 tA,[33,34,35,36,37,38,30,31,32]⟩] [((false=false)->(([.agg (inV sx2 D1),.agg (inV sx2 IA0)]:List CV)=[.agg (inV sx2 D1),.agg (inV sx2 IA0)]∨([.agg (inV sx2 D1),.agg (inV sx2 IA0)]:List CV)=[.agg (inV sx2 P1),.agg (inV sx2 IA0)])),((false=false)->(([.agg (inV sx2 P1),.agg (inV sx2 IA0)]:List CV)=[.agg (inV sx2 D1),.agg (inV sx2 IA0)]∨([.agg (inV sx2 P1),.agg (inV sx2 IA0)]:List CV)=[.agg (inV sx2 P1),.agg (inV sx2 IA0)]))] ⟨λ_=>.inl rfl,λ_=>.inr rfl⟩<|m0 176 false false rfl<|V.q<|a1l<|jK<|V.q<|m0 103 (decide ((2:Int)<4)) true (by decide)<|V.t [] [(0:Int)<=2/\(2:Int)<4] ⟨by decide,by decide⟩<|V.c [(38,false),(35,true),(34,true),(33,true)] (jJ sx3 IA0 tB vR) λqc2 _=>V.q<|a3a 3 (d5 rlv (0,0) [] qc2.1 qc2.2 62 2 true) kq kq<|V.c [(39,false),(0,true)] (mX [] ⟨[8,2,4,4,30,0,0,0],qc2.1,0,qc2.2⟩ rfl (by decide) 0 ⟨by show 8<=1000000000; decide,a0s _⟩ kq) (λyd2 N4=>?_);obtain ⟨d2,D2⟩:=yd2;have ed2:d2=sx3:=N4.trans (If qc2.1 qc2.2);subst ed2;refine V.q<|V.c [(42,false),(39,true),(38,true),(37,true)] (zT sx3 IA0 tB 8 kq kq kq vR) λ_ _=>V.q<|V.c [(42,false)] (tw [76,79,65,68,32,114,48,32,114,49,32,50,44,49,53,44,48,44,48,44,61] [[76,79,65,68],[114,48],[114,49],[50,44,49,53,44,48,44,48,44,61]] sx3 kq (by decide) kq (by decide) (iL EH Ig) EG) (λyp2 Rc=>?_);obtain ⟨p2,P2⟩:=yp2;have ep2:p2=sx3:=Rc;subst ep2;refine G2 42 true (C7 sx3 IA0)<|G2 42 true (C1 sx3 IA0)<|G2 42 true (E7 sx3 IA0)<|G2 6 true (C7 sx3 D2)<|G2 8 true (C1 sx3 D2)<|G2 10 true (E7 sx3 D2)<|G2 6 true (C7 sx3 P2)<|G2 8 true (C1 sx3 P2)<|G2 10 true (E7 sx3 P2)<|V.t [⟨tC sx3 IA0 P2 D2 tB,[49,50,51,52,53,54,46,47,48]⟩] [((false=false)->(([.agg (inV sx3 D2),.agg (inV sx3 IA0)]:List CV)=[.agg (inV sx3 D2),.agg (inV sx3 IA0)]∨([.agg (inV sx3 D2),.agg (inV sx3 IA0)]:List CV)=[.agg (inV sx3 P2),.agg (inV sx3 IA0)])),((false=false)->(([.agg (inV sx3 P2),.agg (inV sx3 IA0)]:List CV)=[.agg (inV sx3 D2),.agg (inV sx3 IA0)]∨([.agg (inV sx3 P2),.agg (inV sx3 IA0)]:List CV)=[.agg (inV sx3 P2),.agg (inV sx3 IA0)]))] ⟨λ_=>.inl rfl,λ_=>.inr rfl⟩<|m0 176 false false rfl<|V.q<|a1l<|jK<|V.q<|m0 103 (decide ((3:Int)<4)) true (by decide)<|V.t [] [(0:Int)<=3/\(3:Int)<4] ⟨by decide,by decide⟩<|V.c [(54,false),(51,true),(48,true),(49,true)] (jJ sx4 (sA4 g) mY pq) λqc3 _=>V.q<|a3a 4 (d5 rlv (0,0) [(2,5)] qc3.1 qc3.2 62 2 true) kq kq<|V.c [(55,false),(0,true)] (mX [(2,5)] ⟨[17,0,0,0,0,0,2,6],qc3.1,1,qc3.2⟩ rfl (by decide) 0 ⟨by show 8<=1000000000; decide,a0s _⟩ kq) (λyd3 Cm=>?_);obtain ⟨d3,D3⟩:=yd3;have ed3:d3=sx4:=Cm.trans (Ih qc3.1 qc3.2);subst ed3;refine V.q<|V.c [(58,false),(55,true),(52,true),(53,true)] (zT sx4 (sA4 g) mY 17 kq kq kq pq) λ_ _=>V.q<|V.c [(58,false)] (tw [67,65,76,76,32,45,32,33,53,32,91,114,50,93] [[67,65,76,76],[45],[33,53],[91,114,50,93]] sx4 kq (by decide) kq (by decide) (iL EK Ii) EJ) (λyp3 Rl=>?_);obtain ⟨p3,P3⟩:=yp3;have ep3:p3=sx4:=Rl;subst ep3;exact G2 58 true (C7 sx4 (sA4 g))<|G2 56 true (C1 sx4 (sA4 g))<|G2 58 true (E7 sx4 (sA4 g))<|G2 6 true (C7 sx4 D3)<|G2 8 true (C1 sx4 D3)<|G2 10 true (E7 sx4 D3)<|G2 6 true (C7 sx4 P3)<|G2 8 true (C1 sx4 P3)<|G2 10 true (E7 sx4 P3)<|V.t [⟨tC sx4 (sA4 g) P3 D3 mY,[65,66,67,68,69,70,62,63,64]⟩] [((false=false)->(([.agg (inV sx4 D3),.agg (inV sx4 (sA4 g))]:List CV)=[.agg (inV sx4 D3),.agg (inV sx4 (sA4 g))]∨([.agg (inV sx4 D3),.agg (inV sx4 (sA4 g))]:List CV)=[.agg (inV sx4 P3),.agg (inV sx4 (sA4 g))])),((false=false)->(([.agg (inV sx4 P3),.agg (inV sx4 (sA4 g))]:List CV)=[.agg (inV sx4 D3),.agg (inV sx4 (sA4 g))]∨([.agg (inV sx4 P3),.agg (inV sx4 (sA4 g))]:List CV)=[.agg (inV sx4 P3),.agg (inV sx4 (sA4 g))]))] ⟨λ_=>.inl rfl,λ_=>.inr rfl⟩<|m0 176 false false rfl<|V.q<|a1l<|jn [11,101,102] [false,false,false,false,false,false,false,false,false,false,false,false,false,false,false,false,false,false,false,false,false,false,false,false,false,false,false,false,false,false,false,false,false,false,false,false,false,false,false,false,false,false,false,false,false,false,false,false,false,false,false,false,false,false,false,false,false,false,false,false,false,false,false,false,true,true,true,true,false,false,true] (BW ρ0 w0 g) kq kq
 ·have iU:=pj he;have e9:=fA he;obtain ⟨p,hp,Ca,gU,hb⟩:=uc iU;obtain ⟨ek,ev,eb⟩:=e;simp only at Ca gU e9;subst Ca gU;exact V.q<|V.entry it 0 gL 7 7 seen wq _ kq kq (fun ρ a w hS=>hS.objN (n0:=w0.heap.size) (S:=n6 ρ0 H0) 0 kq) iU FS kq<|V.q<|V.s 1 (.one (.val (.int .i64 p.1))) (.one (.int .i64 p.1)) (λ_=>rfl)<|V.s 46 (.one (.val (.int .i64 p.1))) (.one (.int .i64 p.1)) (λ_=>rfl)<|V.s 2 (.one (.val (.string ⟨p.2.toArray⟩))) (.one (.str p.2)) (λ_=>rfl)<|V.q<|V.c [] (snN p hp) λ_ _=>V.q<|V.c [] (snR p hp) λ_ _=>V.q<|m0 77 (((((0:Int) != 0||!p.2==p.2)||(0:Int) != 0)||p.1 != p.1)||(p.2.length:Int) != (p.2.length:Int)) false (by simp)<|V.q<|a1l<|s5 [39] [] [0] [true,true] (ih (seen.push eb) trivial e9) kq kq
theorem iM (l:List (In×IA)) {i:Nat} (h:i<l.length):l.getD i ixD∈l:=by
 rw [a0r,a0b h];exact a5b _
def MZ:Con a0a:=r6 Tryz.func28 true [] [] kq kq
theorem ja {a:Int} (h:0<=a) (h':a<=4000000000000000000):a0h.wrap a=a:=by
 simp [a1s,a1t,a1p]; omega
theorem ud {x:In} (h:j2 x=true):(lnT x).length<=200000:=by
 obtain ⟨o,ho,e⟩:=nd h;rw [tU e];have lK:(c6 o).length<=7/\(s6 o).length<=100:=by
  have:=D7 (p:=λo=>decide ((c6 o).length<=7)&&decide ((s6 o).length<=100)) kq ho;simpa using this
 have:=tl [32] 20000 (s6 o::R8 x (c6 o)) (λy hy=>by
  rcases a0k.1 hy with rfl | hy
  ·omega
  ·obtain ⟨f,UW,rfl⟩:=a1d.1 hy;exact tn f x (jF (Fj ho e h) f UW))
 unfold aj;simp only [a0p,a1r,R8,a1k] at this ⊢;omega
def liO:Option (List In×List Int)->List UInt8×Int
 | some s=>(lsT s.1,0)
 | none=>([],221)
def liA (rl:List (Int×Int)) (X:RIn) (pr rg:Int):List UInt8×Int:=liO (vdS rl X pr rg)
theorem pR {l:List (In×IA)} {i:Nat} (h:i<l.length):lsT ((l.take (i+1)).map (·.1))=lsT ((l.take i).map (·.1))++(lnT (l.getD i ixD).1++[10]):=by
 unfold lsT;rw [a2c,a2x,a3y,a0b h,a0r,a0b h];simp
def PT (K:Kc) (l:List (In×IA)) (q:Option Addr) (c:Nat) (j:HXI):St :=
 { n:=34,slots:=[(4,ov (.ptr 0 0)),(8,ov (.ptr 1 0)),(21,ov (.row 1 q l.length c)),(22,ov (.int .i64 (l.length:Int))),(23,ov (.int .i64 (j.i:Int)))],gs:=[],
    heap:=[(0,⟨[.val (.map (some K.gF)),.val (.map (some K.gO))],110,true⟩),(1,⟨[.ptr 1 0,.row 0 j.q j.l.length j.c],137,true⟩)],next:=2,rows:=[(0,d5 bsv 0 j.l j.q j.c 5 1 true),(1,G7 l q c false)],nr:=2,pers:=[M6 l,cdP K,j7],wr:=true,fx:=0 }
theorem FT (rl:List (Int×Int)) (X:RIn) (hX:X.n=rl.length) (hl:rl.length<=1000000000) (hs:X.s.length<=1000000) (pr rg:Int) :
  CallsK a0a 37 [vN pr rg X] (z8 [j7,e8 (j1 rl X.q X.c)]) (λ_:Unit=>True) (λ_=>.tup [.one (.str (liA rl X pr rg).1),.one (.int .i64 (liA rl X pr rg).2)]) (λ_=>noF):=by
 obtain ⟨r,hr⟩:∃ r,vdS rl X pr rg=r:=⟨_,rfl⟩;have e:liA rl X pr rg=liO r:=by unfold liA; rw [hr]
 rw [e];refine a0j true Tryz.func37 fun ρ w=>V.q<|V.c [(0,false)] fC λK hK=>V.q<|V.callK [(0,true),(2,false)] (xR K hK rl X hX hl (by omega) pr rg) kq kq kq (λt=>by cases t<;>kernel_rfl) (λt ht=>?_);unfold vM at ht;rw [hr] at ht;cases r with
 | none =>
  have Vw:t=none:=ht.1;subst Vw;exact V.q<|m0 20 (!false) true rfl<|V.q<|V.z
 | some s =>
  obtain ⟨yy,M7⟩:=Al (by omega) hr;obtain ⟨t',rfl,h1,h2⟩:=ht.1;obtain ⟨l,q,c,p,q',c'⟩:=t';obtain ⟨s1,s2⟩:=s;simp only at h1 h2 M7 yy;subst h1 h2;refine V.q<|m0 20 (!true) false rfl<|V.q ?_;have n8:l.length<=1000000:=by have:=M7.2; rw [a1k] at this; omega
  have hx:∀ i,i<l.length->j2 (l.getD i ixD).1=true/\(l.getD i ixD).1.okL:=λi hi=>M7.1 _ (a1d.2 ⟨_,iM l hi,rfl⟩);refine Dc 3 true (cdP K) (oY K)<|Dc 1 true (M6 l) (I8 l)<|G2 3 true (G7 l q c false)<|G4 21 0 (G7 l q c false)<|a1l<|V.q<|f9 24 (decide ((0:Int)<(l.length:Int))) (λhc=>?_) (λhc=>?_)
  ·have h0:0<l.length:=by simpa using hc
   have wN:=hx 0 (by omega);have wO:=ud wN.1;refine V.t [] [(0:Int)<=((0:Nat):Int)/\((0:Nat):Int)<((l.length:Nat):Int)] ⟨by omega,by omega⟩<|w4 1 (l.map λe=>L0 (lsP e.1 e.2)) (L0 (lsP (l.getD 0 ixD).1 (l.getD 0 ixD).2)) kq (a1d.2 ⟨_,iM l (by omega),rfl⟩) (H9 (bx _ _))<|w4 0 (lsP (l.getD 0 ixD).1 (l.getD 0 ixD).2) (e8 (C7 (l.getD 0 ixD).1 (l.getD 0 ixD).2)) kq (a0f ..) (l7 _)<|w4 1 (lsP (l.getD 0 ixD).1 (l.getD 0 ixD).2) (e8 (C1 (l.getD 0 ixD).1 (l.getD 0 ixD).2)) kq (a0e _ (a0f ..)) (l7 _)<|w4 2 (lsP (l.getD 0 ixD).1 (l.getD 0 ixD).2) (e8 (E7 (l.getD 0 ixD).1 (l.getD 0 ixD).2)) kq (a0e _ (a0e _ (a0f ..))) (l7 _)<|V.c [(6,false),(11,false),(2,false),(1,false),(0,false)] (Fk K hK (l.getD 0 ixD).1 (l.getD 0 ixD).2 wN.2 wN.1) (λ_ _=>?_);have GK:(lnT (l.getD 0 ixD).1).length+1<=9223372036854775807:=by omega
   refine V.t [] [((lnT (l.getD 0 ixD).1).length+1:Nat)<=9223372036854775807] GK<|V.c [] (ve (lnT (l.getD 0 ixD).1++[10]) (by rw [a0c,a1j]; omega)) λy _=>V.q<|V.s 23 (.one (.int .i64 (a0h.wrap (((0:Nat):Int)+1)))) (.one (.int .i64 ((0+1:Nat):Int))) (λ_=>by rw [av (by omega)])<|j6 [4,8,21,22,23] [false,false,false,false,false,true,true,false,false,false,false,true] (λj:HXI=>l.length - j.i) (PT K l q c) (λj=>j.i<=l.length/\j.l=lsT ((l.take j.i).map (·.1))/\j.l.length<=200001*j.i) ⟨lnT (l.getD 0 ixD).1++[10],y.1,y.2,1⟩ kq ⟨h0,(pR h0).symm,by simp only [a0c,a1j]; omega⟩ (λj hj ih=>?_);obtain ⟨b,bq,bc,i⟩:=j;obtain ⟨hi,Q5,eO⟩:=hj;simp only at hi Q5 eO;refine a1l<|V.q<|f9 24 (decide ((i:Int)<(l.length:Int))) (λhc=>?_) (λhc=>?_)
   ·have e9:i<l.length:=by simpa using hc
    have wN:=hx i (by omega);have wO:=ud wN.1;refine V.t [] [(0:Int)<=((i:Nat):Int)/\((i:Nat):Int)<((l.length:Nat):Int)] ⟨by omega,by omega⟩<|w4 0 (l.map λe=>L0 (lsP e.1 e.2)) (L0 (lsP (l.getD i ixD).1 (l.getD i ixD).2)) kq (a1d.2 ⟨_,iM l (by omega),rfl⟩) (H9 (bx _ _))<|w4 0 (lsP (l.getD i ixD).1 (l.getD i ixD).2) (e8 (C7 (l.getD i ixD).1 (l.getD i ixD).2)) kq (a0f ..) (l7 _)<|w4 1 (lsP (l.getD i ixD).1 (l.getD i ixD).2) (e8 (C1 (l.getD i ixD).1 (l.getD i ixD).2)) kq (a0e _ (a0f ..)) (l7 _)<|w4 2 (lsP (l.getD i ixD).1 (l.getD i ixD).2) (e8 (E7 (l.getD i ixD).1 (l.getD i ixD).2)) kq (a0e _ (a0e _ (a0f ..))) (l7 _)<|V.c [(5,false),(6,false),(2,false),(1,false),(0,false)] (Fk K hK (l.getD i ixD).1 (l.getD i ixD).2 wN.2 wN.1) (λ_ _=>?_);have GK:(lnT (l.getD i ixD).1).length+1<=9223372036854775807:=by omega
    exact V.t [] [((lnT (l.getD i ixD).1).length+1:Nat)<=9223372036854775807] GK<|V.c [] (kT b bq bc (lnT (l.getD i ixD).1++[10]) (by rw [a0c,a1j]; omega)) λy _=>V.q<|V.s 23 (.one (.int .i64 (a0h.wrap (((i:Nat):Int)+1)))) (.one (.int .i64 ((i+1:Nat):Int))) (λ_=>by rw [av (by omega)])<|d9 [4,8,21,22,23] [false,false,false,false,true,true,true] (ih ⟨b++(lnT (l.getD i ixD).1++[10]),y.1,y.2,i+1⟩ ⟨e9,by simp only; rw [Q5,pR e9],by simp only [a0c,a1j]; omega⟩ (by simp only; omega)) kq kq
   ·have B0:i=l.length:=by simp at hc; omega
    rw [B0,a1o] at Q5;refine V.q<|V.c [] (gj b bq bc (by omega)) λ_ _=>V.q ?_;subst Q5;exact V.z
  ·have h0:l=[]:=List.eq_nil_of_length_eq_zero (by simpa using hc);subst h0;exact V.q<|V.c [] oI λ_ _=>V.q<|V.z
end Go.Proofs
end
section
namespace Go.Proofs
open Go Go.SX
theorem eB (X:RIn):c7 X=c7 (xIn X.s):=funext λr=>jO X 6 r 0 1 0
theorem FU (X:RIn):B4 X=B4 (xIn X.s):=funext λr=>by unfold B4; rw [eB X]; rfl
theorem Na (X:RIn):E5 X=E5 (xIn X.s):=rfl
theorem Jd (X:RIn):E8 X=E8 (xIn X.s):=funext λr=>by unfold E8; rw [eB X,FU X,Na X]
theorem TU (X:RIn):Q3 X=Q3 (xIn X.s):=funext λr=>by unfold Q3; rw [eB X,FU X]
theorem TV (X:RIn):gI X=gI (xIn X.s):=funext λr=>by unfold gI; rw [eB X]
theorem Nb (X:RIn):m3 X=m3 (xIn X.s):=rfl
theorem PU (no:Bool) (rl:List (Int×Int)) (X:RIn):M5 no rl X=M5 no rl (xIn X.s):=funext λr=>funext λo=>by unfold M5; rw [Nb X]
theorem FV {α:Type} (X:RIn) {g g':RSt->α×RSt} (h:g=g') (l:List α) (r:RSt):s4 X g l r=s4 (xIn X.s) g' l r:=by unfold s4; rw [eB X,h]
theorem TX (f:Fl) (rl:List (Int×Int)) (X:RIn) (r:RSt) (x:In):f.rd rl X r x=f.rd rl (xIn X.s) r x:=by
 cases f
 case D=>show ((c7 X r).2,a1i .D x ((c7 X r).1 - 1))=_; rw [eB X]; rfl
 case A=>show ((c7 X r).2,a1i .A x ((c7 X r).1 - 1))=_; rw [eB X]; rfl
 case B=>show ((c7 X r).2,a1i .B x ((c7 X r).1 - 1))=_; rw [eB X]; rfl
 case N=>show ((c7 X r).2,a1i .N x (c7 X r).1)=_; rw [eB X]; rfl
 case M=>show ((c7 X r).2,a1i .M x (c7 X r).1)=_; rw [eB X]; rfl
 case P=>show ((c7 X r).2,a1i .P x (c7 X r).1)=_; rw [eB X]; rfl
 case T=>show ((E8 X r).2,m7.set .T x (E8 X r).1)=_; rw [Jd X]; rfl
 case U=>show ((E8 X r).2,m7.set .U x (E8 X r).1)=_; rw [Jd X]; rfl
 case W=>show ((E8 X r).2,m7.set .W x (E8 X r).1)=_; rw [Jd X]; rfl
 case V=>show ((B4 X (c7 X r).2).2,({ x with vn:=(c7 X r).1,vs:=(B4 X (c7 X r).2).1 }:In))=_; rw [eB X,FU X]; rfl
 case L=>show ((s4 X (gI X) x.l r).2,({ x with l:=(s4 X (gI X) x.l r).1 }:In))=_; rw [FV X (TV X)]; rfl
 case Y=>show ((s4 X (E8 X) x.y r).2,({ x with y:=(s4 X (E8 X) x.y r).1 }:In))=_; rw [FV X (Jd X)]; rfl
 case F=>show ((s4 X (Q3 X) x.f r).2,({ x with f:=(s4 X (Q3 X) x.f r).1 }:In))=_; rw [FV X (TU X)]; rfl
 case pN=>show ((M5 false rl X r (a0u .N x)).2,a1i .N x (M5 false rl X r (a0u .N x)).1)=_; rw [PU]; rfl
 case pM=>show ((M5 true rl X r (a0u .M x)).2,a1i .M x (M5 true rl X r (a0u .M x)).1)=_; rw [PU]; rfl
 all_goals rfl
theorem wt (rl:List (Int×Int)) (X:RIn) (f:Fl) (l:List Fl) (s:RSt×In):rdL rl X (f::l) s=rdL rl X l (if s.1.bad=true then s else f.rd rl X s.1 s.2):=rfl
theorem Aq (rl:List (Int×Int)) (X:RIn) (s:RSt×In):rdL rl X [] s=s:=rfl
theorem PV (rl:List (Int×Int)) (X:RIn) (l:List Fl):∀ s:RSt×In,rdL rl X l s=rdL rl (xIn X.s) l s:=by
 induction l with
 | nil=>intro s; rw [Aq,Aq]
 | cons f l ih =>
  intro s;rw [wt rl X,wt rl (xIn X.s)];exact (ih _).trans (congrArg (λz=>rdL rl (xIn X.s) l (if s.1.bad=true then s else z)) (TX f rl X s.1 s.2))
theorem Ar (rl:List (Int×Int)) (X:RIn) (n:Nat):t7 rl X n=t7 rl (xIn X.s) n:=by unfold t7; rw [PV]; rfl
theorem FW (rl:List (Int×Int)) (X:RIn) (n:Nat):B1 rl X n=B1 rl (xIn X.s) n:=by unfold B1; rw [Ar]; rfl
theorem Ky (rl:List (Int×Int)) (X:RIn):∀ (k n:Nat),tkS rl X k n=tkS rl (xIn X.s) k n
 | 0,n=>rfl
 | k+1,n=>by
  rw [cR,cR,FW,Ar,Ky rl X k]; rfl
theorem FX (rl:List (Int×Int)) (X:RIn):B2 rl X=B2 rl (xIn X.s):=by unfold B2; rw [Ky]; rfl
theorem Kz (rl:List (Int×Int)) (X:RIn) (pr rg:Int):vdS rl X pr rg=vdS rl (xIn X.s) pr rg:=by unfold vdS; rw [FX]; rfl
end Go.Proofs
end
section
namespace Go.Proofs
open Go Go.SX
theorem wu:∀ (l:List Fl) (ws:List (List UInt8)) (x y:In),x.okS->ax l ws x=some y->y.okS
 | [],ws,x,y,h,e=>by cases e; exact h
 | f::l,ws,x,y,h,e=>by
  rw [aS] at e;split at e
  ·exact wu l _ _ y (zK f _ x h) e
  ·cases e
theorem FY {ws:List (List UInt8)} {x:In} (h:A8 ws=some x):x.okL:=by
 unfold A8 at h;split at h
 ·cases h
 ·split at h
  ·split at h
   ·rename_i hp;split at h
    ·cases h;exact (wu _ _ _ _ ⟨a0s _,a0s _,a0s _⟩ hp).okL
    ·cases h
   ·cases h
  ·cases h
def asF (n e:Int):(Int×Int×List UInt8×List (Int×Int))×Int×Int:=((0,0,[],[]),n,e)
def asW (pr rg:Int) (a:List UInt8×List (Int×Int)):(Int×Int×List UInt8×List (Int×Int))×Int×Int:=match vdS a.2 (xIn a.1) pr rg with
 | some _=>((pr,rg,a.1,a.2),0,0)
 | none=>asF 0 221
def asA (pr rg:Int) (t:List UInt8):(Int×Int×List UInt8×List (Int×Int))×Int×Int :=
 bif vdB (xIn t) pr rg then asF 0 1 else bif (asG (d4 10 t) [] 0).2.2 then asW pr rg (mdS (asG (d4 10 t) [] 0).1) else asF ((asG (d4 10 t) [] 0).2.1:Int) 222
def moV (m:Int×Int×List UInt8×List (Int×Int)) (qc:Option Addr×Nat):CV:=.agg [.int .i64 m.1,.int .i64 m.2.1,.str m.2.2.1,.val (.slice qc.1 m.2.2.2.length qc.2)]
structure AI where
 t:List UInt8
 l:List (In×IA)
 q:Option Addr
 c:Nat
 n:Nat
def TY (K:Kc) (pr rg:Int) (n0:Nat) (S:Nat->Prop) (j:AI):St :=
 { n:=87,slots:=[(0,ov (.int .i64 pr)),(1,ov (.int .i64 rg)),(2,ov (.str j.t)),(6,ov (.ptr 0 0)),(9,ov (.ptr 1 0)),(10,ov (.row 0 j.q j.l.length j.c)),(11,ov (.int .i64 (j.n:Int)))],gs:=[],
    heap:=[(0,⟨[.int .i64 0,.int .i64 0,.str [],.val (.slice none 0 0)],49,true⟩),(1,⟨[.val (.map (some K.gF)),.val (.map (some K.gO))],110,true⟩)],next:=2,rows:=[(0,G7 j.l j.q j.c true)],nr:=1,pers:=[P7 n0 S (M6 j.l),cdP K,j7],wr:=true,fx:=0 }
theorem PW (pr rg:Int) (t:List UInt8) (ht:t.length<=1500000) :
  CallsK a0a 39 [.one (.int .i64 pr),.one (.int .i64 rg),.one (.str t)] H0 (λ_:Option Addr×Nat=>True) (λqc=>.tup [moV (asA pr rg t).1 qc,.one (.int .i64 (asA pr rg t).2.1),.one (.int .i64 (asA pr rg t).2.2)]) (λqc=>z8 [e8 (j1 (asA pr rg t).1.2.2.2 qc.1 qc.2)]):=by
 obtain ⟨an,GY⟩:∃ an,asA pr rg t=an:=⟨_,rfl⟩;rw [GY];refine a0j true Tryz.func39 fun ρ w=>V.q<|f9 39 (vdB (xIn t) pr rg) (λhb=>?_) (λhb=>?_)
 ·have e:an=asF 0 1:=by rw [<- GY]; unfold asA; rw [hb]; rfl
  subst e;exact V.q<|vpn (j1 [] none 0)<|V.e ((none,0):Option Addr×Nat) [(0,true)] trivial
 ·refine V.q<|V.c [(0,false)] fC λK hK=>V.q<|Dc 0 true (cdP K) (oY K)<|U9 ixV ixD 10 30 29 kq kq<|B3 [] [] (M6 []) kq kq (λk hk=>by obtain ⟨q,hq,_⟩:=hk; exact absurd hq (a1a)) (λw hw q hq=>absurd hq (a1a)) (I8 _)<|j6 [0,1,2,6,9,10,11] [true,true,false,true] (λj:AI=>j.t.length) (TY K pr rg w.heap.size (n6 ρ H0)) (λj=>asG (d4 10 t) [] 0=asG (d4 10 j.t) (j.l.map (·.1)) j.n/\j.n=j.l.length/\j.n+j.t.length<=t.length/\∀ e∈j.l,j2 e.1=true/\e.1.okL) ⟨t,[],none,0,0⟩ kq
   ⟨rfl,rfl,by simp,λe he=>absurd he (a1a)⟩ (λj hj ih=>?_)
  obtain ⟨u,l,q,c,n⟩:=j;obtain ⟨hT,hn,hu,x7⟩:=hj;simp only at hT hn hu x7;refine a1l<|V.q<|f9 43 (!(u==([]:List UInt8))) (λhc=>?_) (λhc=>?_)
  ·have E0:u≠[]:=by simpa using hc
   rw [IE E0] at hT;have U4:=ta u [10];refine V.t [⟨Du,[0]⟩] [u.length<4294967281] (by show _<_; omega)<|V.c [(1,false),(2,false)] (MC K hK (a3d u [10]).1 (by omega)) (λy hy=>?_);unfold rdP at hy;refine V.q<|f9 63 (!y.2.2||!(a3d u [10]).2.2) (λhd=>?_) (λhd=>?_)
   ·have e:an=asF (n:Int) 222:=by
     have We:(asG (d4 10 t) [] 0).2.2=false/\(asG (d4 10 t) [] 0).2.1=n:=by
      rw [hT];cases hm:(a3d u [10]).2.2 with
      | false=>exact ⟨rfl,rfl⟩
      | true =>
       rw [hm] at hd;cases hr:A8 (d4 32 (a3d u [10]).1) with
       | none=>exact ⟨rfl,rfl⟩
       | some x=>rw [hr] at hy; rw [hy.2] at hd; cases hd
     rw [<- GY]; unfold asA; rw [hb,We.1,We.2]; rfl
    subst e;exact V.q<|vpn (j1 [] none 0)<|V.e ((none,0):Option Addr×Nat) [(0,true)] trivial
   ·have N4:y.2.2=true/\(a3d u [10]).2.2=true:=by simpa using hd
    obtain ⟨x,hr⟩:∃ x,A8 (d4 32 (a3d u [10]).1)=some x:=by
     cases hr:A8 (d4 32 (a3d u [10]).1) with
     | none =>
      rw [hr] at hy;have:y.2.2=false:=hy;rw [this] at N4; cases N4.1
     | some x=>exact ⟨x,rfl⟩
    rw [hr] at hy hT;rw [if_pos N4.2] at hT;simp only at hT;have Ci:y.1=x:=hy.1;obtain ⟨o,_,_,Cp,_⟩:=gD hr;have VU:=FY hr;have e9:(a3d u [10]).2.1.length<u.length:=by
     have:=rK (s:=u) (a:=(a3d u [10]).1) (b:=(a3d u [10]).2.1) (c:=10) (by rw [<- N4.2]);have h2:=congrArg List.length this;rw [a0c,a0p] at h2;omega
    refine V.q<|a6q ixV ixD l (y.1,y.2.1) 0 q c 30 29 (inV y.1 y.2.1) 304 kq (by omega) rfl (λ_ _=>kq) λq2 c2=>V.q<|a3v 11 n (by omega)<|B3 [(3,true),(0,true),(1,true),(2,true)] (M6 l::lsP y.1 y.2.1) (M6 (l++[(y.1,y.2.1)])) kq kq (M1 l y.1 y.2.1).1 (M1 l y.1 y.2.1).2 (I8 _)<|d9 [0,1,2,6,9,10,11] [true,false,false,false,false,true,true] (ih ⟨(a3d u [10]).2.1,l++[(y.1,y.2.1)],q2,c2,n+1⟩ ⟨?_,by simp only [a0c,a1j]; omega,by simp only; omega,λe he=>?_⟩ e9) kq kq
    ·simp only [a2x,List.map_cons,List.map_nil];rw [Ci]; exact hT
    ·rcases a2s.1 he with he | he
     ·exact x7 e he
     ·rw [a0d.1 he];simp only;rw [Ci]; exact ⟨Cp,VU⟩
  ·have Vs:u=[]:=by simpa using hc
   subst Vs;rw [IF] at hT;have e:an=asW pr rg (mdS (l.map (·.1))):=by rw [<- GY]; unfold asA; rw [hb,hT]; rfl
   have VJ:vK l:=⟨by omega,x7⟩;have yy:=gA (l.map (·.1)) (λx hx=>by obtain ⟨e,he,rfl⟩:=a1d.1 hx; exact (x7 e he).1);rw [a1k] at yy;refine V.q<|a3a 0 (G7 l q c true) kq kq<|V.c [(2,false),(1,true),(0,true)] (tt K hK l VJ q c pr rg) λqc _=>V.q<|a3a 1 (d5 rlv (0,0) (mdS (l.map (·.1))).2 qc.1 qc.2 62 2 true) kq kq<|V.callK [(3,false),(0,true)] (zP K hK (mdS (l.map (·.1))).2 ⟨(mdS (l.map (·.1))).1,qc.1,(mdS (l.map (·.1))).2.length,qc.2⟩ rfl (by omega) pr rg) kq kq kq (λt=>by cases t<;>kernel_rfl) (λtk aC=>?_);unfold vM at aC;rw [Kz] at aC;obtain ⟨r,hv⟩:∃ r,vdS (mdS (l.map (·.1))).2 (xIn (mdS (l.map (·.1))).1) pr rg=r:=⟨_,rfl⟩;have hx:∀ q n c,xIn (RIn.s ⟨(mdS (l.map (·.1))).1,q,n,c⟩)=xIn (mdS (l.map (·.1))).1:=λ_ _ _=>rfl;rw [hx,hv] at aC;cases r with
   | none =>
    have e2:an=asF 0 221:=by rw [e]; unfold asW; rw [hv]
    have Vw:tk=none:=aC.1;subst Vw e2;exact V.q<|m0 84 (!false) true rfl<|V.q<|vpn (j1 [] none 0)<|V.e ((none,0):Option Addr×Nat) [(0,true)] trivial
   | some s =>
    have e2:an=((pr,rg,(mdS (l.map (·.1))).1,(mdS (l.map (·.1))).2),0,0):=by rw [e]; unfold asW; rw [hv]
    obtain ⟨t',rfl,_,_⟩:=aC.1;subst e2;exact V.q<|m0 84 (!true) false rfl<|V.q<|V.e (qc:Option Addr×Nat) [(3,true)] trivial
end Go.Proofs
end
section
namespace Go.SX
open Go
section
variable {C:Ctx} {ρ:Nat->Nat} {s:St} {a:Act} {w w':World}
end
end Go.SX
namespace Go.SX
open Go
end Go.SX
end
section
namespace Go.Proofs
open Go Go.SX
theorem wv {α:Type} {f:α->α->Bool} (h:∀ a,f a a=true):∀ l,eqL f l l=true
 | []=>rfl
 | a::l=>by
  simp only [eqL,h,wv h l,Bool.and_self]
end Go.Proofs
end
section
namespace Go.Proofs
open Go.Shelf
end Go.Proofs
end
section
namespace Go.Proofs
open Go Go.SX
theorem FZ (pr rg:Int) (s:List UInt8) (rl:List (Int×Int)) (q q':Option Addr) (c c':Nat) (hl:rl.length<=1000000000) :
  CallsK a0a 41 [.agg [.int .i64 pr,.int .i64 rg,.str s,.val (.slice q rl.length c)],.agg [.int .i64 pr,.int .i64 rg,.str s,.val (.slice q' rl.length c')]] (stP [e8 (j1 rl q c),e8 (j1 rl q' c')]) (λ_:Unit=>True) (λ_=>ov (.sb true)) (λ_=>noF):=by
 exact a0j true Tryz.func41 fun ρ w=>V.q<|K8 24 true ((pr==pr&&rg==rg)&&s==s) kq (by simp)<|V.c [(0,false),(1,false)] (LG rl rl q q' c c' hl) λ_ _=>V.q<|V.s 4 (.one (.sb (eqL eqR rl rl))) (.one (.sb true)) (λ_=>by rw [wv (λa=>by simp [eqR])])<|V.z
end Go.Proofs
end
section
namespace Go.SX
open Go
section
variable {P:Program} {w:World}
end
variable {C:Ctx}
section
variable {ρ:Nat->Nat} {s:St} {a:Act} {w:World}
end
end Go.SX
end
section
namespace Go.Proofs
open Go Go.SX
def dS (ok:Bool) (s:RSt×In):In×Int×Int:=bif ok then (s.2,(s.1.at_:Int),0) else (C2,0,220)
def dyV (n:Int×Int) (y:In×IA):RV:=.tup [.agg (inV y.1 y.2),.one (.int .i64 n.1),.one (.int .i64 n.2)]
def dA (rl:List (Int×Int)) (X:RIn) (n:Int):In×Int×Int :=
 bif decide (n<0)||decide (n>(X.s.length:Int)) then (C2,0,1) else dS (B1 rl X n.toNat) (t7 rl X n.toNat)
theorem Ga (rl:List (Int×Int)) (X:RIn) (n:Int) (h:(decide (n<0)||decide (n>(X.s.length:Int)))=true) :
  CallsK a0a 33 [.one (.str X.s),.one (.val (.slice X.q X.n X.c)),.one (.int .i64 n)] (z8 [e8 (j1 rl X.q X.c)]) (λy:In×IA=>y.1=C2) (dyV (0,1)) (λy=>z8 (lsP y.1 y.2)):=by
 exact a0j true Tryz.func33 fun ρ w=>V.q<|m0 22 (decide (n<0)||decide (n>(X.s.length:Int))) true h<|V.q<|a6f 0<|vpn (C7 C2 IA0)<|vpn (C1 C2 IA0)<|vpn (E7 C2 IA0)<|V.e ((C2,IA0):In×IA) [(2,true),(1,true),(0,true)] rfl
theorem Nc (rl:List (Int×Int)) (X:RIn) (hX:X.n=rl.length) (hl:rl.length<=1000000000) (a:Nat) (x7:j8 X ⟨a,false⟩) :
  CallsK a0a 33 [.one (.str X.s),.one (.val (.slice X.q X.n X.c)),.one (.int .i64 (a:Int))] (z8 [e8 (j1 rl X.q X.c)]) (λy:In×IA=>y.1=(dS (W0 rl X a) (bz rl X a)).1) (dyV (dS (W0 rl X a) (bz rl X a)).2) (λy=>z8 (lsP y.1 y.2)):=by
 have GJ:B6 X 1 ⟨a,false⟩=_:=yb (X:=X) (r:=⟨a,false⟩) (k:=1) rfl (by decide);by_cases ha:a<X.s.length
 case neg =>
  have Nn:W0 rl X a=false:=by unfold W0; rw [show decide (a<X.s.length)=false by simpa using ha]; rfl
  rw [if_neg (by show ¬ a+1<=_; omega)] at GJ;rw [Nn];refine a0j true Tryz.func33 fun ρ w=>V.q<|m0 22 (decide ((a:Int)<0)||decide ((a:Int)>(X.s.length:Int))) false (by have:=x7.2; simp only at this; simp; omega)<|V.q<|j3 1 3 ⟨[.str X.s,.val (.slice X.q X.n X.c),.int .i64 (a:Int),.bool false],133,true⟩ (.bool false) (.sb false) kq rfl kq (λ_=>rfl)<|V.c [] (rQ X 1 ⟨a,false⟩ x7) (λr1 e1=>?_);rw [GJ] at e1;simp only at e1;subst e1;exact V.q<|m0 34 true true rfl<|V.q<|a6f 0<|vpn (C7 C2 IA0)<|vpn (C1 C2 IA0)<|vpn (E7 C2 IA0)<|V.e ((C2,IA0):In×IA) [(2,true),(1,true),(0,true)] rfl
 obtain ⟨c,hc⟩:∃ c,X.s.getD a 0=c:=⟨_,rfl⟩;have W2:B6 X 1 ⟨a,false⟩=([c],⟨a+1,false⟩):=by
  rw [GJ,if_pos (by show a+1<=_; omega)];simp only;rw [gG _ _ 0 (by omega),tO,hc]
 have U4:=c.toNat_lt;have yI:a0h.wrap (c.toNat:Int)=(c.toNat:Int):=by simp [a1s,a1t,a1p]; omega
 obtain ⟨fls,Cc⟩:∃ fls,(n7 (c.toNat:Int)).getD []=fls:=⟨_,rfl⟩;have aD:=jY c.toNat U4;rw [Cc] at aD;have lK:fls.length<=7:=by rw [<- Cc]; exact Y0 _
 have hR:bz rl X a=tkL rl X fls (⟨a+1,false⟩,f0 (c.toNat:Int)):=by unfold bz; rw [hc,Cc]
 have Nn:W0 rl X a=(!(bz rl X a).1.bad&&j2 (bz rl X a).2):=by unfold W0; rw [show decide (a<X.s.length)=true by simpa using ha]; rfl
 rw [Nn,hR];generalize hE:tkL rl X fls (⟨a+1,false⟩,f0 (c.toNat:Int))=sE;obtain ⟨rE,xE⟩:=sE;simp only;obtain ⟨ok,Jn⟩:∃ ok,(!rE.bad&&j2 xE)=ok:=⟨_,rfl⟩;rw [Jn];refine a0j true Tryz.func33 fun ρ w=>V.q<|m0 22 (decide ((a:Int)<0)||decide ((a:Int)>(X.s.length:Int))) false (by simp; omega)<|V.q<|j3 1 3 ⟨[.str X.s,.val (.slice X.q X.n X.c),.int .i64 (a:Int),.bool false],133,true⟩ (.bool false) (.sb false) kq rfl kq (λ_=>rfl)<|V.c [] (rQ X 1 ⟨a,false⟩ x7) (λr1 e1=>?_);rw [W2] at e1;simp only at e1;subst e1;refine V.q<|m0 34 false false rfl<|V.s 10 (.one (.str (B6 X 1 ⟨a,false⟩).1)) (.one (.str [c])) (λ_=>by rw [W2])<|V.t [] [(0:Int)<=0/\(0:Int)<((1:Nat):Int)] ⟨by decide,by decide⟩<|V.s 38 (.one (.int .i64 (a0h.wrap (c.toNat:Int)))) (.one (.int .i64 (c.toNat:Int))) (λ_=>by rw [yI])<|V.c [] (ni (c.toNat:Int)) λ_ _=>V.q<|V.c [] (Z7 (c.toNat:Int)) λ_ _=>V.q<|V.s 13 (.one (.str (rfN (c.toNat:Int)).2)) (.one (.str (fls.map a3z))) (λ_=>by rw [aD])<|H6 a5f fm0 2 24 ⟨inC (f0 (c.toNat:Int)) (.val (.slice none 0 0)) (.val (.slice none 0 0)) (.val (.slice none 0 0)),30,true⟩ 93 4 kq rfl<|H6 C6 0 2 25 ⟨inC (f0 (c.toNat:Int)) (.row 0 none 0 0) (.val (.slice none 0 0)) (.val (.slice none 0 0)),30,true⟩ 3 1 kq rfl<|H6 a5g ty0 2 26 ⟨inC (f0 (c.toNat:Int)) (.row 0 none 0 0) (.row 1 none 0 0) (.val (.slice none 0 0)),30,true⟩ 23 5 kq rfl<|j6 [6,9,11,13,14] [true] (λj:TdI=>fls.length - j.i) (SM rl X (fls.map a3z)) (λj=>j.i<=fls.length/\(j.r,j.x)=tkL rl X (fls.take j.i) (⟨a+1,false⟩,f0 (c.toNat:Int))/\j8 X j.r/\j.x.f.length<=16*j.i/\j.x.l.length<=16*j.i/\j.x.y.length<=16*j.i)
  ⟨⟨a+1,false⟩,f0 (c.toNat:Int),IA0,0⟩ kq ⟨a0s _,rfl,⟨x7.1,ha⟩,a0q _,a0q _,a0q _⟩ (λj hj ih=>?_)
 obtain ⟨r,x,A,i⟩:=j;obtain ⟨hi,GI,wG,KM,nt,Ci⟩:=hj;simp only at hi GI wG KM nt Ci;have Az:x.okL:=⟨by omega,by omega,by omega⟩;refine a1l<|V.q<|f9 56 (decide ((i:Int)<((fls.map a3z).length:Int))&&!r.bad) (λhb=>?_) (λhb=>?_)
 ·simp only [a0g,decide_eq_true_eq,Bool.not_eq_true',a1k] at hb;obtain ⟨wA,ic⟩:=hb;have e9:i<fls.length:=by omega
  obtain ⟨f,hf⟩:∃ f,fls.getD i .D=f:=⟨_,rfl⟩;have N5:(fls.map a3z).getD (i:Int).toNat 0=f.ch:=by
   rw [a1h,<- hf,a0r,a2t,a0b e9,a0r,a0b e9];rfl
  have aC:fls.take (i+1)=fls.take i++[f]:=by
   rw [a2c,a0b e9];rw [a0r,a0b e9] at hf;simp only [a1e] at hf;rw [hf]; rfl
  have hT:=Pn f rl X hX hl r x A wG Az;unfold TfK at hT;rw [<- N5] at hT;refine V.q<|p9 [1] [0,1,2] 6 kq<|@a1z _ [1] [0,1,2] 6 _ _ ([]:List (Ent a0a)) [(0:Int)<=i/\(i:Int)<((fls.map a3z).length:Int)] kq kq ⟨by omega,by rw [a1k]; omega⟩<|@cQ _ [1] [0,1,2] 6 _ _ _ _ _ _ _ _ _ [(0,false)] hT kq kq kq (λ_=>kq) (λy hy=>?_);have k:=Po f (rl:=rl) (x:=x) wG;refine @a1z _ [1] [0,1,2] 6 _ _ ([]:List (Ent a0a)) [] kq kq trivial<|@o7 _ [1] [0,1,2] 6 _ _ kq<|V.q<|a3v 14 i (by omega)<|d9 [6,9,11,13,14] [true] (ih ⟨y.1,y.2.1,y.2.2,i+1⟩ ⟨e9,?_,by rw [hy.1]; exact k.1,Bk k.2.1 KM (by rw [hy.2]),Bk k.2.2.1 nt (by rw [hy.2]),Bk k.2.2.2 Ci (by rw [hy.2])⟩ (by simp only; omega)) kq kq;simp only;rw [aC,FC,<- GI,if_neg (by rw [ic]; decide),hy.1,hy.2]
 ·have M7:=IV GI hi hE hb;have hr:=(Prod.mk.inj M7).1;have hx:=(Prod.mk.inj M7).2;subst hr hx;refine a3a 0 (d5 a5f fm0 x.f A.qf A.cf 93 4 true) kq kq<|a3a 1 (d5 C6 0 x.l A.ql A.cl 3 1 true) kq kq<|a3a 2 (d5 a5g ty0 x.y A.qy A.cy 23 5 true) kq kq ?_;by_cases ic:r.bad=true
  case pos =>
   have ho:ok=false:=by rw [<- Jn,ic]; rfl
   subst ho;exact V.q<|K8 69 true r.bad kq ic<|V.q<|a6f 0<|vpn (C7 C2 IA0)<|vpn (C1 C2 IA0)<|vpn (E7 C2 IA0)<|V.e ((C2,IA0):In×IA) [(2,true),(1,true),(0,true)] rfl
  case neg =>
   have ic:r.bad=false:=by simpa using ic
   refine V.q<|K8 69 false r.bad kq ic<|V.c [(2,true),(1,true),(0,true)] (Km x A Az.okM _ rfl) λ_ _=>V.q ?_;by_cases hf:j2 x=true
   case pos =>
    have ho:ok=true:=by rw [<- Jn,ic,hf]; rfl
    subst ho;exact m0 73 (!j2 x) false (by rw [hf]; rfl)<|V.q<|p9 [0] [] 8 kq<|@a1z _ [0] [] 8 _ _ ([]:List (Ent a0a)) [] kq kq trivial<|@VX.store _ [0] [] 8 _ _ 5 kq kq kq<|@a1z _ [0] [] 8 _ _ ([]:List (Ent a0a)) [] kq kq trivial<|@o7 _ [0] [] 8 _ _ kq<|V.q<|V.e ((x,A):In×IA) [(2,true),(1,true),(0,true)] rfl
   case neg =>
    have hf:j2 x=false:=by simpa using hf
    have ho:ok=false:=by rw [<- Jn,ic,hf]; rfl
    subst ho;exact m0 73 (!j2 x) true (by rw [hf]; rfl)<|V.q<|a6f 0<|vpn (C7 C2 IA0)<|vpn (C1 C2 IA0)<|vpn (E7 C2 IA0)<|V.e ((C2,IA0):In×IA) [(2,true),(1,true),(0,true)] rfl
theorem Nd (rl:List (Int×Int)) (X:RIn) (hX:X.n=rl.length) (hl:rl.length<=1000000000) (hs:X.s.length<=1000000000) (n:Int) :
  CallsK a0a 33 [.one (.str X.s),.one (.val (.slice X.q X.n X.c)),.one (.int .i64 n)] (z8 [e8 (j1 rl X.q X.c)]) (λy:In×IA=>y.1=(dA rl X n).1) (dyV (dA rl X n).2) (λy=>z8 (lsP y.1 y.2)):=by
 cases h:(decide (n<0)||decide (n>(X.s.length:Int))) with
 | true =>
  have e:dA rl X n=(C2,0,1):=by unfold dA; rw [h]; rfl
  rw [e];exact Ga rl X n h
 | false =>
  have e:dA rl X n=dS (B1 rl X n.toNat) (t7 rl X n.toNat):=by unfold dA; rw [h]; rfl
  rw [e];simp only [a2r,decide_eq_false_iff_not] at h;have en:((n.toNat:Nat):Int)=n:=by omega
  have ho:j8 X ⟨n.toNat,false⟩:=⟨hs,by show n.toNat<=X.s.length; omega⟩;have k:=Nc rl X hX hl n.toNat ho;rw [en] at k;obtain ⟨t1,t2⟩:=Mw rl X n.toNat ho;have e2:dS (W0 rl X n.toNat) (bz rl X n.toNat)=dS (B1 rl X n.toNat) (t7 rl X n.toNat):=by
   rw [t1];cases hc:B1 rl X n.toNat with
   | false=>rfl
   | true=>rw [t2 hc]
  rw [e2] at k;exact k
theorem Nf (f:Fl) (x:In) (m n:Nat):f.rel x (m+n)=shR m (f.rel x n):=by
 cases f
 case pN=>show X5 _ _=shR m (X5 _ _); unfold X5 shR; split<;>simp
 case pM=>show X5 _ _=shR m (X5 _ _); unfold X5 shR; split<;>simp
 case far=>show [(((m+n:Nat):Int),x.p)]=shR m [((n:Int),x.p)]; simp [shR]
 all_goals rfl
theorem As (x:In) (p:List UInt8) (r:List (Int×Int)):∀ (l:List Fl) (s:List UInt8×List (Int×Int)),putL x l (p++s.1,r++shR p.length s.2)=(p++(putL x l s).1,r++shR p.length (putL x l s).2)
 | [],s=>rfl
 | f::l,s=>by
  have ih:=As x p r l (s.1++f.enc x,s.2++f.rel x s.1.length);simp only at ih;show putL x l ((p++s.1)++f.enc x,(r++shR p.length s.2)++f.rel x (p++s.1).length)=(p++(putL x l (s.1++f.enc x,s.2++f.rel x s.1.length)).1,r++shR p.length (putL x l (s.1++f.enc x,s.2++f.rel x s.1.length)).2);rw [<- ih,a0c,Nf,a1g,a1g];unfold shR;rw [a2x]
theorem Gb (l:List In) {x:In} (hx:j2 x=true):putL x (c6 x.op.toNat) ((mdS l).1++[a1c x.op.toNat],(mdS l).2)=mdS (l++[x]):=by
 have h:=As x (mdS l).1 (mdS l).2 (c6 x.op.toNat) ([a1c x.op.toNat],[]);rw [vI,FQ hx,<- h];simp [shR]
def tgC:Fl->List Bool
 | .aN=>[true] | .aM=>[false] | _=>[]
def tgV (x:In) (b:Bool):Int:=bif b then x.n else x.m
theorem Je {x:In} (h:j2 x=true):tgS x=((c6 x.op.toNat).flatMap tgC).map (tgV x):=by
 obtain ⟨⟨h1,h2⟩,_⟩:=V8 h;have e:=D7 (p:=λo=>(c6 o).flatMap tgC==if o=14∨o=15 then [true] else if o=28∨o=29 then [false] else []) kq (o:=x.op.toNat) ((p6 _).2 (by omega));rw [eq_of_beq e];unfold tgS;by_cases hA:x.op=14∨x.op=15
 ·rw [if_pos hA,if_pos (by omega)]; rfl
 ·by_cases hB:x.op=28∨x.op=29
  ·rw [if_neg hA,if_pos hB,if_neg (by omega),if_pos (by omega)]; rfl
  ·rw [if_neg hA,if_neg hB,if_neg (by omega),if_neg (by omega)]; rfl
def tgA (x:In) (p:List Int) (l:List Fl):Bool:=((l.flatMap tgC).map (tgV x)).all λn=>p.contains n
def idx (p:List Int) (n:Int):Int:=if p.contains n=true then ((p.countP (λy=>decide (y<n)):Nat):Int) else -1
theorem ue (p:List Int) (n:Int):decide (idx p n<0)=!p.contains n:=by
 unfold idx;split
 ·rename_i h; rw [h]; simp
 ·rename_i h; rw [Bool.not_eq_true] at h; rw [h]; rfl
theorem Ng {p:List Int} {n:Int} {k:Nat} (hk:k<=p.length) (h1:∀ i,i<k->p.getD i 0<n) (h2:∀ i,k<=i->i<p.length->¬ p.getD i 0<n) (hs:p.Pairwise (· <= ·)) :
  idx p n=if (decide ((k:Int)<p.length)&&(p.getD (k:Int).toNat 0==n))=true then (k:Int) else -1:=by
 have hc:p.countP (λy=>decide (y<n))=k:=by
  conv=>lhs; rw [<- a6g k p]
  rw [List.countP_append,List.countP_eq_length.2,List.countP_eq_zero.2,a2b]
  ·omega
  ·intro x hx;obtain ⟨i,hi,rfl⟩:=List.getElem_of_mem hx;rw [a2p] at hi;have:=h2 (k+i) (by omega) (by omega);rw [a0r,a0b (by omega),a1e] at this;rw [List.getElem_drop];simpa using this
  ·intro x hx;obtain ⟨i,hi,rfl⟩:=List.getElem_of_mem hx;rw [a2b] at hi;have:=h1 i (by omega);rw [a0r,a0b (by omega),a1e] at this;rw [List.getElem_take];simpa using this
 have hm:p.contains n=(decide ((k:Int)<p.length)&&(p.getD (k:Int).toNat 0==n)):=by
  rw [a6j,List.contains_iff_mem,a0g,decide_eq_true_eq,beq_iff_eq,a1h];constructor
  ·intro hx;obtain ⟨i,hi,e⟩:=List.getElem_of_mem hx;have QQ:k<=i:=by
    refine Nat.not_lt.1 λe9=>?_;have:=h1 i e9;rw [a0r,a0b hi,a1e,e] at this;omega
   have h3:p[k]'(by omega)<=p[i]:=by
    by_cases hq:k=i
    ·subst hq; omega
    ·exact List.pairwise_iff_getElem.1 hs k i (by omega) hi (by omega)
   have h4:=h2 k (a0q _) (by omega);rw [a0r,a0b (by omega),a1e] at h4;refine ⟨by omega,?_⟩;rw [a0r,a0b (by omega),a1e];omega
  ·rintro ⟨h3,h4⟩;rw [a0r,a0b (by omega),a1e] at h4;rw [<- h4];exact a5b _
 unfold idx;rw [hc,hm]
def PX (p:List Int) (q:Option Addr) (c:Nat) (n:Int) (j:Nat×Nat):St :=
 { n:=39,slots:=[(0,ov (.row 0 q p.length c)),(1,ov (.int .i64 n)),(5,ov (.int .i64 (j.1:Int))),(6,ov (.int .i64 (j.2:Int)))],gs:=[],heap:=[],next:=0,
    rows:=[(0,d5 C6 0 p q c 3 1 false)],nr:=1,pers:=[],wr:=false,fx:=0 }
theorem TZ (p:List Int) (q:Option Addr) (c:Nat) (n:Int) (hs:p.Pairwise (· <= ·)) (hl:p.length<=1000000000) :
  CallsK a0a 147 [.one (.val (.slice q p.length c)),.one (.int .i64 n)] (z8 [e8 (d5 C6 0 p q c 3 1 false)]) (λ_:Unit=>True) (λ_=>ov (.int .i64 (idx p n))) (λ_=>noF):=by
 refine a0j false Tryz.func147 fun ρ w=>G4 0 0 (d5 C6 0 p q c 3 1 false)<|V.q<|j6 [0,1,5,6] [] (λj:Nat×Nat=>j.2 - j.1) (PX p q c n) (λj=>j.1<=j.2/\j.2<=p.length/\(∀ i,i<j.1->p.getD i 0<n)/\(∀ i,j.2<=i->i<p.length->¬ p.getD i 0<n)) (0,p.length) kq
  ⟨a0s _,a0q _,λi hi=>absurd hi (a0x i),λi h1 h2=>by simp only at h1; omega⟩ (λj hj ih=>?_)
 obtain ⟨lo,hi⟩:=j;obtain ⟨h1,h2,h3,h4⟩:=hj;simp only at h1 h2 h3 h4;refine a1l<|V.q<|f9 12 (decide ((lo:Int)<hi)) (λhc=>?_) (λhc=>?_)
 ·have e9:lo<hi:=by simpa using hc
  obtain ⟨m,hm⟩:∃ m,(lo+hi) / 2=m:=⟨_,rfl⟩;have KH:((lo:Int)+(hi:Int)).tdiv 2=(m:Int):=by
   rw [<- hm];rfl
  refine V.t [] [inK .i64 ((lo:Int)+hi),(2:Int)≠0,inK .i64 (((lo:Int)+hi).tdiv 2),(0:Int)<=((lo:Int)+hi).tdiv 2/\((lo:Int)+hi).tdiv 2<p.length] ⟨by simp only [inK]; omega,by decide,by rw [KH]; simp only [inK]; omega,by rw [KH]; omega,by rw [KH]; omega⟩<|f9 22 (decide (p.getD (((lo:Int)+hi).tdiv 2).toNat 0<n)) (λhd=>?_) (λhd=>?_)
  ·have hd:=of_decide_eq_true hd;rw [KH,a1h] at hd;refine V.t [] [inK .i64 (((lo:Int)+hi).tdiv 2+1)] (by rw [KH]; show _/\_; omega)<|V.s 5 (.one (.int .i64 (((lo:Int)+hi).tdiv 2+1))) (.one (.int .i64 ((m+1:Nat):Int))) (λ_=>by rw [KH]; rfl)<|d9 [0,1,5,6] [] (ih (m+1,hi) ⟨by simp only; omega,h2,λi Rp=>?_,h4⟩ (by simp only; omega)) kq kq;simp only at Rp;by_cases e:i=m
   ·rw [e]; exact hd
   ·have h5:p[i]'(by omega)<=p[m]'(by omega):=List.pairwise_iff_getElem.1 hs i m (by omega) (by omega) (by omega);rw [a0r,a0b (by omega),a1e] at hd ⊢;omega
  ·have hd:=of_decide_eq_false hd;rw [KH,a1h] at hd;refine V.q<|V.s 6 (.one (.int .i64 (((lo:Int)+hi).tdiv 2))) (.one (.int .i64 (m:Int))) (λ_=>by rw [KH])<|d9 [0,1,5,6] [] (ih (lo,m) ⟨by simp only; omega,by simp only; omega,h3,λi Rp XB=>?_⟩ (by simp only; omega)) kq kq;simp only at Rp;by_cases e:i=m
   ·rw [e]; exact hd
   ·have h5:p[m]'(by omega)<=p[i]'(by omega):=List.pairwise_iff_getElem.1 hs m i (by omega) (by omega) (by omega);rw [a0r,a0b (by omega),a1e] at hd ⊢;omega
 ·have bA:¬ lo<hi:=by simpa using hc
  have he:lo=hi:=by omega
  subst he;have lL:=Ng h2 h3 h4 hs;refine V.t [] [decide ((lo:Int)<p.length)=true->(0:Int)<=lo/\(lo:Int)<p.length] (λh=>⟨by omega,of_decide_eq_true h⟩)<|f9 37 (decide ((lo:Int)<p.length)&&(p.getD (lo:Int).toNat 0==n)) (λhb=>?_) (λhb=>?_)
  ·rw [if_pos hb] at lL;exact V.q<|V.s 4 (.one (.int .i64 (lo:Int))) (.one (.int .i64 (idx p n))) (λ_=>by rw [lL])<|V.z
  ·rw [if_neg (by rw [hb]; decide)] at lL;exact V.q<|V.s 4 (.one (.int .i64 (-1))) (.one (.int .i64 (idx p n))) (λ_=>by rw [lL])<|V.z
def PY (p:List Int) (q:Option Addr) (c:Nat) (hs:p.Pairwise (· <= ·)) (hl:p.length<=1000000000):Con a0a where
 f:=147
 need:=[e8 (d5 C6 0 p q c 3 1 false)]
 fn:=λxs=>match xs with
  | [s,.one (.int .i64 n)]=>some (.v (.one (.int .i64 (idx p n))),[s=CV.one (.val (.slice q p.length c))])
  | _=>none
 ok:=by
  intro xs v' ob h1 q8 ρ w S0 _;split at h1
  ·rename_i _ s n _;simp only [a0l,a1f] at h1;obtain ⟨rfl,rfl⟩:=h1;rw [q8 (s=CV.one (.val (.slice q p.length c))) (a0d.2 rfl)];exact CallsK.gives (TZ p q c n hs hl) ⟨rfl,rfl,rfl⟩ (λ_ _=>rfl) ρ w S0
  ·cases h1
theorem PZ (rl:List (Int×Int)) (X:RIn) {n:Nat} (h:n<=X.s.length):dA rl X (n:Int)=dS (B1 rl X n) (t7 rl X n):=by
 have:(decide ((n:Int)<0)||decide ((n:Int)>(X.s.length:Int)))=false:=by simp; omega
 unfold dA;rw [this];rfl
def Ua (rl:List (Int×Int)) (X:RIn) (pr rg:Int) (n0:Nat) (S:Nat->Prop) (j:TI):St :=
 { n:=42,slots:=[(1,ov (.ptr 0 0)),(5,ov (.row 0 j.t.q j.t.l.length j.t.c)),(6,ov (.row 1 j.t.q' j.t.p.length j.t.c')),(7,ov (.int .i64 (j.n:Int)))],gs:=[],
    heap:=[(0,⟨[.int .i64 pr,.int .i64 rg,.str X.s,.val (.slice X.q X.n X.c)],49,true⟩)],next:=1,
    rows:=[(0,G7 j.t.l j.t.q j.t.c true),(1,d5 C6 0 j.t.p j.t.q' j.t.c' 3 1 true)],nr:=2,pers:=[P7 n0 S (M6 j.t.l),e8 (j1 rl X.q X.c)],wr:=true,fx:=0 }
theorem Gc (rl:List (Int×Int)) (X:RIn) (hX:X.n=rl.length) (hl:rl.length<=1000000000) (hs:X.s.length<=100000000) (pr rg:Int) :
  CallsK a0a 78 [vN pr rg X] (z8 [e8 (j1 rl X.q X.c)]) (tkP (B2 rl X)) vdV vdF:=by
 refine a0j true Tryz.func78 fun ρ w=>V.q<|U9 ixV ixD 5 30 29 kq kq<|U9 C6 0 6 3 1 kq kq<|B3 [] [] (M6 []) kq kq (λk hk=>by obtain ⟨q,hq,_⟩:=hk; exact absurd hq (a1a)) (λw hw q hq=>absurd hq (a1a)) (I8 _)<|j6 [1,5,6,7] [true,true] (λj:TI=>X.s.length - j.n) (Ua rl X pr rg w.heap.size (n6 ρ (z8 [e8 (j1 rl X.q X.c)]))) (λj=>j8 X ⟨j.n,false⟩/\X.s.length<j.n+j.k/\j.t.l.length<=j.n/\j.t.p.length<=j.n/\B2 rl X=(tkS rl X j.k j.n).map λs=>(j.t.l.map (·.1)++s.1,(j.t.p++[(j.n:Int)])++s.2)) ⟨⟨[],none,0,[],none,0⟩,0,X.s.length+1⟩ kq
  ⟨⟨by show X.s.length<=_; omega,a0s _⟩,by simp only; omega,a0s _,a0s _,rfl⟩ (λj hj ih=>?_)
 obtain ⟨⟨l,q,c,p,q',c'⟩,n,k⟩:=j;obtain ⟨x7,hk,nt,um,hT⟩:=hj;simp only at x7 hk nt um hT;refine a1l<|V.q<|f9 15 (decide ((n:Int)<(X.s.length:Int))) (λhb=>?_) (λhb=>?_)
 ·have e9:n<X.s.length:=by simpa using hb
  have qt:=eh rl X n x7 e9;have hd:=Nd rl X hX hl (by omega) (n:Int);rw [PZ rl X (Nat.le_of_lt e9)] at hd;refine V.q ?_;cases lN:B1 rl X n with
  | false =>
   rw [lN] at hd;exact V.c [(1,false)] hd λy hy=>V.q<|m0 27 ((220:Int) != 0) true rfl<|V.q<|V.sb 4 false<|V.e (none:Option TK) [] (zL hk e9 hT lN)
  | true =>
   rw [lN] at hd;exact V.c [(1,false)] hd λy hy=>V.q<|m0 27 ((0:Int) != 0) false rfl<|V.q<|a6q ixV ixD l y 0 q c 30 29 (inV y.1 y.2) 304 kq (by have:=x7.2; simp only at this; omega) rfl (λ_ _=>kq) λq2 c2=>V.q<|a6q C6 0 p (n:Int) 1 q' c' 3 1 [.int .i64 (n:Int)] 8 kq (by have:=x7.2; simp only at this; omega) rfl (λ_ _=>kq) λq3 c3=>V.q<|B3 [(3,true),(0,true),(1,true),(2,true)] (M6 l::lsP y.1 y.2) (M6 (l++[(y.1,y.2)])) kq kq (M1 l y.1 y.2).1 (M1 l y.1 y.2).2 (I8 _)<|d9 [1,5,6,7] [true,false,false,false,false,true] (ih ⟨⟨l++[y],q2,c2,p++[(n:Int)],q3,c3⟩,(t7 rl X n).1.at_,k - 1⟩ ⟨⟨qt.2.1,qt.2.2⟩,by simp only; omega,by simp only [a0c,a1j]; omega,by simp only [a0c,a1j]; omega,zM hk e9 hT lN hy⟩ (by simp only; omega)) kq kq
 ·have bA:¬ n<X.s.length:=by simpa using hb
  exact V.q<|a6q C6 0 p (n:Int) 1 q' c' 3 1 [.int .i64 (n:Int)] 8 kq (by have:=x7.2; simp only at this; omega) rfl (λ_ _=>kq) λq3 c3=>V.q<|V.sb 4 true<|a3a 0 (G7 l q c true) kq kq<|a3a 2 (d5 C6 0 (p++[(n:Int)]) q3 c3 3 1 true) kq kq<|V.e (some ⟨l,q,c,p++[(n:Int)],q3,c3⟩:Option TK) [(2,true),(1,true),(0,true)] (Ej hk x7.2 bA hT)
def R3 (rl:List (Int×Int)) (X:RIn) (pr rg:Int):Int:=match vdS rl X pr rg with
 | none=>221
 | some _=>0
def Jf (X:RIn) (pr rg:Int):Bool:=!(decide (pr>=0)&&decide (pr<=63))||!(decide (rg>=0)&&decide (rg<=4000))||decide ((X.s.length:Int)>1048576)
theorem np (X:RIn) (pr rg:Int):Jf X pr rg=vdB X pr rg:=by
 unfold Jf vdB;rw [a6j];simp;omega
theorem Jg {rl:List (Int×Int)} {X:RIn} {pr rg:Int} (h:vdB X pr rg=true):R3 rl X pr rg=221:=by
 unfold R3 vdS; rw [if_pos h]
theorem Gd {rl:List (Int×Int)} {X:RIn} {pr rg:Int} (h:B2 rl X=none):R3 rl X pr rg=221:=by
 unfold R3 vdS;split
 ·rfl
 ·rename_i s e;rw [h] at e;split at e<;>cases e
theorem ww {rl:List (Int×Int)} {X:RIn} {pr rg:Int} {s:List In×List Int} (h:vdB X pr rg=false) (ht:B2 rl X=some s) :
  R3 rl X pr rg=if (eqL eqR (mdS s.1).2 rl&&s.1.all (λx=>(tgS x).all (λn=>s.2.contains n)))=true then 0 else 221:=by
 unfold R3 vdS;rw [if_neg (by rw [h]; decide),ht];simp only;split
 ·rename_i e;split at e
  ·cases e
  ·rename_i hq; rw [if_neg hq]
 ·rename_i e;split at e
  ·rename_i hq; rw [if_pos hq]
  ·cases e
theorem Jh {rl:List (Int×Int)} {X:RIn} {pr rg:Int} {l:List (In×IA)} {p:List Int} {i:Nat} (h:vdB X pr rg=false) (ht:B2 rl X=some (l.map (·.1),p)) (hi:i<l.length)
  (hb:(tgS (l.getD i ixD).1).all (λn=>p.contains n)=false):R3 rl X pr rg=221:=by
 rw [ww h ht,if_neg];rw [Bool.not_eq_true,Bool.and_eq_false_iff]
 right
 rw [List.all_map];exact dQ hi ixD hb
theorem Ge {x:In} {p:List Int} {l:List Fl} {f:Fl} {b:Bool} (hf:f∈l) (hb:b∈tgC f) (hc:p.contains (tgV x b)=false):tgA x p l=false:=by
 unfold tgA;rw [List.all_eq_false];exact ⟨tgV x b,a1d.2 ⟨b,List.mem_flatMap.2 ⟨f,hf,hb⟩,rfl⟩,by simpa using hc⟩
theorem wx (x:In) (p:List Int) (l:List Fl) (f:Fl):tgA x p (l++[f])=(tgA x p l&&((tgC f).map (tgV x)).all λn=>p.contains n):=by
 unfold tgA;rw [a3y,a2x,List.all_append,List.flatMap_singleton]
theorem Gf {f:Fl} (h:f.ch=110):f=.aN:=by cases f<;>first|rfl | exact absurd h (by decide)
theorem KA {f:Fl} (h:f.ch=109):f=.aM:=by cases f<;>first|rfl | exact absurd h (by decide)
theorem Qa {f:Fl} (h1:f.ch≠110) (h2:f.ch≠109):tgC f=[]:=by cases f<;>first|rfl | exact absurd rfl h1 | exact absurd rfl h2
theorem Qb {a b:UInt8} (h:a=b):((a.toNat:Int)==(b.toNat:Int))=true:=by rw [h]; exact beq_self_eq_true _
theorem Qc {a b:UInt8} (h:a≠b):((a.toNat:Int)==(b.toNat:Int))=false:=by
 rw [beq_eq_false_iff_ne];intro e;exact h (a4b.1 (by omega))
theorem Qe {fls:List Fl} {k:Nat} (h:k<fls.length):fls.getD k .D∈fls/\(fls.map a3z).getD (k:Int).toNat 0=(fls.getD k .D).ch/\fls.take (k+1)=fls.take k++[fls.getD k .D]:=by
 refine ⟨?_,?_,?_⟩
 ·rw [a0r,a0b h]; exact a5b _
 ·rw [a1h,a0r,a2t,a0b h,a0r,a0b h]; rfl
 ·rw [a2c,a0b h,a0r,a0b h]; rfl
theorem Ub {x:In} {p:List Int} {f:Fl} (h:f.ch=110) (hc:p.contains x.n=true):((tgC f).map (tgV x)).all (λn=>p.contains n)=true:=by
 rw [Gf h];show (p.contains x.n&&true)=true;rw [hc]; rfl
theorem Uc {x:In} {p:List Int} {f:Fl} (h1:f.ch≠110) (hc:((f.ch.toNat:Int)==109&&decide (idx p x.m<0))=false):((tgC f).map (tgV x)).all (λn=>p.contains n)=true:=by
 by_cases h:f.ch=109
 ·rw [h] at hc;have fR:decide (idx p x.m<0)=false:=by simpa using hc
  rw [ue] at fR;rw [KA h];show (p.contains x.m&&true)=true;rw [Bool.and_true];simpa using fR
 ·rw [Qa h1 h]; rfl
theorem Ji {x:In} {p:List Int} {l:List Fl} {f:Fl} (hf:f∈l) (hc:((f.ch.toNat:Int)==109&&decide (idx p x.m<0))=true):tgA x p l=false:=by
 rw [a0g,ue] at hc;have h:f.ch=109:=a4b.1 (by have:=eq_of_beq hc.1; show f.ch.toNat=109; omega);exact Ge hf (b:=false) (by rw [KA h]; exact a0d.2 rfl) (by show p.contains x.m=false; simpa using hc.2)
theorem Jj {x:In} {p:List Int} {l:List Fl} {f:Fl} (hf:f∈l) (h:f.ch=110) (hc:p.contains x.n=false):tgA x p l=false :=
 Ge hf (b:=true) (by rw [Gf h]; exact a0d.2 rfl) hc
structure CMI where
 b:WSt
 i:Nat
structure CXI where
 xs:List UInt8
 xq:Option Addr
 xc:Nat
 l:List (In×IA)
 q:Option Addr
 c:Nat
 p:List Int
 q':Option Addr
 c':Nat
def Qf (rl:List (Int×Int)) (E:CXI):List m6:=[e8 (d5 C6 0 E.p E.q' E.c' 3 1 false),M6 E.l,e8 (j1 rl E.xq E.xc)]
def Qg (rl:List (Int×Int)) (pr rg:Int) (E:CXI) (b:WSt):List (Nat×Blk):=[(0,⟨[.int .i64 pr,.int .i64 rg,.str E.xs,.val (.slice E.xq rl.length E.xc)],49,true⟩),(1,⟨[.row 0 b.q b.bs.length b.c,.row 1 b.q2 b.rs.length b.c2],129,true⟩)]
def Qh (E:CXI) (b:WSt):List (Nat×Row):=[(0,d5 bsv 0 b.bs b.q b.c 5 1 true),(1,d5 rlv (0,0) b.rs b.q2 b.c2 62 2 true),(2,G7 E.l E.q E.c false)]
def Ud (rl:List (Int×Int)) (pr rg:Int) (E:CXI) (j:CMI):St :=
 { n:=126,slots:=[(1,ov (.ptr 0 0)),(3,ov (.row 2 E.q E.l.length E.c)),(4,ov (.val (.slice E.q' E.p.length E.c'))),(6,ov (.ptr 1 0)),(7,ov (.int .i64 (j.i:Int)))],gs:=[],
    heap:=Qg rl pr rg E j.b,next:=2,rows:=Qh E j.b,nr:=3,pers:=Qf rl E,wr:=true,fx:=0 }
def Ue (rl:List (Int×Int)) (pr rg:Int) (E:CXI) (j:CMI) (ls:List UInt8) (k:Nat):St :=
 { n:=126,slots:=[(1,ov (.ptr 0 0)),(3,ov (.row 2 E.q E.l.length E.c)),(4,ov (.val (.slice E.q' E.p.length E.c'))),(6,ov (.ptr 1 0)),(7,ov (.int .i64 (j.i:Int))),(9,ov (.str ls)),(10,ov (.int .i64 (k:Int)))],gs:=[],
    heap:=Qg rl pr rg E j.b,next:=2,rows:=Qh E j.b,nr:=3,pers:=Qf rl E,wr:=true,fx:=0 }
def Uf (rl:List (Int×Int)) (pr rg:Int) (E:CXI) (b:WSt) (i:Nat):St :=
 { n:=126,slots:=[(1,ov (.ptr 0 0)),(6,ov (.ptr 1 0)),(11,ov (.int .i64 (i:Int)))],gs:=[],
    heap:=[(0,⟨[.int .i64 pr,.int .i64 rg,.str E.xs,.row 0 E.xq rl.length E.xc],49,true⟩),(1,⟨[.row 1 b.q b.bs.length b.c,.row 2 b.q2 b.rs.length b.c2],129,true⟩)],next:=2,
    rows:=[(0,j1 rl E.xq E.xc),(1,d5 bsv 0 b.bs b.q b.c 5 1 true),(2,d5 rlv (0,0) b.rs b.q2 b.c2 62 2 true)],nr:=3,pers:=[],wr:=true,fx:=0 }
theorem Qi (rl:List (Int×Int)) (X:RIn) (hX:X.n=rl.length) (hl:rl.length<=1000000000) (pr rg:Int) :
  CallsK a0a 77 [vN pr rg X] (z8 [e8 (j1 rl X.q X.c)]) (λ_:Unit=>True) (λ_=>ov (.int .i64 (R3 rl X pr rg))) (λ_=>noF):=by
 obtain ⟨xs,xq,xn,xc⟩:=X;simp only at hX;subst hX;obtain ⟨X,Xv⟩:∃ X:RIn,X=⟨xs,xq,rl.length,xc⟩:=⟨_,rfl⟩;refine a0j true Tryz.func77 fun ρ w=>V.t [⟨aIn,[]⟩] [] trivial<|f9 27 (Jf ⟨xs,xq,rl.length,xc⟩ pr rg) (λhb=>?_) (λhb=>?_)
 ·exact V.q<|V.s 2 (.one (.int .i64 221)) (.one (.int .i64 (R3 rl ⟨xs,xq,rl.length,xc⟩ pr rg))) (λ_=>by rw [Jg (by rw [<- np]; exact hb)])<|V.z
 rw [np] at hb;have rU:xs.length<=1048576:=by
  have h2:=hb;unfold vdB at h2;simp at h2;omega
 refine V.q<|V.callK [(0,false)] (Gc rl ⟨xs,xq,rl.length,xc⟩ rfl hl (by simp only; omega) pr rg) kq kq kq (λt=>by cases t<;>kernel_rfl) (λt ht=>?_);cases t with
 | none =>
  have kx:B2 rl ⟨xs,xq,rl.length,xc⟩=none:=by
   cases h:B2 rl ⟨xs,xq,rl.length,xc⟩ with
   | none=>rfl
   | some s=>rw [h] at ht; obtain ⟨t',e,_⟩:=ht; cases e
  exact V.q<|m0 35 (!false) true rfl<|V.q<|V.s 2 (.one (.int .i64 221)) (.one (.int .i64 (R3 rl ⟨xs,xq,rl.length,xc⟩ pr rg))) (λ_=>by rw [Gd kx])<|V.z
 | some t =>
  obtain ⟨l,q,c,p,q',c'⟩:=t;have ku:B2 rl ⟨xs,xq,rl.length,xc⟩=some (l.map (·.1),p):=by
   cases h:B2 rl ⟨xs,xq,rl.length,xc⟩ with
   | none=>rw [h] at ht; cases ht
   | some s =>
    rw [h] at ht;obtain ⟨t',e,h1,h2⟩:=ht;cases e;simp only at h1 h2;rw [h1,h2]
  obtain ⟨g1,g2,g3,g4,g5⟩:=ln (by simp only; omega) ku;simp only [a1k] at g1 g2 g3 g4 g5;have qq:∀ {i:Nat},i<l.length->(tgS (l.getD i ixD).1).all (λn=>p.contains n)=false->R3 rl ⟨xs,xq,rl.length,xc⟩ pr rg=221:=λhi h=>Jh hb ku hi h;have Co:=ww hb ku;have yy:=λi=>gA ((l.take i).map (·.1)) (λx hx=>by obtain ⟨e,he,rfl⟩:=a1d.1 hx; exact (g1 e.1 (a1d.2 ⟨e,a5l he,rfl⟩)).1);have hx:∀ i,i<l.length->j2 (l.getD i ixD).1=true/\(l.getD i ixD).1.okL:=λi hi=>g1 _ (a1d.2 ⟨_,iM l hi,rfl⟩);clear ht ku;refine V.q<|m0 35 (!true) false rfl<|V.q<|H6 bsv 0 1 0 ⟨[.val (.slice none 0 0),.val (.slice none 0 0)],129,true⟩ 5 1 kq rfl<|H6 rlv (0,0) 1 1 ⟨[.row 0 none 0 0,.val (.slice none 0 0)],129,true⟩ 62 2 kq rfl<|Dc 0 true (M6 l) (I8 l)<|G2 2 true (G7 l q c false)<|G2 4 true (d5 C6 0 p q' c' 3 1 false)<|G4 3 1 (G7 l q c false)<|j6 [1,3,4,6,7] [true,false,true,false,false,false,true] (λj:CMI=>l.length - j.i) (Ud rl pr rg ⟨xs,xq,xc,l,q,c,p,q',c'⟩) (λj=>j.i<=l.length/\(j.b.bs,j.b.rs)=mdS ((l.take j.i).map (·.1))/\(l.take j.i).all (λe=>(tgS e.1).all (λn=>p.contains n))=true) ⟨w0,0⟩ kq ⟨a0s _,rfl,rfl⟩ (λj hj ih=>?_);obtain ⟨b,i⟩:=j;obtain ⟨hi,o9,q7⟩:=hj;simp only at hi o9 q7;have KG:=yy i;rw [<- o9,a1k,a2b] at KG;simp only at KG;by_cases e9:i<l.length
  ·have wN:=hx i e9;have Cl:=@qq i e9;have qt:=λh=>K3 (f:=λe:In×IA=>(tgS e.1).all (λn=>p.contains n)) e9 ixD q7 h;have Wf:mdS ((l.take (i+1)).map (·.1))=mdS (((l.take i).map (·.1))++[(l.getD i ixD).1]):=by
    rw [a2c,a2x,a0b e9,a0r,a0b e9]; rfl
   have gT:L0 (lsP (l.getD i ixD).1 (l.getD i ixD).2)∈l.map (λe:In×IA=>L0 (lsP e.1 e.2)):=a1d.2 ⟨_,iM l e9,rfl⟩;have f7:=(V8 wN.1).1;have aD:=jY (l.getD i ixD).1.op.toNat (by omega);have F5:n7 (l.getD i ixD).1.op=some (c6 (l.getD i ixD).1.op.toNat):=by unfold n7; rw [if_pos f7]
   rw [Int.toNat_of_nonneg (by omega),F5] at aD;simp only [a1e] at aD;have Ck:(tgS (l.getD i ixD).1).all (λn=>p.contains n)=tgA (l.getD i ixD).1 p (c6 (l.getD i ixD).1.op.toNat):=by rw [Je wN.1]; rfl
   have lK:=Y0 (l.getD i ixD).1.op;rw [F5] at lK;simp only [a1e] at lK;rw [Ck] at Cl qt;have hW:=Kv (l.getD i ixD).1 (l.getD i ixD).2 b wN.1 (by omega) (by omega);have rV:=Gb ((l.take i).map (·.1)) wN.1;rw [<- Wf,<- o9] at rV;rw [rV] at hW;obtain ⟨fls,Cc⟩:∃ fls,c6 (l.getD i ixD).1.op.toNat=fls:=⟨_,rfl⟩;rw [Cc] at aD Cl qt lK;clear Ck F5 qq Co o9 yy KG q7 Wf rV;obtain ⟨e,he⟩:∃ e,l.getD i ixD=e:=⟨_,rfl⟩;refine a1l<|V.q<|m0 41 (decide ((i:Int)<l.length)) true (by simpa using e9)<|V.t [] [(0:Int)<=i/\(i:Int)<l.length] ⟨by omega,by omega⟩<|w4 1 (l.map λe=>L0 (lsP e.1 e.2)) (L0 (lsP (l.getD i ixD).1 (l.getD i ixD).2)) kq gT (H9 (bx _ _))<|w4 0 (lsP (l.getD i ixD).1 (l.getD i ixD).2) (e8 (C7 (l.getD i ixD).1 (l.getD i ixD).2)) kq (a0f ..) (l7 _)<|w4 1 (lsP (l.getD i ixD).1 (l.getD i ixD).2) (e8 (C1 (l.getD i ixD).1 (l.getD i ixD).2)) kq (a0e _ (a0f ..)) (l7 _)<|w4 2 (lsP (l.getD i ixD).1 (l.getD i ixD).2) (e8 (E7 (l.getD i ixD).1 (l.getD i ixD).2)) kq (a0e _ (a0e _ (a0f ..))) (l7 _)<|V.c [(2,false),(1,false),(0,false)] hW λb2 GW=>V.t [] [(0:Int)<=i/\(i:Int)<l.length] ⟨by omega,by omega⟩<|V.c [] (Z7 (l.getD i ixD).1.op) λ_ _=>V.q<|V.s 9 (.one (.str (rfN (l.getD i ixD).1.op).2)) (.one (.str (fls.map a3z))) (λ_=>by rw [aD])<|j6 [1,3,4,6,7,9,10] [false,false,false,false,true,true,true] (λk:Nat=>fls.length - k) (Ue rl pr rg ⟨xs,xq,xc,l,q,c,p,q',c'⟩ ⟨b2,i⟩ (fls.map a3z)) (λk=>k<=fls.length/\tgA (l.getD i ixD).1 p (fls.take k)=true) 0 kq ⟨a0s _,rfl⟩ (λk hk ih2=>?_);obtain ⟨hk,Rq⟩:=hk;have U4:(fls.map a3z).length=fls.length:=a1k ..;by_cases GO:k<fls.length
   ·have hF:=Qe GO;have hB:(0:Int)<=k/\(k:Int)<((fls.map a3z).length:Int):=⟨by omega,by rw [U4]; omega⟩;by_cases hA:(fls.getD k .D).ch=110
    ·have Xs:=Gf hA;have lL:=ue p (l.getD i ixD).1.n;refine a1l<|V.q<|m0 62 (decide ((k:Int)<((fls.map a3z).length:Int))) true (by simpa using GO)<|V.t [] [(0:Int)<=k/\(k:Int)<((fls.map a3z).length:Int),((((fls.map a3z).getD (k:Int).toNat 0).toNat:Int)==110)=true->(0:Int)<=i/\(i:Int)<l.length] ⟨hB,λ_=>⟨by omega,by omega⟩⟩<|K8 69 true ((((fls.map a3z).getD (k:Int).toNat 0).toNat:Int)==110) kq (by rw [hF.2.1]; exact Qb hA)<|V.runT [(⟨PY p q' c' g2 (by omega),[2]⟩:Ent a0a)] [CV.one (.val (.slice q' p.length c'))=CV.one (.val (.slice q' p.length c')),decide (idx p (l.getD i ixD).1.n<0)=false->(0:Int)<=k/\(k:Int)<((fls.map a3z).length:Int)] kq kq ⟨rfl,λ_=>hB⟩ ?_;by_cases NX:p.contains (l.getD i ixD).1.n=true
     ·exact K8 79 false (decide (idx p (l.getD i ixD).1.n<0)) kq (by rw [lL,NX]; rfl)<|K8 84 false ((((fls.map a3z).getD (k:Int).toNat 0).toNat:Int)==109) kq (by rw [hF.2.1,hA]; rfl)<|V.q<|a3v 10 k (by omega)<|d9 [1,3,4,6,7,9,10] [true,true,true] (ih2 (k+1) ⟨GO,by rw [hF.2.2,wx,Rq,Ub hA NX]; rfl⟩ (by omega)) kq kq
     ·exact K8 79 true (decide (idx p (l.getD i ixD).1.n<0)) kq (by rw [lL]; simpa using NX)<|V.q<|V.s 2 (.one (.int .i64 221)) (.one (.int .i64 (R3 rl ⟨xs,xq,rl.length,xc⟩ pr rg))) (λ_=>by rw [Cl (Jj hF.1 hA (by simpa using NX))])<|V.z
    ·refine a1l<|V.q<|m0 62 (decide ((k:Int)<((fls.map a3z).length:Int))) true (by simpa using GO)<|V.t [] [(0:Int)<=k/\(k:Int)<((fls.map a3z).length:Int),((((fls.map a3z).getD (k:Int).toNat 0).toNat:Int)==110)=true->(0:Int)<=i/\(i:Int)<l.length] ⟨hB,λ_=>⟨by omega,by omega⟩⟩<|K8 69 false ((((fls.map a3z).getD (k:Int).toNat 0).toNat:Int)==110) kq (by rw [hF.2.1]; exact Qc hA)<|V.runT [(⟨PY p q' c' g2 (by omega),[2]⟩:Ent a0a)] [(0:Int)<=k/\(k:Int)<((fls.map a3z).length:Int),((((fls.map a3z).getD (k:Int).toNat 0).toNat:Int)==109)=true->(0:Int)<=i/\(i:Int)<l.length,((((fls.map a3z).getD (k:Int).toNat 0).toNat:Int)==109)=true->CV.one (.val (.slice q' p.length c'))=CV.one (.val (.slice q' p.length c'))] kq kq ⟨hB,λ_=>⟨by omega,by omega⟩,λ_=>rfl⟩<|f9 94 ((((fls.map a3z).getD (k:Int).toNat 0).toNat:Int)==109&&decide (idx p (l.getD i ixD).1.m<0)) (λhd=>?_) (λhd=>?_)
     ·rw [hF.2.1] at hd;exact V.q<|V.s 2 (.one (.int .i64 221)) (.one (.int .i64 (R3 rl ⟨xs,xq,rl.length,xc⟩ pr rg))) (λ_=>by rw [Cl (Ji hF.1 hd)])<|V.z
     ·rw [hF.2.1] at hd;exact V.q<|a3v 10 k (by omega)<|d9 [1,3,4,6,7,9,10] [true,true,true] (ih2 (k+1) ⟨GO,by rw [hF.2.2,wx,Rq,Uc hA hd]; rfl⟩ (by omega)) kq kq
   ·have QO:fls.take k=fls:=List.take_of_length_le (by omega);rw [QO] at Rq;exact a1l<|V.q<|m0 62 (decide ((k:Int)<((fls.map a3z).length:Int))) false (by simpa using GO)<|V.q<|a3v 7 i (by omega)<|d9 [1,3,4,6,7] [true,true,true] (ih ⟨b2,i+1⟩ ⟨e9,GW,qt Rq⟩ (by simp only; omega)) kq kq
  ·have NV:l.take i=l:=List.take_of_length_le (by omega);have Qm:(l.map (·.1)).all (λx=>(tgS x).all (λn=>p.contains n))=true:=by rw [List.all_map,<- NV]; exact q7
   rw [NV] at o9;rw [Qm,<- o9,Bool.and_true] at Co;simp only at Co;clear Qm q7 qq yy KG o9;refine a1l<|V.q<|m0 41 (decide ((i:Int)<l.length)) false (by simpa using e9)<|V.q<|f9 103 ((b.rs.length:Int) != (rl.length:Int)) (λhd=>?_) (λhd=>?_)
   ·have E0:b.rs.length≠rl.length:=λe=>by rw [e,bne_self_eq_false] at hd; cases hd
    rw [dW E0] at Co;exact V.q<|V.s 2 (.one (.int .i64 221)) (.one (.int .i64 (R3 rl ⟨xs,xq,rl.length,xc⟩ pr rg))) (λ_=>by rw [Co]; rfl)<|V.z
   ·have n8:b.rs.length=rl.length:=by rw [bne_eq_false_iff_eq] at hd; omega
    refine V.q<|M2 2 (j1 rl xq xc) kq rfl<|K5 0 3 3 ⟨[.int .i64 pr,.int .i64 rg,.str xs,.val (.slice xq rl.length xc)],49,true⟩ (j1 rl xq xc) kq rfl kq<|j6 [1,6,11] [] (λk:Nat=>rl.length - k) (Uf rl pr rg ⟨xs,xq,xc,l,q,c,p,q',c'⟩ b) (λk=>k<=rl.length/\∀ j,j<k->eqR (b.rs.getD j (0,0)) (rl.getD j (0,0))=true) 0 kq ⟨a0s _,λj hj=>absurd hj (a0x j)⟩ (λk hk ih2=>?_);obtain ⟨hk,wz⟩:=hk;refine a1l<|V.q<|f9 110 (decide ((k:Int)<(b.rs.length:Int))) (λhc=>?_) (λhc=>?_)
    ·have GO:k<b.rs.length:=by simpa using hc
     refine V.t [] [(0:Int)<=k/\(k:Int)<b.rs.length,(0:Int)<=k/\(k:Int)<rl.length] ⟨⟨by omega,by omega⟩,by omega,by omega⟩<|f9 125 (!eqR (b.rs.getD k (0,0)) (rl.getD k (0,0))) (λhf=>?_) (λhf=>?_)
     ·rw [dX (0,0) GO (by omega) (by simpa using hf)] at Co;exact V.q<|V.s 2 (.one (.int .i64 221)) (.one (.int .i64 (R3 rl ⟨xs,xq,rl.length,xc⟩ pr rg))) (λ_=>by rw [Co]; rfl)<|V.z
     ·have Wz:∀ j,j<k+1->eqR (b.rs.getD j (0,0)) (rl.getD j (0,0))=true:=λj hj=>by
       by_cases e:j=k
       ·rw [e]; simpa using hf
       ·exact wz j (by omega)
      exact V.q<|a3v 11 k (by omega)<|d9 [1,6,11] [] (ih2 (k+1) ⟨by omega,Wz⟩ (by omega)) kq kq
    ·have GO:¬ k<b.rs.length:=by simpa using hc
     rw [aw (0,0) n8 (λj hj=>wz j (by omega))] at Co;exact V.q<|V.s 2 (.one (.int .i64 0)) (.one (.int .i64 (R3 rl ⟨xs,xq,rl.length,xc⟩ pr rg))) (λ_=>by rw [Co]; rfl)<|V.z
theorem Gg {rl:List (Int×Int)} {X:RIn} {pr rg:Int} {s:List In×List Int} (h:vdS rl X pr rg=some s):B2 rl X=some s:=by
 unfold vdS at h;split at h
 ·cases h
 ·split at h
  ·cases h
  ·rename_i s' e;split at h
   ·cases h; exact e
   ·cases h
def Ug (l:List (In×IA)) (q:Option Addr) (c:Nat) (j:HXI):St :=
 { n:=45,slots:=[(5,ov (.row 0 q l.length c)),(8,ov (.row 1 j.q j.l.length j.c)),(9,ov (.int .i64 (j.i:Int)))],gs:=[],
    heap:=[],next:=0,rows:=[(0,G7 l q c false),(1,d5 bsv 0 j.l j.q j.c 5 1 true)],nr:=2,pers:=[M6 l,j7],wr:=true,fx:=0 }
theorem Nh (rl:List (Int×Int)) (X:RIn) (hX:X.n=rl.length) (hl:rl.length<=1000000000) (hs:X.s.length<=1000000) (pr rg:Int) :
  CallsK a0a 38 [vN pr rg X] (z8 [j7,e8 (j1 rl X.q X.c)]) (λ_:Unit=>True) (λ_=>.tup [.one (.str (liA rl X pr rg).1),.one (.int .i64 (liA rl X pr rg).2)]) (λ_=>noF):=by
 obtain ⟨r,hr⟩:∃ r,vdS rl X pr rg=r:=⟨_,rfl⟩;have e:liA rl X pr rg=liO r:=by unfold liA; rw [hr]
 rw [e];refine a0j true Tryz.func38 fun ρ w=>V.q<|V.c [(1,false)] (Qi rl X hX hl pr rg) λ_ _=>V.q ?_;cases r with
 | none =>
  have hk:R3 rl X pr rg=221:=by unfold R3; rw [hr]
  exact m0 15 (R3 rl X pr rg != 0) true (by rw [hk]; rfl)<|V.q<|V.s 3 (.one (.int .i64 (R3 rl X pr rg))) (.one (.int .i64 221)) (λ_=>by rw [hk])<|V.z
 | some s =>
  obtain ⟨yy,M7⟩:=Al (by omega) hr;have ku:=Gg hr;have hk:R3 rl X pr rg=0:=by unfold R3; rw [hr]
  refine m0 15 (R3 rl X pr rg != 0) false (by rw [hk]; rfl)<|V.q<|V.callK [(1,false)] (Gc rl X hX hl (by omega) pr rg) kq kq kq (λt=>by cases t<;>kernel_rfl) (λt ht=>?_);rw [ku] at ht;obtain ⟨t',rfl,h1,h2⟩:=ht;obtain ⟨l,q,c,p,q',c'⟩:=t';obtain ⟨s1,s2⟩:=s;simp only at h1 h2 M7 yy;subst h1 h2;have n8:l.length<=1000000:=by have:=M7.2; rw [a1k] at this; omega
  have hx:∀ i,i<l.length->j2 (l.getD i ixD).1=true/\(l.getD i ixD).1.okL:=λi hi=>M7.1 _ (a1d.2 ⟨_,iM l hi,rfl⟩);refine V.q<|U9 bsv 0 8 5 1 kq kq<|Dc 0 true (M6 l) (I8 l)<|G2 2 true (G7 l q c false)<|G4 5 0 (G7 l q c false)<|j6 [5,8,9] [false,true,false,false,false,true] (λj:HXI=>l.length - j.i) (Ug l q c) (λj=>j.i<=l.length/\j.l=lsT ((l.take j.i).map (·.1))/\j.l.length<=200001*j.i) ⟨[],none,0,0⟩ kq ⟨a0s _,rfl,a0s _⟩ (λj hj ih=>?_);obtain ⟨b,bq,bc,i⟩:=j;obtain ⟨hi,Q5,eO⟩:=hj;simp only at hi Q5 eO;refine a1l<|V.q<|f9 26 (decide ((i:Int)<(l.length:Int))) (λhc=>?_) (λhc=>?_)
  ·have e9:i<l.length:=by simpa using hc
   have wN:=hx i e9;have wO:=ud wN.1;have gT:L0 (lsP (l.getD i ixD).1 (l.getD i ixD).2)∈l.map (λe:In×IA=>L0 (lsP e.1 e.2)):=a1d.2 ⟨_,iM l e9,rfl⟩;have WS:txA (l.getD i ixD).1=(lnT (l.getD i ixD).1,0):=by unfold txA; rw [wN.1]; rfl
   have hT:=FE (l.getD i ixD).1 (l.getD i ixD).2 wN.2.okM;rw [WS] at hT;refine V.t [] [(0:Int)<=i/\(i:Int)<l.length] ⟨by omega,by omega⟩<|w4 0 (l.map λe=>L0 (lsP e.1 e.2)) (L0 (lsP (l.getD i ixD).1 (l.getD i ixD).2)) kq gT (H9 (bx _ _))<|w4 0 (lsP (l.getD i ixD).1 (l.getD i ixD).2) (e8 (C7 (l.getD i ixD).1 (l.getD i ixD).2)) kq (a0f ..) (l7 _)<|w4 1 (lsP (l.getD i ixD).1 (l.getD i ixD).2) (e8 (C1 (l.getD i ixD).1 (l.getD i ixD).2)) kq (a0e _ (a0f ..)) (l7 _)<|w4 2 (lsP (l.getD i ixD).1 (l.getD i ixD).2) (e8 (E7 (l.getD i ixD).1 (l.getD i ixD).2)) kq (a0e _ (a0e _ (a0f ..))) (l7 _)<|V.c [(5,false),(2,false),(1,false),(0,false)] hT λ_ _=>V.q ?_;generalize hL:lnT (l.getD i ixD).1=L at wO;exact V.pushes bsv 0 b L 1 bq bc 5 1 L.length (λj=>[.int .u8 ((L.getD j 0).toNat:Int)]) 1 kq rfl (by omega) (λ_ _=>rfl) (λ_ _=>kq) λq2 c2=>V.q<|a6q bsv 0 (b++L) 10 2 q2 c2 5 1 [.int .u8 10] 1 kq (by rw [a0c]; omega) rfl (λ_ _=>kq) λq3 c3=>V.q<|a3v 9 i (by omega)<|d9 [5,8,9] [false,false,false,false,true,true] (ih ⟨(b++L)++[10],q3,c3,i+1⟩ ⟨e9,by simp only; rw [Q5,pR e9,hL,a1g],by simp only [a0c,a1j]; omega⟩ (by simp only; omega)) kq kq
  ·have B0:i=l.length:=by simp at hc; omega
   rw [B0,a1o] at Q5;refine V.q<|fX b 1 bq bc 5 true kq kq<|V.q ?_;subst Q5;exact V.z
end Go.Proofs
end
section
namespace Go.SX
open Go
section
variable {C:Ctx} {T TR:List Nat} {L:Nat} {c0:Cfg} {d:u7}
def Gh (c0:Cfg) (d:u7) (i:Nat) (v:RV):Option u7 :=
 match (G1 c0)[i]? with
 | some o=>match d.st.put o.dst v with
  | some s'=>some ⟨d.fuel - 1,d.listed.setIfInBounds i true,s'⟩
  | none=>none
 | none=>none
def Gi (c0:Cfg) (d:u7) (i:Nat) (v:RV):u7:=(Gh c0 d i v).getD d
theorem BX (i j r:Nat) (R:Row) (l:List UInt8) (hr:Region.ready .any (G1 c0) d.listed=[i,j]) (hf:Nat.blt 0 d.fuel=true) (hc:dm C.P ⟨[.inRegion (G1 c0) [i]],d.st⟩=some (r,R)) (hl:l.length=R.n) (hg:∀ i,i<R.n->R.get i=[.int .u8 ((l.getD i 0).toNat:Int)])
  (I9:(Gh c0 d i (.v (.one (.str l)))).isSome=true) (hm:(vb C.P c0 d j).isSome=true) (h1:VX C T TR L c0 (Gi c0 d i (.v (.one (.str l))))) (h2:VX C T TR L c0 (AR C.P c0 d j)):VX C T TR L c0 d:=by
 intro D hD a1 a2 a3 a4 a5 a6 hL D4 aT aTR e9 A9 ρ a w hS hρ ib N5 U4 C8;obtain ⟨n,dc⟩:∃ n,d.fuel=n+1:=⟨d.fuel - 1,by have:=X1 hf; omega⟩;have C3:∀ m,m∈Region.ready .any (G1 c0) d.listed↔m=i∨m=j:=by intro m; rw [hr]; simp
 rw [dc];refine E2 hr (by simp) (λm fS=>?_);rcases a0k.1 fS with rfl | fS
 ·obtain ⟨d2,N4⟩:=a2o.1 I9;have hY:Gi c0 d m (.v (.one (.str l)))=d2:=by unfold Gi; rw [N4]; rfl
  rw [hY] at h1;unfold Gh at N4;split at N4
  case h_2=>cases N4
  rename_i o ho;split at N4
  case h_2=>cases N4
  rename_i s' o9;cases N4;have hW:=N8 o9;have J7:D.rows s':=⟨λr R hR=>by rw [show s'.rows=d.st.rows from congrArg WF.rows hW]; exact A9.1 r R hR,by rw [hW]; exact A9.2⟩;have hk:=h1 D hD a1 a2 a3 a4 a5 a6 hL D4 aT aTR e9 J7 ρ _ w (hS.put o9 trivial (λg pol b x e=>by cases e)) hρ (by show D.n0<=s'.next; rw [J9 o9]; exact ib) N5 (U4.set ((C3 m).2 (.inl rfl))) (by simpa using C8);simp only [dc,a3x] at hk;unfold dm at hc;simp only [ho] at hc;split at hc
  case h_2=>cases hc
  rename_i Qn;split at hc
  case h_2=>cases hc
  rename_i src dst x f7;split at hc
  case h_2=>cases hc
  rename_i e r' q n' cap h1 h2 qa;split at hc
  case h_2=>cases hc
  rename_i R' he hR;split at hc
  case h_2=>cases hc
  rename_i iV;cases hc;obtain ⟨e1,hr,iQ⟩:=d7 hS.toP (j9 d.st) qa;obtain ⟨rfl,rfl,rfl⟩:=iQ R hR;have hb:=kL (P:=C.P) (hS.rows r R hR).2.1 ((d6 _ _).1 iV) hl hg;have Ax:(execOp a.eval o).run C.P w=.ok (.value ((RV.v (.one (.str l))).den ρ)) w:=by
   have:(convert src dst (.slice R.s R.n R.cap)).run C.P w=.ok (.string ⟨l.toArray⟩) w:=by
    rw [run_convert_bytes_string w src dst e _ _ _ h1 he h2]; exact hb
   unfold execOp;rw [f7];refine H1 ?_;rw [e1];exact this
  unfold wpOp;simp only [ho,D5 hS Qn,if_true];refine .inl ?_;unfold Oper.wp;rw [Ax];exact ⟨λ_=>N5,hk⟩
 ·have UX:m=j:=by simpa using fS
  subst UX;obtain ⟨d2,N4⟩:=a2o.1 hm;have hY:AR C.P c0 d m=d2:=by unfold AR; rw [N4]; rfl
  rw [hY] at h2;unfold vb at N4;split at N4
  case h_2=>cases N4
  rename_i o f7;split at N4
  case h_2=>cases N4
  rename_i v s1 hg gT;split at N4
  case h_2=>cases N4
  rename_i s' o9;cases N4;obtain ⟨k1,k2,k3⟩:=iq gT;obtain ⟨ρ',w2,e1,e2,e3,e4,e5,e6,e7⟩:=bK hS (j9 d.st) o gT;have fR:Chg D.TS D.ws w2:=N5.trans e7 (λi hi=>hi.elim);have hW:=N8 o9;have J7:D.rows s':=by
   refine ⟨λr R hR=>?_,?_⟩
   ·rw [show s'.rows=s1.rows from congrArg WF.rows hW,k1]; exact A9.1 r R hR
   ·rw [hW];exact A9.2.trans' ⟨k3,Nat.le_of_eq k2.symm,λr _ R hR=>by
     have G8:look s1.rows r=some R:=hR;rw [k1] at G8; exact G8⟩
  unfold wpOp;simp only [f7,D5 hS hg,if_true];refine .inl ?_;unfold Oper.wp;rw [e1];have:=h2 D hD a1 a2 a3 a4 a5 a6 hL D4 aT aTR e9 J7 ρ' _ w2 (e2.put o9 e3 (λg pol c x e=>absurd e (e4 g pol c x))) (λb hb=>(e5 b (by omega)).trans (hρ b hb)) (by show D.n0<=s'.next; rw [J9 o9]; omega) fR (U4.set ((C3 m).2 (.inr rfl))) (by simpa using C8);simp only [dc,a3x] at this;exact ⟨λ_=>fR,this⟩
end
end Go.SX
end
section
namespace Go.Proofs
open Go Go.SX
def Uh (pr rg:Int) (t:List UInt8) (ws:List (List UInt8)) (y:Option Addr×Nat) (j:CMI):St :=
 { n:=87,slots:=[(0,ov (.int .i64 pr)),(1,ov (.int .i64 rg)),(6,ov (.ptr 0 0)),(9,ov (.row 2 y.1 ws.length y.2)),(10,ov (.ptr 1 0)),(11,ov (.int .i64 (j.i:Int)))],gs:=[],
    heap:=[(0,⟨[.int .i64 0,.int .i64 0,.str [],.val (.slice none 0 0)],49,true⟩),(1,⟨[.row 0 j.b.q j.b.bs.length j.b.c,.row 1 j.b.q2 j.b.rs.length j.b.c2],129,true⟩)],next:=2,
    rows:=[(0,d5 bsv 0 j.b.bs j.b.q j.b.c 5 1 true),(1,d5 rlv (0,0) j.b.rs j.b.q2 j.b.c2 62 2 true),(2,d5 z7 [] ws y.1 y.2 9 1 false)],nr:=3,pers:=[j7],wr:=true,fx:=0 }
theorem At (pr rg:Int) (a:List UInt8×List (Int×Int)) (q:Option Addr) (c:Nat):(R3 a.2 ⟨a.1,q,a.2.length,c⟩ pr rg=0/\asW pr rg a=((pr,rg,a.1,a.2),0,0))∨(R3 a.2 ⟨a.1,q,a.2.length,c⟩ pr rg=221/\asW pr rg a=asF 0 221):=by
 unfold R3 asW;rw [Kz a.2 ⟨a.1,q,a.2.length,c⟩];show ((match vdS a.2 (xIn a.1) pr rg with | none=>(221:Int) | some _=>0)=0/\_)∨((match vdS a.2 (xIn a.1) pr rg with | none=>(221:Int) | some _=>0)=221/\_);cases vdS a.2 (xIn a.1) pr rg with
 | none=>exact .inr ⟨rfl,rfl⟩
 | some s=>exact .inl ⟨rfl,rfl⟩
theorem Ni {pr rg:Int} {a:List UInt8×List (Int×Int)} {q:Option Addr} {c:Nat} (h:R3 a.2 ⟨a.1,q,a.2.length,c⟩ pr rg=0):asW pr rg a=((pr,rg,a.1,a.2),0,0):=by
 rcases At pr rg a q c with h1 | h1
 ·exact h1.2
 ·rw [h] at h1; cases h1.1
theorem Gj {pr rg:Int} {a:List UInt8×List (Int×Int)} {q:Option Addr} {c:Nat} (h:¬ R3 a.2 ⟨a.1,q,a.2.length,c⟩ pr rg=0):R3 a.2 ⟨a.1,q,a.2.length,c⟩ pr rg=221/\asW pr rg a=asF 0 221:=by
 rcases At pr rg a q c with h1 | h1
 ·exact absurd h1.1 h
 ·exact h1
theorem Au:∀ (ws:List (List UInt8)) (l:List In) (n:Nat),(asG ws l n).1.length+n<=l.length+n+ws.length
 | [],l,n=>by show l.length+n<=_; omega
 | [w],l,n=>by show l.length+n<=_; omega
 | w::v::r,l,n=>by
  rw [asG];split
  ·show l.length+n<=_; omega
  ·rename_i x _;have:=Au (v::r) (l++[x]) (n+1);simp only [a0c,a0p,a1r] at this ⊢;omega
theorem Qj (pr rg:Int) (t:List UInt8) (ht:t.length<=1000000) :
  CallsK a0a 40 [.one (.int .i64 pr),.one (.int .i64 rg),.one (.str t)] H0 (λ_:Option Addr×Nat=>True) (λqc=>.tup [moV (asA pr rg t).1 qc,.one (.int .i64 (asA pr rg t).2.1),.one (.int .i64 (asA pr rg t).2.2)]) (λqc=>z8 [e8 (j1 (asA pr rg t).1.2.2.2 qc.1 qc.2)]):=by
 obtain ⟨an,GY⟩:∃ an,asA pr rg t=an:=⟨_,rfl⟩;rw [GY];have Cn:(d4 10 t).length<=1000001:=a0n (I1 10 t) (by omega);have yJ:∀ w∈d4 10 t,w.length<=1000000:=λw hw=>a0n (L4 10 t w hw) ht;have Cj:0<(d4 10 t).length:=List.length_pos_iff.2 (cK 10 t);refine a0j true Tryz.func40 fun ρ w=>V.t [⟨aIn,[]⟩] [] trivial<|f9 28 (Jf (xIn t) pr rg) (λhb=>?_) (λhb=>?_)
 ·have e:an=asF 0 1:=by rw [<- GY]; unfold asA; rw [<- np,hb]; rfl
  subst e;exact V.q<|a6f 0<|vpn (j1 [] none 0)<|V.e ((none,0):Option Addr×Nat) [(0,true)] trivial
 rw [np] at hb;have JE:vdB (xIn t) pr rg=false:=hb;refine V.q<|V.c [] (tX t 10 (by omega)) (λy _=>?_);generalize hws:d4 10 t=ws at Cn yJ Cj;refine G2 0 true (d5 z7 [] ws y.1 y.2 9 1 false)<|V.q<|G4 9 0 (d5 z7 [] ws y.1 y.2 9 1 false)<|H6 bsv 0 1 0 ⟨[.val (.slice none 0 0),.val (.slice none 0 0)],129,true⟩ 5 1 kq rfl<|H6 rlv (0,0) 1 1 ⟨[.row 1 none 0 0,.val (.slice none 0 0)],129,true⟩ 62 2 kq rfl<|j6 [0,1,6,9,10,11] [false,false,true] (λj:CMI=>ws.length - j.i) (Uh pr rg t ws y) (λj=>j.i<ws.length/\∃ l:List In,(j.b.bs,j.b.rs)=mdS l/\l.length=j.i/\(∀ x∈l,j2 x=true)/\asG ws [] 0=asG (ws.drop j.i) l j.i) ⟨w0,0⟩ kq ⟨Cj,[],rfl,rfl,λx hx=>absurd hx (a1a),rfl⟩ (λj hj ih=>?_);obtain ⟨b,i⟩:=j;obtain ⟨hi,l,o9,cZ,M7,GV⟩:=hj;simp only at hi o9 cZ GV;have yy:=gA l M7;rw [<- o9] at yy;simp only at yy;have yI:a0h.wrap ((ws.length:Int) - 1)=((ws.length - 1:Nat):Int):=by
  simp [a1s,a1t,a1p];omega
 refine a1l<|V.q<|f9 38 (decide ((i:Int)<a0h.wrap ((ws.length:Int) - 1))) (λhc=>?_) (λhc=>?_)
 ·have e9:i<ws.length - 1:=by have:=of_decide_eq_true hc; rw [yI] at this; omega
  have QC:ws.drop i=ws.getD i []::ws.getD (i+1) []::ws.drop (i+2):=by
   rw [a2k hi,a2k (show i+1<ws.length by omega),a0r,a0b hi,a0r,a0b (show i+1<ws.length by omega)];rfl
  have Ve:ws.drop (i+1)=ws.getD (i+1) []::ws.drop (i+2):=by
   rw [a2k (show i+1<ws.length by omega),a0r,a0b (show i+1<ws.length by omega)];rfl
  have NY:=gM yJ i;rw [QC,asG] at GV;have hP:=Ja (ws.getD i []) NY;refine V.t [] [(0:Int)<=i/\(i:Int)<ws.length] ⟨by omega,by omega⟩ ?_;cases hr:A8 (d4 32 (ws.getD i [])) with
  | none =>
   have hp:prA (ws.getD i [])=(C2,222):=by unfold prA; rw [hr]; rfl
   rw [hp] at hP;rw [hr] at GV;have e:an=asF (i:Int) 222:=by rw [<- GY]; unfold asA; rw [JE,hws,GV]; rfl
   refine V.c [(0,false)] hP λy2 NS=>V.q<|m0 50 ((222:Int) != 0) true rfl<|V.q ?_;subst e;exact a6f 0<|vpn (j1 [] none 0)<|V.e ((none,0):Option Addr×Nat) [(0,true)] trivial
  | some x =>
   have hp:prA (ws.getD i [])=(x,0):=by unfold prA; rw [hr]; rfl
   rw [hp] at hP;rw [hr] at GV;simp only at GV;obtain ⟨o,_,_,Cp,_⟩:=gD hr;refine V.c [(0,false)] hP (λy2 NS=>?_);obtain ⟨x2,A2⟩:=y2;have ns:x2=x:=NS.1;subst ns;exact V.q<|m0 50 ((0:Int) != 0) false rfl<|V.q<|V.c [(0,true),(1,true),(2,true)] (Kv x2 A2 b Cp (by omega) (by omega)) λb2 eO=>V.q<|a3v 11 i (by omega)<|d9 [0,1,6,9,10,11] [false,false,false,true] (ih ⟨b2,i+1⟩ ⟨by simp only; omega,l++[x2],by rw [<- Gb l Cp,<- o9]; exact eO,by simp [cZ],λz hz=>by
    rcases a2s.1 hz with hz | hz
    ·exact M7 z hz
    ·rw [a0d.1 hz]; exact Cp,by simp only; rw [Ve]; exact GV⟩ (by simp only; omega)) kq kq
 ·have NV:i=ws.length - 1:=by have:=of_decide_eq_false hc; rw [yI] at this; omega
  have QC:ws.drop i=[ws.getD i []]:=by
   rw [a2k hi,a0r,a0b hi,List.drop_eq_nil_of_le (by omega)];rfl
  rw [QC,asG] at GV;refine V.t [] [(0:Int)<=a0h.wrap ((ws.length:Int) - 1)/\a0h.wrap ((ws.length:Int) - 1)<ws.length] (by rw [yI]; exact ⟨by omega,by omega⟩)<|f9 63 (!(ws.getD (a0h.wrap ((ws.length:Int) - 1)).toNat []==([]:List UInt8))) (λhd=>?_) (λhd=>?_)
  ·rw [yI,a1h,<- NV] at hd;have N4:(ws.getD i []==[])=false:=by simpa using hd
   have e:an=asF (a0h.wrap ((ws.length:Int) - 1)) 222:=by rw [<- GY]; unfold asA; rw [JE,hws,GV,yI,<- NV]; simp only [N4]; rfl
   refine V.q ?_;subst e;exact a6f 0<|vpn (j1 [] none 0)<|V.e ((none,0):Option Addr×Nat) [(0,true)] trivial
  ·rw [yI,a1h,<- NV] at hd;have N4:(ws.getD i []==[])=true:=by simpa using hd
   have e:an=asW pr rg (mdS l):=by rw [<- GY]; unfold asA; rw [JE,hws,GV]; simp only [N4]; rfl
   have Q5:b.bs=(mdS l).1:=congrArg Prod.fst o9;have eO:b.rs=(mdS l).2:=congrArg Prod.snd o9;obtain ⟨bs,bq,bc,rs,bq2,bc2⟩:=b;simp only at Q5 eO yy;subst Q5 eO;refine V.q<|p9 [] [] 13 kq<|@a1z _ [] [] 13 _ _ ([]:List (Ent a0a)) [] kq kq trivial<|@BX _ [] [] 13 _ _ 6 12 0 (d5 bsv 0 (mdS l).1 bq bc 5 1 true) (mdS l).1 kq kq kq rfl (λ_ _=>rfl) kq kq ?_ ?_
   rotate_left
   refine @a1z _ [] [] 13 _ _ ([]:List (Ent a0a)) [] kq kq trivial<|@VX.bytes _ [] [] 13 _ _ 0 (d5 bsv 0 (mdS l).1 bq bc 5 1 true) (mdS l).1 kq rfl (λ_ _=>rfl) kq ?_
   all_goals
    refine @a1z _ [] [] 13 _ _ ([]:List (Ent a0a)) [] kq kq trivial<|@o7 _ [] [] 13 _ _ kq<|V.q<|a3a 1 (d5 rlv (0,0) (mdS l).2 bq2 bc2 62 2 true) kq kq<|V.c [(0,true)] (Qi (mdS l).2 ⟨(mdS l).1,bq2,(mdS l).2.length,bc2⟩ rfl (by omega) pr rg) λ_ _=>V.q ?_;by_cases hz:R3 (mdS l).2 ⟨(mdS l).1,bq2,(mdS l).2.length,bc2⟩ pr rg=0
    ·have e2:an=((pr,rg,(mdS l).1,(mdS l).2),0,0):=e.trans (Ni hz);subst e2;exact m0 83 (R3 (mdS l).2 ⟨(mdS l).1,bq2,(mdS l).2.length,bc2⟩ pr rg != 0) false (by rw [hz]; rfl)<|V.q<|V.e ((bq2,bc2):Option Addr×Nat) [(0,true)] trivial
    ·have e2:an=asF 0 221:=e.trans (Gj hz).2;have Rj:=(Gj hz).1;subst e2;exact m0 83 (R3 (mdS l).2 ⟨(mdS l).1,bq2,(mdS l).2.length,bc2⟩ pr rg != 0) true (by rw [Rj]; rfl)<|V.q<|V.s 8 (.one (.int .i64 (R3 (mdS l).2 ⟨(mdS l).1,bq2,(mdS l).2.length,bc2⟩ pr rg))) (.one (.int .i64 221)) (λ_=>by rw [Rj])<|a6f 0<|vpn (j1 [] none 0)<|V.e ((none,0):Option Addr×Nat) [(0,true)] trivial
theorem Jk (pr rg:Int) (t:List UInt8) (ht:t.length<=20000):(asA pr rg t).1.2.2.2.length<=1000000000:=by
 unfold asA;cases vdB (xIn t) pr rg with
 | true=>exact a0s _
 | false =>
  cases (asG (d4 10 t) [] 0).2.2 with
  | false=>exact a0s _
  | true =>
   show (asW pr rg (mdS (asG (d4 10 t) [] 0).1)).1.2.2.2.length<=_;unfold asW;split
   ·have h1:=gA (asG (d4 10 t) [] 0).1 (wk _ _ _ (λx hx=>absurd hx (a1a)));have h2:=Au (d4 10 t) [] 0;have h3:=I1 10 t;simp only [a1r] at h2;show (mdS (asG (d4 10 t) [] 0).1).2.length<=_;omega
   ·exact a0s _
theorem BY (rl:List (Int×Int)) (X:RIn) (hX:X.n=rl.length) (pr rg pc rc:Int) (t:List UInt8) :
  CallsK a0a 8 [vN pr rg X,.one (.int .i64 pc),.one (.int .i64 rc),.one (.str t)] (z8 [j7,e8 (j1 rl X.q X.c)]) (λ_:Unit=>True) (λ_=>ov (.sb true)) (λ_=>noF):=by
 refine a0j true Tryz.func8 fun ρ w=>V.q<|V.c [(0,false)] PS λ_ _=>V.q<|m0 20 (!true) false rfl<|V.t [(⟨MZ,[]⟩:Ent a0a)] [] trivial<|f9 28 (!(decide ((X.s.length:Int)<=20000)&&decide ((X.n:Int)<=4000))||decide ((t.length:Int)>20000)) (λhh=>?_) (λhh=>?_)
 ·exact V.q<|V.sb 8 true<|V.z
 simp only [a2r,a5x,a0g,decide_eq_true_eq,decide_eq_false_iff_not] at hh;have hs:X.s.length<=20000:=by omega
 have hl:rl.length<=4000:=by omega
 have ht:t.length<=20000:=by omega
 have Qm:=Jk pc rc t ht;exact V.q<|V.c [(0,false),(1,false)] (FT rl X hX (by omega) (by omega) pr rg) λ_ _=>V.q<|V.c [(0,false),(1,false)] (Nh rl X hX (by omega) (by omega) pr rg) λ_ _=>V.q<|V.c [(0,false)] (PW pc rc t (by omega)) λqc _=>V.q<|V.c [(1,false)] (Qj pc rc t (by omega)) λqd _=>V.q<|K8 63 true ((liA rl X pr rg).1==(liA rl X pr rg).1&&(liA rl X pr rg).2==(liA rl X pr rg).2) kq (by rw [beq_self_eq_true,beq_self_eq_true]; rfl)<|V.c [(1,true),(0,true)] (FZ (asA pc rc t).1.1 (asA pc rc t).1.2.1 (asA pc rc t).1.2.2.1 (asA pc rc t).1.2.2.2 qc.1 qd.1 qc.2 qd.2 Qm) λ_ _=>V.q<|V.s 8 (.one (.sb ((true&&(asA pc rc t).2.1==(asA pc rc t).2.1)&&(asA pc rc t).2.2==(asA pc rc t).2.2))) (.one (.sb true)) (λ_=>by simp)<|V.z
end Go.Proofs
end
section
namespace Go.Proofs.YteinbljapojcgaaGreatDoor
open Go
theorem kn0:(Rows.codeListingsRow.wf (OpenSpec.ofChange Rows.codeListingsSpec))=true:=kq
theorem kn1:(laidOutB a0a)=true:=kq
theorem kn2:(mapsRowed a0a)=true:=kq
theorem kn3:(a3j.params.all (a0a.readableRec ·))=true:=kq
theorem kn4:(namedTie a0a Rows.codeListingsRow.named Rows.codeListingsSpec.vars)=true:=kq
theorem kn5:((Rows.codeListingsRow.stops==[]))=true:=kq
theorem kn6:((a0a.stops==[]))=true:=kq
theorem kn7:((Rows.codeListingsRow.knobs==[]))=true:=kq
theorem kn8:((a0a.stopKnobs==[]))=true:=kq
theorem kn9:((Rows.codeListingsRow.inPlace==a0a.inPlace 8))=true:=kq
theorem Ui:((Rows.codeListingsRow.unfollowed==a0a.unfollowed 8))=true:=kq
theorem Uj:((Rows.codeListingsRow.recurses==a0a.recurses 8))=true:=kq
theorem Uk:((Rows.codeListingsRow.named==a0a.varsNamed 8))=true:=kq
theorem Ul:((Rows.codeListingsRow.maps==(a3j.params.toList++Rows.codeListingsSpec.plain.varTypes a0a).any (a0a.mapsRec ·)))=true:=kq
theorem Um:((Rows.codeListingsRow.ifaces==(a3j.params.toList++Rows.codeListingsSpec.plain.varTypes a0a).any (a0a.ifacesRec ·)))=true:=kq
theorem Un:((Rows.codeListingsRow.mapsOut==a0a.mapsAmong a3j.resultTypes.toList))=true:=kq
theorem Uo:((Rows.codeListingsRow.loops==(a3j.params.toList++Rows.codeListingsSpec.plain.varTypes a0a).any (a0a.loopsFrom ·)))=true:=kq
theorem Up:((Rows.codeListingsRow.wideKeys==(a3j.params.toList++Rows.codeListingsSpec.plain.varTypes a0a++a3j.resultTypes.toList).any (a0a.wideKeysFrom ·)))=true:=kq
theorem Uq:(Rows.codeListingsSpec.vars.all (a0a.varReadable ·))=true:=kq
theorem Ur:(a3j.resultTypes.all (λt=>a0a.readableRec t&&decide (t<a0a.types.size)))=true:=kq
theorem Us:((Rows.codeListingsRow.ifacesOut==a3j.resultTypes.toList.any (a0a.ifacesRec ·)))=true:=kq
theorem Ut:((Rows.codeListingsRow.loopsOut==a3j.resultTypes.toList.any (a0a.loopsFrom ·)))=true:=kq
theorem Uu:((Rows.codeListingsRow.plainKeys==a0a.plainKeys))=true:=kq
theorem Uv:(Rows.codeListingsRow.shortTexts.isNone)=true:=kq
theorem Uw:(a0a.stopsHeard)=true:=kq
theorem Ux:(a0a.mayEnter)=true:=kq
theorem Uy:((Rows.codeListingsRow.lifted==a0a.liftsFinal))=true:=kq
theorem Uz:((a0a.make==some Rows.codeListingsRow.make))=true:=kq
theorem UA:((Rows.codeListingsRow.kinds==(if Rows.codeListingsRow.domain.isEmpty then [] else a3j.params.toList.map λt=>match a0a.underlying t with | some (.int k)=>some k | _=>none)))=true:=kq
theorem UB:((Rows.codeListingsRow.pinned==Rows.codeListingsRow.pinnedBy))=true:=kq
theorem UC:((Rows.codeListingsRow.veiled==(a3j.params.toList++Rows.codeListingsSpec.plain.varTypes a0a++a3j.resultTypes.toList).any (a0a.veiledRec ·)))=true:=kq
theorem UD:(Rows.codeListingsRow.veiledFits a0a a3j.params.toList (a3j.params.toList++Rows.codeListingsSpec.plain.varTypes a0a++a3j.resultTypes.toList))=true:=kq
theorem S7 {a b:Bool} (ha:a=true) (hb:b=true):(a&&b)=true:=by rw [ha,hb]; rfl
theorem gS:joinedFacts a0a 8 a3j Rows.codeListingsSpec Rows.codeListingsRow=true:=by
 unfold joinedFacts;exact S7 (S7 (S7 (S7 (S7 (S7 (S7 (S7 (S7 (S7 (S7 (S7 (S7 (S7 (S7 (S7 (S7 (S7 (S7 (S7 (S7 (S7 (S7 (S7 (S7 (S7 (S7 (S7 (S7 (S7 (S7 (kn0) kn1) kn2) kn3) kn4) kn5) kn6) kn7) kn8) kn9) Ui) Uj) Uk) Ul) Um) Un) Uo) Up) Uq) Ur) Us) Ut) Uu) Uv) Uw) Ux) Uy) Uz) UA) UB) UC) UD
theorem eC:a0a.funcNamed "pliant/pliantlaw22.CodeListings" = some 8:=kq
theorem ka:a3j.isInstance a0a Rows.codeListingsRow.origin Rows.codeListingsRow.targs:=of_decide_eq_true kq
theorem kb:a3j.isWrapper a0a Rows.codeListingsRow.wrapper Rows.codeListingsRow.mainSum:=by
 unfold Func.isWrapper
 first | (rw [if_pos (by decide +kernel)]; kernel_rfl) | (rw [if_neg (by decide +kernel)]; exact ⟨rfl,rfl⟩)
theorem iN:true=a0a.looks []:=kq
theorem kc:false=Rows.codeListingsRow.goesBy a0a:=kq
theorem lH:Rows.codeListingsRow.wfByText (OpenSpec.ofChange Rows.codeListingsSpec)=true:=kq
theorem ke:a0a.mainIs=some (true,"8a234a80a232a3bf12a1f1e0dffb9d9eab25744cd05c38bdd5c3d3d044cc81c8".toList):=kq
theorem iO:([49,3,3,9].all λu=>!a0a.wantsStandIn u)=true:=kq
theorem lI:a3j.params=#[49,3,3,9]:=kq
end Go.Proofs.YteinbljapojcgaaGreatDoor
end
section
namespace Go.Proofs.YteinbljapojcgaaGreatDoor
open Go
theorem iP (lifted:∀ os:Os,os.Started->∀ (H:Type) (enc:TypeId×Value->H),ReturnsInHanded {} Tryz.checked os 8 .any (λw args=>(Rows.codeListingsSpec.pre enc a0a a3j [] false w args/\laidMetH a0a Rows.codeListingsRow.laid w)/\sizedMet enc a0a a3j (OpenSpec.ofChange Rows.codeListingsSpec) false w args)
   (Rows.codeListingsSpec.post enc a0a a3j false true false false)):Rows.CodeListingsSaid :=
 OpenClaim.holds_of_wide 8 a3j rfl rfl rfl rfl rfl rfl rfl ⟨rfl,rfl,rfl,rfl,rfl⟩ rfl rfl rfl rfl rfl eC Tryz.func8 gS ka kb (λos started H enc _=>lifted os started H enc)
theorem kf (hh:Rows.CodeListingsSaid):Rows.CodeListingsCardSaid :=
 Claim7.holds_tied_plain_at .later [] [.data,.data,.data,.data,.sentinel,.sentinel,.listed,.data,.pinned,.pinned] true (true,"8a234a80a232a3bf12a1f1e0dffb9d9eab25744cd05c38bdd5c3d3d044cc81c8") true hh (λ_ h=>by cases h) lH (λ_ h=>by cases h) codeListings_row_tie rfl ⟨rfl,rfl⟩ ke rfl
  (λf fn hf qe=>by
   obtain rfl:f=8:=a2h (eC.symm.trans hf) |>.symm;obtain rfl:fn=a3j:=(a2h (Tryz.func8.symm.trans qe)).symm;exact ⟨iN,λj t ht=>by
    rw [lI] at ht;have hm:t∈[49,3,3,9]:=by simpa using Array.mem_of_getElem? ht
    exact (show a0a.wantsStandIn t=false by simpa using a0y.1 iO t hm)⟩)
  kc
end Go.Proofs.YteinbljapojcgaaGreatDoor
end
section
namespace Go.Proofs.YteinbljapojcgaaGreatDoor
open Go Go.SX Go.ChangeShapes Go.WideShapes Go.ChangeAt Go.RowKit Go.ChangeMaps
theorem UE:ownKnob a0a.godebug=none:=kq
theorem BZ {ps:List m6} {w:World} (h:∀ p∈ps,rH p w/\dE p):C9 ps w:=λp hp =>
 ⟨(h p hp).1.1,λw' hk=>(h p hp).2 w w' hk (h p hp).1.1,(h p hp).1.2⟩
theorem wy (os:Os) (args:Array Value):((World.laidAll a0a os mo).forCall (λ_ _=>0) ⟨#[],args,[]⟩).Shaped a0a:=World.shaped_of_ZipB kq kq
theorem Gk (os:Os) (args:Array Value):laidMetH a0a mo ((World.laidAll a0a os mo).forCall (λ_ _=>0) ⟨#[],args,[]⟩).memory:=by
 rw [MakeChecks.laidMetH_plain _ _ _ kq];exact laidMet_laidAll _ kq kq
theorem mA (os:Os) (started:os.Started) (H:Type) (enc:TypeId×Value->H) :
  ReturnsInHanded {} Tryz.checked os 8 .any (λw args=>(Rows.codeListingsSpec.pre enc a0a a3j [] false w args/\laidMetH a0a mo w)/\sizedMet enc a0a a3j (OpenSpec.ofChange Rows.codeListingsSpec) false w args)
   (Rows.codeListingsSpec.post enc a0a a3j false true false false):=by
 refine tG (C:=Tryz.checked) (X:=λw _=>laidMetH a0a mo w) (λ_ _ _ hh h=>h.of_heap hh) UE started kq Tryz.func8
  (ChangeSpec.witness_shaped (enc:=enc) (C:=Tryz.checked) (os:=os) (X:=λw _=>laidMetH a0a mo w) false (World.laidAll a0a os mo) #[.agg #[.int .i64 0,.int .i64 0,.string ⟨#[]⟩,.slice none 0 0],.int .i64 0,.int .i64 0,.string ⟨#[]⟩] 8 (World.laidAll_os _ _ _)
   (wy os _) kq kq kq (Gk os _)) ?_
 intro W base args ds gs before Qo hW hL eF;have gU:∀ (j:Nat) t v,a3j.params[j]?=some t->args[j]?=some v->Value.okWide a0a W .any base t v:=Qo;have WY:=hW;obtain ⟨p,q,VH,hV,rfl,_,_⟩:=hW;have hA:DataW.TrodAll enc a0a W 0 (λ_=>true) true a3j.params.toList args.toList ds p:=VH;have Re:a3j.params=#[49,3,3,9]:=kq;rw [Re] at hA gU;obtain ⟨v0,v1,v2,v3,d0,d1,d2,d3,p0,p1,p2,p3,rfl,rfl,rfl,h0,h1,h2,h3⟩:=trodAll_four hA;obtain ⟨rfl,rfl⟩:=trodVars_none hV;obtain ⟨rl,X,pr,rg,rfl,hX,_,_,KQ⟩:=EP (gU 0 49 v0 rfl rfl) h0;obtain ⟨n,rfl,_,_,_⟩:=open_int a3g (gU 1 3 v1 rfl rfl) h1;obtain ⟨m,rfl,_,_,_⟩:=open_int a3g (gU 2 3 v2 rfl rfl) h2;obtain ⟨s,rfl,_,_,_⟩:=open_string Tryz.underlying9 (gU 3 9 v3 rfl rfl) h3;have hP:C9 [j7,e8 (j1 rl X.q X.c)] W:=BZ (λp hp=>by
  rcases a0k.1 hp with rfl | hp
  ·exact ⟨vU hL eF,rC⟩
  ·rw [a0d.1 hp];exact ⟨KQ,l7 _⟩)
 refine (CallsK.gives (BY rl X hX pr rg n m s.data.toList) ⟨rfl,rfl,rfl⟩ (λ_ _=>rfl) (λ_=>0) W hP).mono λe W' ⟨he,hc⟩=>?_;subst he;exact ⟨_,rfl,BC rfl kq (by rw [Re]; exact λt ht=>of_decide_eq_true (a0y.1 (show ([49,3,3,9].all λu=>decide (u<a0a.types.size))=true by kernel_rfl) t ht)) WY rfl hc⟩
theorem listings_card_holds:Rows.CodeListingsCardSaid:=kf (iP (λos started H enc=>mA os started H enc))
end Go.Proofs.YteinbljapojcgaaGreatDoor
end
