/- A symbolic run of the program that Lean checks, and what the functions of the program come to by it: part 4 of 6. -/
import Derived.Lib.ItoaLen
import Derived.Test.YteinbljapojcgaaGreatDoorLAC
set_option linter.unusedVariables false
set_option maxHeartbeats 4000000
set_option maxRecDepth 10000
open Bool renaming and_eq_true->a0g,true_and->a5a,false_and->a6r,or_eq_true->a3w
open Go.IntKind renaming i64->a0h,u8->a1x,wrap->a1s,bits->a1t,signed->a1p
open Go.Lib renaming itoa->a0i,itoa_length_le->a2e,joinTail->a4w,join->a1u,join_cons->a6y,hasPrefix->a2d,hasSuffix->a3k,trimPrefix->a0o,trimSuffix->a6w,cut->a3d,fields->a6m
open Go.Proofs.Fm renaming cells->a5f
open Go.Proofs.Sel renaming get->a0u,set->a1i,blk->a4y
open Go.Proofs.Tryz renaming prog->a0a
open Go.Proofs.Ty renaming cells->a5g
open Go.Proofs.m7 renaming get->a3l,set->a4q
open Go.Proofs.m8 renaming set->a6z,get->a5i
open Go.SX.CallsK renaming m->a0j
open Go.SX.SV renaming den->a4m
open Go.SX.V renaming iter->a1l,push->a6q,up->a3v,sb->a4o,soft->a6f,freeze->a3a,runM->a5w
open Go.SX.VX renaming run->a1z,push->a6s,callK->a5u
open List renaming mem_singleton->a0d,mem_cons->a0k,mem_cons_of_mem->a0e,mem_cons_self->a0f,length_append->a0c,length_cons->a0p,length_nil->a1r,length_map->a1k,length_take->a2b,take_add_one->a2c,getElem?_eq_getElem->a0b,map_append->a2x,getD->a0r,take_length->a1o,mem_map->a1d,all_eq_true->a0y,mem_of_getElem?->a0v,drop_eq_getElem_cons->a2k,length_singleton->a1j,not_mem_nil->a1a,range->a2f,mem_range->a3f,mem_append->a2s,map_cons->a3h,map_map->a3q,map_congr_left->a2g,mem_append_left->a1w,getElem?_map->a2t,foldl_append->a4r,mem_of_mem_take->a5l,getElem_mem->a5b
open Nat renaming zero_le->a0s,le_trans->a0n,le_refl->a0q,add_sub_cancel->a3x,le_add_right->a0m,sub_zero->a3e
open Option renaming getD_some->a1e,isSome_iff_exists->a2o,map_eq_some_iff->a1y
open Option.some renaming injEq->a0l,inj->a2h
open Prod.mk renaming injEq->a1f
open UInt8 renaming ofNat->a1c
noncomputable section
section
namespace Go.Proofs
open Go Go.SX
def DR:Con a0a:=r6 Tryz.func156 true [⟨ai,[0]⟩] [j7] kq kq
def rgT (n:Int):List UInt8:=bif decide (n<0) then [45] else [114]++a0i n
theorem sZ {n:Int} (h0:-9223372036854775808<=n) (h1:n<=9223372036854775807):(rgT n).length<=22:=by
 have:=a2e n h0 h1;unfold rgT;cases decide (n<0)<;>simp; omega
def DS:Con a0a:=DR.as (λxs=>match xs with
  | [.one (.int .i64 n)]=>some (.v (.one (.str (rgT n))),[inK .i64 n])
  | _=>none) (by
 intro xs v ob h q8;split at h
 ·rename_i n;simp only [a0l,a1f] at h;obtain ⟨rfl,rfl⟩:=h;have hs:=q8 _ (a0d.2 rfl);refine ⟨.v (.one (.str (rgT n))),[decide (n<0)=false->inK a0h n,decide (n<0)=false->1+(a0i n).length<=9223372036854775807],kq,?_,λ_=>rfl⟩;intro p hp;rcases a0k.1 hp with rfl | hp
  ·exact λ_=>hs
  ·rw [a0d.1 hp];intro _;have:=a2e n hs.1 hs.2;omega
 ·cases h)
def ltI (x:In) (A:IA) (ct:Nat) (j:GL (List UInt8)):St :=
 { n:=28,slots:=[(2,ov (.val (.pointer (some ⟨ct,0,none⟩)))),(5,ov (.row 0 j.q j.l.length j.c)),(11,ov (.row 1 A.ql x.l.length A.cl)),(12,ov (.int .i64 x.l.length)),(13,ov (.int .i64 j.i))],gs:=[],
    heap:=[],next:=0,rows:=[(0,d5 z7 [] j.l j.q j.c 9 1 true),(1,C1 x A)],nr:=2,pers:=[r9 ct [fnV 156] 101,j7],wr:=true,fx:=0 }
def TT7:List (Ent a0a):=[Q0.e,⟨DS,[0]⟩]
theorem jB (b:Nat):∀ (l:List (List UInt8)),(∀ x∈l,x.length<=b)->(a4w [59] l).length<=(b+1)*l.length
 | [],_=>by simp [a4w]
 | x::l,h=>by
  have ih:=jB b l (λy hy=>h y (a0e _ hy));have hx:=h x (a0f ..);have e:a4w [59] (x::l)=[59]++x++a4w [59] l:=rfl;rw [e,a0c,a0c,a0p,a0p,a1r,Nat.mul_succ];omega
theorem oW (b:Nat) (l:List (List UInt8)) (h:∀ x∈l,x.length<=b):(a1u l [59]).length<=(b+1)*l.length:=by
 cases l with
 | nil=>simp [Lib.join_nil]
 | cons x l =>
  have ih:=jB b l (λy hy=>h y (a0e _ hy));have hx:=h x (a0f ..);rw [a6y,a0c,a0p,Nat.mul_succ];omega
theorem fw {n:Int} (h:N0 n=true):0<=n/\n<4000:=by
 simp [N0,cH] at h; omega
theorem LH (x:In) (A:IA) (cb ct:Nat) (hl:x.l.length<=1000) (hf:x.l.all N0=true):CallsK a0a 265 [.agg (inV x A),.one (.val (.pointer (some ⟨cb,0,none⟩))),.one (.val (.pointer (some ⟨ct,0,none⟩)))] (z8 [r9 cb [fnV 190] 212,r9 ct [fnV 156] 101,e8 (C1 x A),j7])
  (λ_:Unit=>True) (λ_=>ov (.str ([91]++a1u (x.l.map rgT) [59]++[93]))) (λ_=>noF):=by
 refine a0j true Tryz.func265 fun ρ w=>V.t TT7 [] trivial<|y8 0 212 cb 0 [fnV 190] 212 (.one (fnV 190))<|V.t TT7 [] trivial<|G4 11 2 (C1 x A)<|U9 z7 [] 5 9 1 kq kq<|j6 [2,5,11,12,13] [false,true,false,true] (λj:GL (List UInt8)=>x.l.length - j.i) (ltI x A ct) (λj=>j.i<=x.l.length/\j.l=(x.l.take j.i).map rgT) ⟨⟨0,false⟩,[],none,0,0⟩ kq ⟨a0s _,rfl⟩ (λj hj ih=>?_);obtain ⟨r0,l,q,c,i⟩:=j;obtain ⟨hi,cZ⟩:=hj;simp only at hi cZ;have n8:l.length=i:=by rw [cZ,a1k,a2b]; omega
 refine a1l<|V.t TT7 [] trivial<|f9 14 (decide ((i:Int)<x.l.length)) (λhb=>?_) (λhb=>?_)
 ·have e9:i<x.l.length:=by simpa using hb
  have mC:=V5 e9 0 hf;have Gs:0<=x.l.getD i 0/\x.l.getD i 0<4000:=fw mC;refine V.t TT7 [(0:Int)<=i/\(i:Int)<x.l.length] ⟨by omega,by omega⟩<|y8 0 101 ct 0 [fnV 156] 101 (.one (fnV 156))<|V.t TT7 [inK .i64 (x.l.getD i 0)] ⟨by omega,by omega⟩<|a6q z7 [] l (rgT (x.l.getD i 0)) 0 q c 9 1 [.str (rgT (x.l.getD i 0))] 16 kq (by omega) rfl (λ_ _=>kq) λq' c'=>V.t TT7 [] trivial<|a3v 13 i (by omega)<|d9 [2,5,11,12,13] [true,true] (ih ⟨r0,l++[rgT (x.l.getD i 0)],q',c',i+1⟩ ⟨e9,?_⟩ (by simp only; omega)) kq kq;simp only;rw [cZ,a2c,a0b e9,a2x,a0r,a0b e9];rfl
 ·have B0:x.l.length=i:=by
   have:¬ i<x.l.length:=by simpa using hb
   omega
  have de:l=x.l.map rgT:=by rw [cZ,<- B0,a1o]
  have hj:(a1u l [59]).length<=23*1000:=by
   refine a0n (oW 22 l (λy hy=>?_)) (by rw [n8]; omega);rw [de] at hy;obtain ⟨n,hn,rfl⟩:=a1d.1 hy;have:=a0y.1 hf n hn;have:=fw this;exact sZ (by omega) (by omega)
  refine V.t TT7 [] trivial<|V.c [] (zu l [59] q c (by omega) (by omega)) (λ_ _=>?_);have o1:1+(a1u l [59]).length<=9223372036854775807:=by omega
  have o2:(([91]:List UInt8)++a1u l [59]).length+1<=9223372036854775807:=by rw [a0c]; show 1+_+1<=_; omega
  refine V.t TT7 [(1+(a1u l [59]).length:Nat)<=9223372036854775807,((([91]:List UInt8)++a1u l [59]).length+1:Nat)<=9223372036854775807] ⟨o1,o2⟩ ?_;rw [<- de];exact V.z
def LJ:Con a0a:=r6 Tryz.func188 true [⟨DA,[0]⟩] [j7] kq kq
def smB (p:List UInt8):Bool:=iC p&&decide (P9 p>=0)
def bE:List Int->List (List UInt8)->List Int×Bool
 | l,[]=>(l,true)
 | l,p::ps=>if (!smB p||(l.length:Int)==16)=true then (l,false) else bE (l++[P9 p]) ps
structure PL where
 l:List Int
 q:Option Addr
 c:Nat
def pxI (x:In) (j:PL):In:={ x with l:=j.l }
def paI (A:IA) (j:PL):IA:={ A with ql:=j.q,cl:=j.c }
def lB (s:List UInt8):Bool:=a2d s [91]&&a3k (a0o s [91]) [93]
def lS (s:List UInt8):List UInt8:=a6w (a0o s [91]) [93]
def lqI (x:In) (A:IA) (cp:Nat) (j:PL):St :=
 { n:=60,slots:=[(2,ov (.val (.pointer (some ⟨cp,0,none⟩)))),(3,ov (.ptr 1 0)),(5,ov (.ptr 2 0)),(6,ov (.ptr 3 0))],gs:=[],
    heap:=[(0,⟨inO (pxI x j) (paI A j),30,true⟩),(1,⟨[fnV 190],212,false⟩),(2,⟨[.ptr 0 0],157,true⟩),(3,⟨[.bool false],4,true⟩)],next:=4,rows:=S4 (pxI x j) (paI A j),nr:=3,pers:=[r9 cp [fnV 188] 201,j7],wr:=true,fx:=1 }
theorem rv (c:UInt8):∀ (s:List UInt8),∀ p∈d4 c s,p.length<=s.length
 | [],p,hp=>by
  simp [d4] at hp; subst hp; simp
 | x::l,p,hp=>by
  have ih:=rv c l;rw [d4] at hp;split at hp
  ·rcases a0k.1 hp with rfl | hp
   ·simp
   ·have:=ih p hp; simp; omega
  ·split at hp
   ·rename_i h t e;rw [e] at ih;rcases a0k.1 hp with rfl | hp
    ·have:=ih h (a0f ..); simp; omega
    ·have:=ih p (a0e _ hp); simp; omega
   ·rw [a0d] at hp; subst hp; simp
theorem rx (c:UInt8) (s:List UInt8):∀ p∈c8 c s,p.length<=s.length:=by
 unfold c8;split
 ·intro p hp; simp at hp
 ·exact rv c _
def T8:List (Ent a0a):=[Q0.e,⟨LJ,[0]⟩,S5.e,dF.e]
theorem HD (s:List UInt8) (x:In) (A:IA) (cp cb:Nat) (hp:12<=cp) (hc:12<=cb) (hs:s.length<1000000000) (hl:x.l.length<=1000):CallsK a0a 266 [.one (.str s),.one (.ptr 0 0),.one (.val (.pointer (some ⟨cp,0,none⟩))),.one (.val (.pointer (some ⟨cb,0,none⟩)))]
  (psF [r9 cb [fnV 190] 212,r9 cp [fnV 188] 201,j7] x A)
  (λy:PL=>lB s=true->y.l=(bE x.l (c8 59 (lS s))).1) (λy=>ov (.sb (lB s&&(bE x.l (c8 59 (lS s))).2))) (λy=>psF [] (pxI x y) (paI A y)):=by
 have nt:(a0o s [91]).length<=s.length:=X7 s [91] (a0q _);refine a0j true Tryz.func266 fun ρ w=>L9 3 cb [fnV 190] 212 [r9 cp [fnV 188] 201,j7] kq kq kq kq kq (λw h1 h2 p hp=>by
  rcases a0k.1 hp with rfl | hp
  ·exact aK (by decide) w h1 (h2 _ (a0f ..))
  ·rw [a0d] at hp; subst hp;intro hd; have:cb<12:=hd; omega) ?_
 refine V.t T8 [(a0o s [91]).length<=9223372036854775807] (by show _<=_; omega)<|f9 27 (!a2d s [91]||!a3k (a0o s [91]) [93]) (λhb=>?_) (λhb=>?_)
 ·refine V.t T8 [] trivial ?_;have ie:lB s=false:=by
   unfold lB;revert hb;cases a2d s [91]<;>cases a3k (a0o s [91]) [93]<;>simp
  rw [show (lB s&&(bE x.l (c8 59 (lS s))).2)=false by rw [ie]; rfl];exact j3 3 0 ⟨[.bool false],4,true⟩ (.bool false) (.sb false) kq rfl kq (λ_=>rfl)<|V.e ⟨x.l,A.ql,A.cl⟩ [] (λh=>by rw [ie] at h; cases h)
 ·have Q5:lB s=true:=by
   unfold lB;revert hb;cases a2d s [91]<;>cases a3k (a0o s [91]) [93]<;>simp
  have de:(lS s).length<=s.length:=by
   refine a0n ?_ nt;unfold lS a6w;split
   ·simp
   ·exact a0q _
  have Nx:∀ i,((c8 59 (lS s)).getD i []).length<=281474976710656:=by
   intro i;rw [a0r];cases e:(c8 59 (lS s))[i]? with
   | none=>simp
   | some p=>have:=rx 59 (lS s) p (a0v e); simp only [a1e]; omega
  rw [show (lB s&&(bE x.l (c8 59 (lS s))).2)=(bE x.l (c8 59 (lS s))).2 by rw [Q5]; rfl];refine V.t T8 [] trivial<|V.c [] (sP 59 (lS s)) λ_ _=>V.q<|gh (lqI x A cp) ⟨λ_=>rfl,λ_=>rfl,λ_=>rfl,λ_=>rfl,λ_=>rfl,λ_=>rfl,λ_=>rfl,λ_=>rfl⟩
   (λi j=>bE x.l (c8 59 (lS s))=bE j.l ((c8 59 (lS s)).drop i)/\j.l.length<=x.l.length+i) (λcd j=>cd=.ret/\bE x.l (c8 59 (lS s))=(j.l,false)) (λi=>[.one (.str ((c8 59 (lS s)).getD i []))]) (λi ρ=>rfl)
   ⟨x.l,A.ql,A.cl⟩ [2,3,5,6] [true,true] [(1,false)] (dG 59 (lS s) (by omega)) kq kq ⟨rfl,a0q _⟩ kq kq kq (λi=>kq) (λi=>kq)
   (λi j ρ1 W l r q hi hx=>?_) (λj l r q hx=>?_) (λcd j l r q hx=>?_)
  ·obtain ⟨S0,UI⟩:=hx;have hN:=dH 59 (lS s);have wH:(c8 59 (lS s)).drop i=(c8 59 (lS s)).getD i []::(c8 59 (lS s)).drop (i+1):=by
    rw [a2k hi,a0r,a0b hi]; rfl
   rw [wH,bE] at S0;refine V.t T8 [] trivial<|mQ 4 l (t6 q none) kq rfl kq rfl<|V.t T8 [] trivial<|y8 0 201 cp 0 [fnV 188] 201 (.one (fnV 188))<|V.t T8 [((c8 59 (lS s)).getD i []).length<=281474976710656] (Nx i)<|f9 47 (!smB ((c8 59 (lS s)).getD i [])||(j.l.length:Int)==16) (λhf=>?_) (λhf=>?_)
   ·rw [if_pos hf] at S0;exact V.t T8 [] trivial<|E3 [2,3,5,6] [true,true] (some .ret) j kq kq kq rfl rfl ⟨rfl,S0⟩
   ·rw [if_neg (by rw [hf]; simp)] at S0;refine V.t T8 [] trivial<|p9 [] [1] 12 kq<|@a1z _ [] [1] 12 _ _ ([Q0.e]:List (Ent a0a)) [] kq kq trivial<|@kP _ [] [1] 12 _ _ ([Q0.e]:List (Ent a0a)) [] 2 9 kq kq kq kq kq trivial ?_ ?_
    ·refine @a1z _ [] [1] 12 _ _ ([Q0.e]:List (Ent a0a)) [] kq kq trivial<|@kP _ [] [1] 12 _ _ ([Q0.e]:List (Ent a0a)) [] 5 9 kq kq kq kq kq trivial ?_ ?_
     ·exact @a1z _ [] [1] 12 _ _ ([Q0.e]:List (Ent a0a)) [] kq kq trivial<|@a6s _ [] [1] 12 _ _ _ C6 0 j.l (P9 ((c8 59 (lS s)).getD i [])) 1 j.q j.c 3 1 [.int .i64 (P9 ((c8 59 (lS s)).getD i []))] 8 kq kq kq (by omega) rfl (λ_ _=>kq) λq' c'=>@a1z _ [] [1] 12 _ _ ([Q0.e]:List (Ent a0a)) [] kq kq trivial<|@o7 _ [] [1] 12 _ _ kq<|V.t T8 [] trivial<|E3 [2,3,5,6] [true,true] none ⟨j.l++[P9 ((c8 59 (lS s)).getD i [])],q',c'⟩ kq kq kq rfl rfl ⟨S0,by simp only [a0c,a0p,a1r]; omega⟩
     ·exact @a1z _ [] [1] 12 _ _ ([Q0.e]:List (Ent a0a)) [] kq kq trivial<|@a6s _ [] [1] 12 _ _ _ C6 0 j.l (P9 ((c8 59 (lS s)).getD i [])) 1 j.q j.c 3 1 [.int .i64 (P9 ((c8 59 (lS s)).getD i []))] 8 kq kq kq (by omega) rfl (λ_ _=>kq) λq' c'=>@a1z _ [] [1] 12 _ _ ([Q0.e]:List (Ent a0a)) [] kq kq trivial<|@o7 _ [] [1] 12 _ _ kq<|V.t T8 [] trivial<|E3 [2,3,5,6] [true,true] none ⟨j.l++[P9 ((c8 59 (lS s)).getD i [])],q',c'⟩ kq kq kq rfl rfl ⟨S0,by simp only [a0c,a0p,a1r]; omega⟩
    ·exact @a1z _ [] [1] 12 _ _ ([Q0.e]:List (Ent a0a)) [] kq kq trivial<|@a6s _ [] [1] 12 _ _ _ C6 0 j.l (P9 ((c8 59 (lS s)).getD i [])) 1 j.q j.c 3 1 [.int .i64 (P9 ((c8 59 (lS s)).getD i []))] 8 kq kq kq (by omega) rfl (λ_ _=>kq) λq' c'=>@a1z _ [] [1] 12 _ _ ([Q0.e]:List (Ent a0a)) [] kq kq trivial<|@o7 _ [] [1] 12 _ _ kq<|V.t T8 [] trivial<|E3 [2,3,5,6] [true,true] none ⟨j.l++[P9 ((c8 59 (lS s)).getD i [])],q',c'⟩ kq kq kq rfl rfl ⟨S0,by simp only [a0c,a0p,a1r]; omega⟩
  ·have S0:bE x.l (c8 59 (lS s))=(j.l,true):=by rw [hx.1,List.drop_length]; rfl
   rw [S0];exact V.t T8 [] trivial<|iA 3 r kq rfl (by rintro e w ⟨x,ρ,_,h,_⟩; exact ⟨_,h⟩) kq kq<|j3 3 0 ⟨[.bool true],4,true⟩ (.bool true) (.sb true) kq rfl kq (λ_=>rfl)<|V.e j [] (λ_=>rfl)
  ·obtain ⟨rfl,S0⟩:=hx;rw [S0];exact V.t T8 [] trivial<|iA 3 r kq rfl (by rintro e w ⟨x,ρ,_,h,_⟩; exact ⟨_,h⟩) kq kq<|j3 3 0 ⟨[.bool false],4,true⟩ (.bool false) (.sb false) kq rfl kq (λ_=>rfl)<|V.e j [] (λ_=>rfl)
theorem L4 (c:UInt8):∀ (s:List UInt8),∀ p∈d4 c s,p.length<=s.length
 | [],p,hp=>by
  simp [d4] at hp; subst hp; simp
 | x::l,p,hp=>by
  have ih:=L4 c l;rw [d4] at hp;split at hp
  ·rcases a0k.1 hp with rfl | hp
   ·simp
   ·have:=ih p hp; simp; omega
  ·split at hp
   ·rename_i h t e;rw [e] at ih;rcases a0k.1 hp with rfl | hp
    ·have:=ih h (a0f ..); simp; omega
    ·have:=ih p (a0e _ hp); simp; omega
   ·rw [a0d] at hp; subst hp; simp
theorem xH (s:List UInt8):∀ p∈c8 44 s,p.length<=s.length:=by
 unfold c8;split
 ·intro p hp; simp at hp
 ·exact L4 44 _
theorem ld (s:List UInt8) (i:Nat):(pC s i).length<=s.length:=by
 unfold pC;rw [a0r];cases e:(c8 44 s)[i]? with
 | none=>simp
 | some p=>exact xH s p (a0v e)
def T7:List (Ent a0a):=[⟨oL,[0]⟩,⟨Ly,[0]⟩]
theorem cO (s:List UInt8) (n:Nat) (hs:s.length<1000000000) (b:Bool) (hb:(((c8 44 s).length:Int)==(n:Int))=b):CallsK a0a 186 [.one (.str s),.one (.str [44]),.one (.int .i64 (n:Int))] H0 (λ_:Option Addr×Nat=>True)
  (λx=>.tup [.one (.row 0 x.1 (c8 44 s).length x.2),.one (.bool b)]) (λx=>{ noF with rows:=[(0,d5 z7 [] (c8 44 s) x.1 x.2 9 1 true)],nr:=1 }) :=
 (Hv 44 s (n:Int) (by omega)).as _ (λx ρ _=>by rw [hb]; rfl) (λx _=>by
  intro y hy;rcases a0k.1 hy with rfl | hy
  ·exact ⟨Nat.zero_lt_succ 0,λR hR=>(by cases hR; exact ⟨rfl,rfl,rfl⟩)⟩
  ·rw [a0d.1 hy]; trivial)
theorem zD (s:List UInt8) (hs:s.length<1000000000):CallsK a0a 176 [.one (.str s)] H0 (λt:Ty=>tyB s=true->t=tyV s) (λt=>.tup [.agg t.cells,.one (.sb (tyB s))]) (λ_=>noF):=by
 have M3:∀ i,(pC s i).length<=281474976710656:=λi=>by have:=ld s i; omega
 obtain ⟨bv,lP⟩:∃ bv,tyB s=bv:=⟨_,rfl⟩;rw [lP];by_cases h5:(c8 44 s).length=5
 case neg =>
  have e:bv=false:=by
   rw [<- lP]; unfold tyB;rw [beq_eq_false_iff_ne.2 h5]; simp
  subst e;exact a0j true Tryz.func176 fun ρ w=>V.t T7 [] trivial<|V.c [(0,false)] (cO s 5 hs false (by rw [beq_eq_false_iff_ne]; omega)) λx _=>l6 T7 40 [] trivial<|a4o 3 false<|j3 0 3 ⟨[.int .i64 0,.int .i64 0,.int .i64 0,.bool false,.str []],23,true⟩ (.bool false) (.sb false) kq rfl kq (λ_=>rfl)<|V.e (⟨0,0,0,false,[]⟩:Ty) [] (λh=>by cases h)
 have hx:∀ i:Nat,i<5->(0:Int)<=(i:Int)/\(i:Int)<((c8 44 s).length:Int):=λi hi=>by omega
 refine a0j true Tryz.func176 fun ρ w=>V.t T7 [] trivial<|V.c [(0,false)] (cO s 5 hs true (by rw [beq_iff_eq]; omega)) λx _=>V.t T7 [(0:Int)<=3/\(3:Int)<((c8 44 s).length:Int),(!(pC s 3==[48]))=true->(0:Int)<=3/\(3:Int)<((c8 44 s).length:Int)] ⟨hx 3 (by omega),λ_=>hx 3 (by omega)⟩<|f9 26 (!(pC s 3==[48])&&!(pC s 3==[49])) (λhb=>?_) (λhb=>?_)
 ·have e:bv=false:=by
   rw [<- lP]; unfold tyB;have:(pC s 3==[48]||pC s 3==[49])=false:=by
    revert hb;cases pC s 3==[48]<;>cases pC s 3==[49]<;>simp
   rw [this]; simp
  subst e;exact l6 T7 40 [] trivial<|a4o 3 false<|j3 0 3 ⟨[.int .i64 0,.int .i64 0,.int .i64 0,.bool false,.str []],23,true⟩ (.bool false) (.sb false) kq rfl kq (λ_=>rfl)<|V.e (⟨0,0,0,false,[]⟩:Ty) [] (λh=>by cases h)
 have h3:(pC s 3==[48]||pC s 3==[49])=true:=by
  revert hb;cases pC s 3==[48]<;>cases pC s 3==[49]<;>simp
 refine V.t T7 [] trivial<|a1l<|V.t T7 [] trivial<|m0 33 (decide ((0:Int)<3)) true (by decide)<|V.t T7 [(0:Int)<=0/\(0:Int)<3,(0:Int)<=0/\(0:Int)<((c8 44 s).length:Int),(pC s 0).length<=281474976710656] ⟨⟨by omega,by omega⟩,hx 0 (by omega),M3 0⟩<|f9 47 (!B7 (pC s 0)) (λpZ=>?_) (λpZ=>?_)
 ·have e:bv=false:=by
   rw [<- lP]; unfold tyB;have:B7 (pC s 0)=false:=by simpa using pZ
   rw [this]; simp
  subst e;exact l6 T7 40 [] trivial<|a4o 3 false<|j3 0 3 ⟨[.int .i64 (t8 (pC s 0)),.int .i64 0,.int .i64 0,.bool false,.str []],23,true⟩ (.bool false) (.sb false) kq rfl kq (λ_=>rfl)<|V.e (⟨t8 (pC s 0),0,0,false,[]⟩:Ty) [] (λh=>by cases h)
 refine V.t T7 [] trivial<|a1l<|V.t T7 [] trivial<|m0 33 (decide ((1:Int)<3)) true (by decide)<|V.t T7 [(0:Int)<=1/\(1:Int)<3,(0:Int)<=1/\(1:Int)<((c8 44 s).length:Int),(pC s 1).length<=281474976710656] ⟨⟨by omega,by omega⟩,hx 1 (by omega),M3 1⟩<|f9 47 (!B7 (pC s 1)) (λiS=>?_) (λiS=>?_)
 ·have e:bv=false:=by
   rw [<- lP]; unfold tyB;have:B7 (pC s 1)=false:=by simpa using iS
   rw [this]; simp
  subst e;exact l6 T7 40 [] trivial<|a4o 3 false<|j3 0 3 ⟨[.int .i64 (t8 (pC s 0)),.int .i64 (t8 (pC s 1)),.int .i64 0,.bool false,.str []],23,true⟩ (.bool false) (.sb false) kq rfl kq (λ_=>rfl)<|V.e (⟨t8 (pC s 0),t8 (pC s 1),0,false,[]⟩:Ty) [] (λh=>by cases h)
 refine V.t T7 [] trivial<|a1l<|V.t T7 [] trivial<|m0 33 (decide ((2:Int)<3)) true (by decide)<|V.t T7 [(0:Int)<=2/\(2:Int)<3,(0:Int)<=2/\(2:Int)<((c8 44 s).length:Int),(pC s 2).length<=281474976710656] ⟨⟨by omega,by omega⟩,hx 2 (by omega),M3 2⟩<|f9 47 (!B7 (pC s 2)) (λN4=>?_) (λN4=>?_)
 ·have e:bv=false:=by
   rw [<- lP]; unfold tyB;have:B7 (pC s 2)=false:=by simpa using N4
   rw [this]; simp
  subst e;exact l6 T7 40 [] trivial<|a4o 3 false<|j3 0 3 ⟨[.int .i64 (t8 (pC s 0)),.int .i64 (t8 (pC s 1)),.int .i64 (t8 (pC s 2)),.bool false,.str []],23,true⟩ (.bool false) (.sb false) kq rfl kq (λ_=>rfl)<|V.e (⟨t8 (pC s 0),t8 (pC s 1),t8 (pC s 2),false,[]⟩:Ty) [] (λh=>by cases h)
 refine V.t T7 [] trivial<|a1l<|V.t T7 [] trivial<|m0 33 (decide ((3:Int)<3)) false (by decide)<|V.t T7 [(0:Int)<=3/\(3:Int)<((c8 44 s).length:Int),(0:Int)<=4/\(4:Int)<((c8 44 s).length:Int),(pC s 4).length<=1000000000] ⟨hx 3 (by omega),hx 4 (by omega),a0n (ld s 4) (by omega)⟩ ?_;have e:bv=unB (pC s 4):=by
  rw [<- lP]; unfold tyB;rw [beq_iff_eq.2 h5,h3,show B7 (pC s 0)=true by simpa using pZ,show B7 (pC s 1)=true by simpa using iS,show B7 (pC s 2)=true by simpa using N4];simp
 subst e;exact V.e (tyV s) [] (λ_=>rfl)
theorem OC (s:List UInt8) (hs:s.length<1000000000):CallsK a0a 200 [.one (.str s)] H0 (λt:Fm=>fmB s=true->t=fmV s) (λt=>.tup [.agg t.cells,.one (.sb (fmB s))]) (λ_=>noF):=by
 have M3:∀ i,(pC s i).length<=281474976710656:=λi=>by have:=ld s i; omega
 obtain ⟨bv,lP⟩:∃ bv,fmB s=bv:=⟨_,rfl⟩;rw [lP];by_cases h5:(c8 44 s).length=4
 case neg =>
  have e:bv=false:=by
   rw [<- lP]; unfold fmB;rw [beq_eq_false_iff_ne.2 h5]; simp
  subst e;exact a0j true Tryz.func200 fun ρ w=>V.t T7 [] trivial<|V.c [(0,false)] (cO s 4 hs false (by rw [beq_eq_false_iff_ne]; omega)) λx _=>l6 T7 40 [] trivial<|a4o 3 false<|V.e (⟨0,0,0,[]⟩:Fm) [] (λh=>by cases h)
 have hx:∀ i:Nat,i<4->(0:Int)<=(i:Int)/\(i:Int)<((c8 44 s).length:Int):=λi hi=>by omega
 refine a0j true Tryz.func200 fun ρ w=>V.t T7 [] trivial<|V.c [(0,false)] (cO s 4 hs true (by rw [beq_iff_eq]; omega)) λx _=>V.t T7 [] trivial<|V.t T7 [] trivial<|a1l<|V.t T7 [] trivial<|m0 21 (decide ((0:Int)<3)) true (by decide)<|V.t T7 [(0:Int)<=0/\(0:Int)<3,(0:Int)<=0/\(0:Int)<((c8 44 s).length:Int),(pC s 0).length<=281474976710656] ⟨⟨by omega,by omega⟩,hx 0 (by omega),M3 0⟩<|f9 35 (!B7 (pC s 0)) (λpZ=>?_) (λpZ=>?_)
 ·have e:bv=false:=by
   rw [<- lP]; unfold fmB;have:B7 (pC s 0)=false:=by simpa using pZ
   rw [this]; simp
  subst e;exact l6 T7 40 [] trivial<|a4o 3 false<|V.e (⟨t8 (pC s 0),0,0,[]⟩:Fm) [] (λh=>by cases h)
 refine V.t T7 [] trivial<|a1l<|V.t T7 [] trivial<|m0 21 (decide ((1:Int)<3)) true (by decide)<|V.t T7 [(0:Int)<=1/\(1:Int)<3,(0:Int)<=1/\(1:Int)<((c8 44 s).length:Int),(pC s 1).length<=281474976710656] ⟨⟨by omega,by omega⟩,hx 1 (by omega),M3 1⟩<|f9 35 (!B7 (pC s 1)) (λiS=>?_) (λiS=>?_)
 ·have e:bv=false:=by
   rw [<- lP]; unfold fmB;have:B7 (pC s 1)=false:=by simpa using iS
   rw [this]; simp
  subst e;exact l6 T7 40 [] trivial<|a4o 3 false<|V.e (⟨t8 (pC s 0),t8 (pC s 1),0,[]⟩:Fm) [] (λh=>by cases h)
 refine V.t T7 [] trivial<|a1l<|V.t T7 [] trivial<|m0 21 (decide ((2:Int)<3)) true (by decide)<|V.t T7 [(0:Int)<=2/\(2:Int)<3,(0:Int)<=2/\(2:Int)<((c8 44 s).length:Int),(pC s 2).length<=281474976710656] ⟨⟨by omega,by omega⟩,hx 2 (by omega),M3 2⟩<|f9 35 (!B7 (pC s 2)) (λN4=>?_) (λN4=>?_)
 ·have e:bv=false:=by
   rw [<- lP]; unfold fmB;have:B7 (pC s 2)=false:=by simpa using N4
   rw [this]; simp
  subst e;exact l6 T7 40 [] trivial<|a4o 3 false<|V.e (⟨t8 (pC s 0),t8 (pC s 1),t8 (pC s 2),[]⟩:Fm) [] (λh=>by cases h)
 refine V.t T7 [] trivial<|a1l<|V.t T7 [] trivial<|m0 21 (decide ((3:Int)<3)) false (by decide)<|V.t T7 [(0:Int)<=3/\(3:Int)<((c8 44 s).length:Int),(pC s 3).length<=1000000000] ⟨hx 3 (by omega),a0n (ld s 3) (by omega)⟩ ?_;have e:bv=unB (pC s 3):=by
  rw [<- lP]; unfold fmB;rw [beq_iff_eq.2 h5,show B7 (pC s 0)=true by simpa using pZ,show B7 (pC s 1)=true by simpa using iS,show B7 (pC s 2)=true by simpa using N4];simp
 subst e;exact V.e (fmV s) [] (λ_=>rfl)
def zE (s:m7):Con a0a:=Con.p1 s.fn s.off (X4 s)
theorem ta (s sep:List UInt8):(a3d s sep).1.length<=s.length/\(a3d s sep).2.1.length<=s.length:=by
 unfold a3d;split
 ·exact ⟨by rw [a2b]; omega,by rw [List.length_drop]; omega⟩
 ·exact ⟨a0q _,a0s _⟩
theorem bV {n:Int} (h:n9 n=true):inK .i64 n:=by have:=T9.1 h; exact ⟨by omega,by omega⟩
theorem dY {t:Ty} (h:J4 t=true):inK .i64 t.k/\inK .i64 t.p/\inK .i64 t.q/\t.s.length<=1000000000:=by
 unfold J4 at h;simp only [a0g,decide_eq_true_eq] at h;exact ⟨bV h.1.1.1,bV h.1.1.2,bV h.1.2,by omega⟩
theorem tb {t:Fm} (h:Q9 t=true):inK .i64 t.k/\inK .i64 t.w/\inK .i64 t.d/\t.s.length<=1000000000:=by
 unfold Q9 at h;simp only [a0g,decide_eq_true_eq] at h;exact ⟨bV h.1.1.1,bV h.1.1.2,bV h.1.2,by omega⟩
theorem tc (s:m7) (x:In) (A:IA) (cb:Nat) (h:J4 (s.get x)=true):CallsK a0a 173 [.agg (inV x A),.one (.val (.pointer (some ⟨cb,0,none⟩)))] (z8 [s.blk cb,j7])
  (λ_:Unit=>True) (λ_=>ov (.str (y9 (s.get x)))) (λ_=>noF):=by
 have tg:Tg s:=⟨⟩;have iU:=dY h;cases s
 all_goals
  exact a0j true Tryz.func173 fun ρ w=>V.t [(zE tg.i).e,⟨sY,[0]⟩] [] trivial<|y8 0 169 cb 0 [m7.val tg.i] 169 (.one (m7.val tg.i))<|V.t [(zE tg.i).e,⟨sY,[0]⟩] [inK .i64 (a3l tg.i x).k/\inK .i64 (a3l tg.i x).p/\inK .i64 (a3l tg.i x).q/\(a3l tg.i x).s.length<=1000000000] iU<|V.z
theorem oX (s:m7) (l:List UInt8) (x:In) (A:IA) (cb:Nat) (hl:l.length<1000000000):CallsK a0a 175 [.one (.str l),.one (.ptr 0 0),.one (.val (.pointer (some ⟨cb,0,none⟩)))] (psF [s.blk cb,j7] x A)
  (λt:Ty=>tyB l=true->t=tyV l) (λ_=>ov (.sb (tyB l))) (λt=>psF [] (s.set x t) A):=by
 have tg:Tg s:=⟨⟩;cases s
 all_goals
  exact a0j false Tryz.func175 fun ρ w=>V.t [(zE tg.i).e] [] trivial<|y8 0 169 cb 0 [m7.val tg.i] 169 (.one (m7.val tg.i))<|V.t [(zE tg.i).e] [] trivial<|V.c [(1,false)] (zD l hl) λt ht=>V.q<|V.e t [] ht
theorem LK (x:In) (A:IA) (h:cI x=true):CallsK a0a 183 [.agg (inV x A)] (z8 [j7]) (λ_:Unit=>True) (λ_=>ov (.str (dO x))) (λ_=>noF):=by
 unfold cI at h;rw [a0g,decide_eq_true_eq] at h;have hk:=bV h.1;have h1:=a2e x.vn hk.1 hk.2;have h5:=mh x.vs;have o1:(a0i x.vn).length+1<=9223372036854775807:=by omega
 have o2:x.vs.length<=1000000000:=by omega
 have o3:(a0i x.vn++[44]).length+(J2 x.vs).length<=9223372036854775807:=by rw [a0c,h5,a1j]; omega
 exact a0j true Tryz.func183 fun ρ w=>V.t T6 [inK .i64 x.vn,(a0i x.vn).length+1<=9223372036854775807,x.vs.length<=1000000000,(a0i x.vn++[44]:List UInt8).length+(J2 x.vs).length<=9223372036854775807] ⟨hk,o1,o2,o3⟩<|V.z
theorem HE (x:In) (A:IA) (h:O5 x=true):CallsK a0a 231 [.agg (inV x A)] (z8 [j7]) (λ_:Unit=>True) (λ_=>ov (.str (T3 x))) (λ_=>noF):=by
 unfold O5 at h;simp only [a0g,decide_eq_true_eq] at h;have hp:inK .i64 x.p:=⟨by omega,by omega⟩;have hn:inK .i64 x.n:=⟨by omega,by omega⟩;have h1:=a2e x.p hp.1 hp.2;have h2:=a2e x.n hn.1 hn.2;have o1:1+(a0i x.p).length<=9223372036854775807:=by omega
 have o2:([33]++a0i x.p).length+1<=9223372036854775807:=by rw [a0c,a1j]; omega
 have o3:([33]++a0i x.p++[64]).length+(a0i x.n).length<=9223372036854775807:=by rw [a0c,a0c,a1j,a1j]; omega
 refine a0j true Tryz.func231 fun ρ w=>V.runT T6 [inK .i64 x.p,1+(a0i x.p).length<=9223372036854775807,([33]++a0i x.p:List UInt8).length+1<=9223372036854775807,inK .i64 x.n,([33]++a0i x.p++[64]:List UInt8).length+(a0i x.n).length<=9223372036854775807] kq kq
  ⟨hp,o1,o2,hn,o3⟩ ?_
 exact V.z
theorem HF (l:List UInt8) (x:In) (A:IA) (hs:l.length<1000000000):CallsK a0a 185 [.one (.str l),.one (.ptr 0 0)] (psF [j7] x A)
  (λy:In=>vlB l=true->y={ x with vn:=t8 (pC l 0),vs:=unN (pC l 1) }) (λ_=>ov (.sb (vlB l))) (λy=>psF [] y A):=by
 have M3:∀ i,(pC l i).length<=281474976710656:=λi=>by have:=ld l i; omega
 obtain ⟨bv,lP⟩:∃ bv,vlB l=bv:=⟨_,rfl⟩;rw [lP];by_cases h5:(c8 44 l).length=2
 case neg =>
  have e:bv=false:=by
   rw [<- lP]; unfold vlB;rw [beq_eq_false_iff_ne.2 h5]; simp
  subst e;exact a0j false Tryz.func185 fun ρ w=>V.q<|V.c [(0,false)] (cO l 2 hs false (by rw [beq_eq_false_iff_ne]; omega)) λ_ _=>l6 [] 40 [] trivial<|a4o 4 false<|V.e x [] (λh=>by cases h)
 have hx:∀ i:Nat,i<2->(0:Int)<=(i:Int)/\(i:Int)<((c8 44 l).length:Int):=λi hi=>by omega
 refine a0j false Tryz.func185 fun ρ w=>V.q<|V.c [(0,false)] (cO l 2 hs true (by rw [beq_iff_eq]; omega)) λ_ _=>V.t T7 [(0:Int)<=0/\(0:Int)<((c8 44 l).length:Int),(pC l 0).length<=281474976710656,(0:Int)<=1/\(1:Int)<((c8 44 l).length:Int),(pC l 1).length<=1000000000] ⟨hx 0 (by omega),M3 0,hx 1 (by omega),a0n (ld l 1) (by omega)⟩ ?_;have e:bv=(B7 (pC l 0)&&unB (pC l 1)):=by
  rw [<- lP]; unfold vlB;rw [beq_iff_eq.2 h5,a5a]
 subst e;exact V.e ({ x with vn:=t8 (pC l 0),vs:=unN (pC l 1) }:In) [] (λ_=>rfl)
theorem DT (l:List UInt8) (x:In) (A:IA) (hs:l.length<1000000000):CallsK a0a 232 [.one (.str l),.one (.ptr 0 0)] (psF [j7] x A)
  (λ_:Unit=>True) (λ_=>ov (.sb (frB l))) (λ_=>psF [] { x with p:=t8 (ac l).1,n:=t8 (ac l).2.1 } A):=by
 have ht:(a0o l [33]).length<=l.length:=X7 l [33] (a0q _);have o0:(a0o l [33]).length<4294967281:=by omega
 have o1:(ac l).1.length<=281474976710656:=by have:=(ta (a0o l [33]) [64]).1; unfold ac; omega
 have o2:(ac l).2.1.length<=281474976710656:=by have:=(ta (a0o l [33]) [64]).2; unfold ac; omega
 exact a0j false Tryz.func232 fun ρ w=>V.t (⟨Du,[0]⟩::S5.e::T7) [(a0o l [33]).length<4294967281,(ac l).1.length<=281474976710656,(ac l).2.1.length<=281474976710656] ⟨o0,o1,o2⟩<|V.z
def fnC (f:Nat) (bs:List Nat):SV:=.val (.func (.func f) #[] (bs.map λb=>Value.pointer (some ⟨b,0,none⟩)).toArray)
def af (a b c d e f:SV):RV:=.v (.agg [a,b,c,d,e,f])
def jC (bl:List (List SV×TypeId)):St:={ n:=0,slots:=[],gs:=[],heap:=AS bl 0,next:=bl.length,rows:=[],nr:=0,pers:=[],wr:=false }
theorem jD (s:Nat):CallsK a0a 99 [.one (fnV s)] noF (λ_:Unit=>True) (λ_=>af (.fn 159 [0]) (.fn 160 [0]) (.fn 161 [0]) (.fn 162 [0]) (.fn 163 [0]) (.fn 164 [0])) (λ_=>jC [([fnV s],159)]):=by
 exact a0j true Tryz.func99 fun ρ w=>V.q<|V.z
theorem tf (s:Nat):CallsK a0a 99 [.one (fnV s)] noF (λ_:Nat->Nat=>True) (λg=>af (fnC 159 [g 0]) (fnC 160 [g 0]) (fnC 161 [g 0]) (fnC 162 [g 0]) (fnC 163 [g 0]) (fnC 164 [g 0])) (λg=>z8 (ck g [([fnV s],159)] 0)) :=
 H8 [([fnV s],159)] ⟨rfl,rfl,rfl⟩ rfl (jD s) _ (λg ρ=>rfl) (λg x hx=>by
  simp only [a0k,a1a,or_false] at hx;rcases hx with rfl|rfl|rfl|rfl|rfl|rfl<;>trivial)
theorem xJ (s:Nat):CallsK a0a 98 [.one (fnV s)] noF (λ_:Unit=>True) (λ_=>af (.fn 159 [0]) (.fn 151 [1]) (.fn 153 [1]) (.fn 154 [1]) (.fn 155 [1]) (.fn 157 [1])) (λ_=>jC [([fnV s],159),([fnV s],159)]):=by
 exact a0j true Tryz.func98 fun ρ w=>V.q<|V.c [] (jD s) λ_ _=>V.q<|V.z
theorem lf (s:Nat):CallsK a0a 98 [.one (fnV s)] noF (λ_:Nat->Nat=>True) (λg=>af (fnC 159 [g 0]) (fnC 151 [g 1]) (fnC 153 [g 1]) (fnC 154 [g 1]) (fnC 155 [g 1]) (fnC 157 [g 1])) (λg=>z8 (ck g [([fnV s],159),([fnV s],159)] 0)) :=
 H8 [([fnV s],159),([fnV s],159)] ⟨rfl,rfl,rfl⟩ rfl (xJ s) _ (λg ρ=>rfl) (λg x hx=>by
  simp only [a0k,a1a,or_false] at hx;rcases hx with rfl|rfl|rfl|rfl|rfl|rfl<;>trivial)
theorem HG (s:Nat):CallsK a0a 100 [.one (fnV s)] noF (λ_:Unit=>True) (λ_=>af (.fn 166 [0]) (.fn 167 [0]) (.fn 169 [0]) (.fn 171 [0]) (.fn 173 [0]) (.fn 175 [0])) (λ_=>jC [([fnV s],169)]):=by
 exact a0j true Tryz.func100 fun ρ w=>V.q<|V.z
theorem xK (s:Nat):CallsK a0a 100 [.one (fnV s)] noF (λ_:Nat->Nat=>True) (λg=>af (fnC 166 [g 0]) (fnC 167 [g 0]) (fnC 169 [g 0]) (fnC 171 [g 0]) (fnC 173 [g 0]) (fnC 175 [g 0])) (λg=>z8 (ck g [([fnV s],169)] 0)) :=
 H8 [([fnV s],169)] ⟨rfl,rfl,rfl⟩ rfl (HG s) _ (λg ρ=>rfl) (λg x hx=>by
  simp only [a0k,a1a,or_false] at hx;rcases hx with rfl|rfl|rfl|rfl|rfl|rfl<;>trivial)
theorem LL (s:Nat):CallsK a0a 108 [.one (fnV s)] noF (λ_:Unit=>True) (λ_=>af (.fn 203 [0]) (.fn 204 []) (.fn 205 [0]) (.fn 207 [0]) (.fn 209 [0]) (.fn 211 [0])) (λ_=>jC [([fnV s],173)]):=by
 exact a0j true Tryz.func108 fun ρ w=>V.q<|V.z
theorem JW (s:Nat):CallsK a0a 108 [.one (fnV s)] noF (λ_:Nat->Nat=>True) (λg=>af (fnC 203 [g 0]) (fnV 204) (fnC 205 [g 0]) (fnC 207 [g 0]) (fnC 209 [g 0]) (fnC 211 [g 0])) (λg=>z8 (ck g [([fnV s],173)] 0)) :=
 H8 [([fnV s],173)] ⟨rfl,rfl,rfl⟩ rfl (LL s) _ (λg ρ=>rfl) (λg x hx=>by
  simp only [a0k,a1a,or_false] at hx;rcases hx with rfl|rfl|rfl|rfl|rfl|rfl<;>trivial)
theorem HH (s:Nat):CallsK a0a 111 [.one (fnV s)] noF (λ_:Unit=>True) (λ_=>af (.fn 159 [0]) (.fn 212 [1]) (.fn 213 [1]) (.fn 215 [1]) (.fn 217 [1]) (.fn 218 [1])) (λ_=>jC [([fnV s],159),([fnV s],159)]):=by
 exact a0j true Tryz.func111 fun ρ w=>V.q<|V.c [] (jD s) λ_ _=>V.q<|V.z
theorem DU (s:Nat):CallsK a0a 111 [.one (fnV s)] noF (λ_:Nat->Nat=>True) (λg=>af (fnC 159 [g 0]) (fnC 212 [g 1]) (fnC 213 [g 1]) (fnC 215 [g 1]) (fnC 217 [g 1]) (fnC 218 [g 1])) (λg=>z8 (ck g [([fnV s],159),([fnV s],159)] 0)) :=
 H8 [([fnV s],159),([fnV s],159)] ⟨rfl,rfl,rfl⟩ rfl (HH s) _ (λg ρ=>rfl) (λg x hx=>by
  simp only [a0k,a1a,or_false] at hx;rcases hx with rfl|rfl|rfl|rfl|rfl|rfl<;>trivial)
theorem LM (s:Nat) (b:Bool):CallsK a0a 112 [.one (fnV s),.one (.bool b)] noF (λ_:Unit=>True) (λ_=>af (.fn 159 [0]) (.fn 220 [1,2]) (.fn 221 [1]) (.fn 223 [2,1]) (.fn 225 [1]) (.fn 226 [1])) (λ_=>jC [([fnV s],159),([fnV s],159),([.bool b],4)]):=by
 exact a0j true Tryz.func112 fun ρ w=>V.q<|V.c [] (jD s) λ_ _=>V.q<|V.z
theorem JX (s:Nat) (b:Bool):CallsK a0a 112 [.one (fnV s),.one (.bool b)] noF (λ_:Nat->Nat=>True) (λg=>af (fnC 159 [g 0]) (fnC 220 [g 1,g 2]) (fnC 221 [g 1]) (fnC 223 [g 2,g 1]) (fnC 225 [g 1]) (fnC 226 [g 1])) (λg=>z8 (ck g [([fnV s],159),([fnV s],159),([.bool b],4)] 0)) :=
 H8 [([fnV s],159),([fnV s],159),([.bool b],4)] ⟨rfl,rfl,rfl⟩ rfl (LM s b) _ (λg ρ=>rfl) (λg x hx=>by
  simp only [a0k,a1a,or_false] at hx;rcases hx with rfl|rfl|rfl|rfl|rfl|rfl<;>trivial)
theorem HI  : CallsK a0a 104 [] noF (λ_:Unit=>True) (λ_=>af (.fn 177 []) (.fn 178 []) (.fn 179 []) (.fn 181 []) (.fn 183 []) (.fn 185 [])) (λ_=>jC []):=by
 exact a0j true Tryz.func104 fun ρ w=>V.q<|V.z
theorem LN  : CallsK a0a 104 [] noF (λ_:Nat->Nat=>True) (λg=>af (fnV 177) (fnV 178) (fnV 179) (fnV 181) (fnV 183) (fnV 185)) (λg=>z8 (ck g [] 0)) :=
 H8 [] ⟨rfl,rfl,rfl⟩ rfl (HI ) _ (λg ρ=>rfl) (λg x hx=>by
  simp only [a0k,a1a,or_false] at hx;rcases hx with rfl|rfl|rfl|rfl|rfl|rfl<;>trivial)
theorem OD  : CallsK a0a 113 [] noF (λ_:Unit=>True) (λ_=>af (.fn 227 []) (.fn 228 []) (.fn 229 []) (.fn 230 []) (.fn 231 []) (.fn 232 [])) (λ_=>jC []):=by
 exact a0j true Tryz.func113 fun ρ w=>V.q<|V.z
theorem RZ  : CallsK a0a 113 [] noF (λ_:Nat->Nat=>True) (λg=>af (fnV 227) (fnV 228) (fnV 229) (fnV 230) (fnV 231) (fnV 232)) (λg=>z8 (ck g [] 0)) :=
 H8 [] ⟨rfl,rfl,rfl⟩ rfl (OD ) _ (λg ρ=>rfl) (λg x hx=>by
  simp only [a0k,a1a,or_false] at hx;rcases hx with rfl|rfl|rfl|rfl|rfl|rfl<;>trivial)
theorem HJ  : CallsK a0a 189 [.one (.fn 190 []),.one (.fn 191 []),.one (.fn 192 []),.one (.fn 193 []),.one (.fn 156 []),.one (.fn 188 [])] noF (λ_:Unit=>True) (λ_=>af (.fn 261 [0]) (.fn 262 [0,1]) (.fn 263 [0,2]) (.fn 264 [0,3]) (.fn 265 [0,4]) (.fn 266 [5,0])) (λ_=>jC [([fnV 190],212),([fnV 191],95),([fnV 192],213),([fnV 193],214),([fnV 156],101),([fnV 188],201)]):=by
 exact a0j true Tryz.func189 fun ρ w=>V.q<|j3 0 0 ⟨[.fn 190 []],212,true⟩ (.fn 190 []) (fnV 190) kq rfl kq (λ_=>rfl)<|j3 1 0 ⟨[.fn 191 []],95,true⟩ (.fn 191 []) (fnV 191) kq rfl kq (λ_=>rfl)<|j3 2 0 ⟨[.fn 192 []],213,true⟩ (.fn 192 []) (fnV 192) kq rfl kq (λ_=>rfl)<|j3 3 0 ⟨[.fn 193 []],214,true⟩ (.fn 193 []) (fnV 193) kq rfl kq (λ_=>rfl)<|j3 4 0 ⟨[.fn 156 []],101,true⟩ (.fn 156 []) (fnV 156) kq rfl kq (λ_=>rfl)<|j3 5 0 ⟨[.fn 188 []],201,true⟩ (.fn 188 []) (fnV 188) kq rfl kq (λ_=>rfl)<|V.z
theorem LO  : CallsK a0a 105 [] noF (λ_:Unit=>True) (λ_=>af (.fn 261 [0]) (.fn 262 [0,1]) (.fn 263 [0,2]) (.fn 264 [0,3]) (.fn 265 [0,4]) (.fn 266 [5,0])) (λ_=>jC [([fnV 190],212),([fnV 191],95),([fnV 192],213),([fnV 193],214),([fnV 156],101),([fnV 188],201)]):=by
 exact a0j true Tryz.func105 fun ρ w=>V.q<|V.c [] (HJ) λ_ _=>V.q<|V.z
theorem OE  : CallsK a0a 105 [] noF (λ_:Nat->Nat=>True) (λg=>af (fnC 261 [g 0]) (fnC 262 [g 0,g 1]) (fnC 263 [g 0,g 2]) (fnC 264 [g 0,g 3]) (fnC 265 [g 0,g 4]) (fnC 266 [g 5,g 0])) (λg=>z8 (ck g [([fnV 190],212),([fnV 191],95),([fnV 192],213),([fnV 193],214),([fnV 156],101),([fnV 188],201)] 0)) :=
 H8 [([fnV 190],212),([fnV 191],95),([fnV 192],213),([fnV 193],214),([fnV 156],101),([fnV 188],201)] ⟨rfl,rfl,rfl⟩ rfl (LO ) _ (λg ρ=>rfl) (λg x hx=>by
  simp only [a0k,a1a,or_false] at hx;rcases hx with rfl|rfl|rfl|rfl|rfl|rfl<;>trivial)
theorem HK  : CallsK a0a 194 [.one (.fn 195 []),.one (.fn 168 []),.one (.fn 170 []),.one (.fn 172 []),.one (.fn 174 []),.one (.fn 176 [])] noF (λ_:Unit=>True) (λ_=>af (.fn 268 [0]) (.fn 269 [0,1]) (.fn 270 [0,2]) (.fn 271 [0,3]) (.fn 272 [0,4]) (.fn 273 [5,0])) (λ_=>jC [([fnV 195],217),([fnV 168],180),([fnV 170],218),([fnV 172],219),([fnV 174],185),([fnV 176],204)]):=by
 exact a0j true Tryz.func194 fun ρ w=>V.q<|j3 0 0 ⟨[.fn 195 []],217,true⟩ (.fn 195 []) (fnV 195) kq rfl kq (λ_=>rfl)<|j3 1 0 ⟨[.fn 168 []],180,true⟩ (.fn 168 []) (fnV 168) kq rfl kq (λ_=>rfl)<|j3 2 0 ⟨[.fn 170 []],218,true⟩ (.fn 170 []) (fnV 170) kq rfl kq (λ_=>rfl)<|j3 3 0 ⟨[.fn 172 []],219,true⟩ (.fn 172 []) (fnV 172) kq rfl kq (λ_=>rfl)<|j3 4 0 ⟨[.fn 174 []],185,true⟩ (.fn 174 []) (fnV 174) kq rfl kq (λ_=>rfl)<|j3 5 0 ⟨[.fn 176 []],204,true⟩ (.fn 176 []) (fnV 176) kq rfl kq (λ_=>rfl)<|V.z
theorem HL  : CallsK a0a 106 [] noF (λ_:Unit=>True) (λ_=>af (.fn 268 [0]) (.fn 269 [0,1]) (.fn 270 [0,2]) (.fn 271 [0,3]) (.fn 272 [0,4]) (.fn 273 [5,0])) (λ_=>jC [([fnV 195],217),([fnV 168],180),([fnV 170],218),([fnV 172],219),([fnV 174],185),([fnV 176],204)]):=by
 exact a0j true Tryz.func106 fun ρ w=>V.q<|V.c [] (HK) λ_ _=>V.q<|V.z
theorem LP  : CallsK a0a 106 [] noF (λ_:Nat->Nat=>True) (λg=>af (fnC 268 [g 0]) (fnC 269 [g 0,g 1]) (fnC 270 [g 0,g 2]) (fnC 271 [g 0,g 3]) (fnC 272 [g 0,g 4]) (fnC 273 [g 5,g 0])) (λg=>z8 (ck g [([fnV 195],217),([fnV 168],180),([fnV 170],218),([fnV 172],219),([fnV 174],185),([fnV 176],204)] 0)) :=
 H8 [([fnV 195],217),([fnV 168],180),([fnV 170],218),([fnV 172],219),([fnV 174],185),([fnV 176],204)] ⟨rfl,rfl,rfl⟩ rfl (HL ) _ (λg ρ=>rfl) (λg x hx=>by
  simp only [a0k,a1a,or_false] at hx;rcases hx with rfl|rfl|rfl|rfl|rfl|rfl<;>trivial)
theorem HM  : CallsK a0a 201 [.one (.fn 202 []),.one (.fn 196 []),.one (.fn 197 []),.one (.fn 198 []),.one (.fn 199 []),.one (.fn 200 [])] noF (λ_:Unit=>True) (λ_=>af (.fn 274 [0]) (.fn 275 [0,1]) (.fn 276 [0,2]) (.fn 277 [0,3]) (.fn 278 [0,4]) (.fn 279 [5,0])) (λ_=>jC [([fnV 202],226),([fnV 196],181),([fnV 197],220),([fnV 198],221),([fnV 199],188),([fnV 200],223)]):=by
 exact a0j true Tryz.func201 fun ρ w=>V.q<|j3 0 0 ⟨[.fn 202 []],226,true⟩ (.fn 202 []) (fnV 202) kq rfl kq (λ_=>rfl)<|j3 1 0 ⟨[.fn 196 []],181,true⟩ (.fn 196 []) (fnV 196) kq rfl kq (λ_=>rfl)<|j3 2 0 ⟨[.fn 197 []],220,true⟩ (.fn 197 []) (fnV 197) kq rfl kq (λ_=>rfl)<|j3 3 0 ⟨[.fn 198 []],221,true⟩ (.fn 198 []) (fnV 198) kq rfl kq (λ_=>rfl)<|j3 4 0 ⟨[.fn 199 []],188,true⟩ (.fn 199 []) (fnV 199) kq rfl kq (λ_=>rfl)<|j3 5 0 ⟨[.fn 200 []],223,true⟩ (.fn 200 []) (fnV 200) kq rfl kq (λ_=>rfl)<|V.z
theorem Bh  : CallsK a0a 107 [] noF (λ_:Unit=>True) (λ_=>af (.fn 274 [0]) (.fn 275 [0,1]) (.fn 276 [0,2]) (.fn 277 [0,3]) (.fn 278 [0,4]) (.fn 279 [5,0])) (λ_=>jC [([fnV 202],226),([fnV 196],181),([fnV 197],220),([fnV 198],221),([fnV 199],188),([fnV 200],223)]):=by
 exact a0j true Tryz.func107 fun ρ w=>V.q<|V.c [] (HM) λ_ _=>V.q<|V.z
theorem DV  : CallsK a0a 107 [] noF (λ_:Nat->Nat=>True) (λg=>af (fnC 274 [g 0]) (fnC 275 [g 0,g 1]) (fnC 276 [g 0,g 2]) (fnC 277 [g 0,g 3]) (fnC 278 [g 0,g 4]) (fnC 279 [g 5,g 0])) (λg=>z8 (ck g [([fnV 202],226),([fnV 196],181),([fnV 197],220),([fnV 198],221),([fnV 199],188),([fnV 200],223)] 0)) :=
 H8 [([fnV 202],226),([fnV 196],181),([fnV 197],220),([fnV 198],221),([fnV 199],188),([fnV 200],223)] ⟨rfl,rfl,rfl⟩ rfl (Bh ) _ (λg ρ=>rfl) (λg x hx=>by
  simp only [a0k,a1a,or_false] at hx;rcases hx with rfl|rfl|rfl|rfl|rfl|rfl<;>trivial)
inductive Fl where
 | D | A | B | N | M | P | T | U | W | V | L | Y | F | Sz | Rg | aN | aM | pN | pM | far
 deriving DecidableEq
def Fl.all:List Fl:=[.D,.A,.B,.N,.M,.P,.T,.U,.W,.V,.L,.Y,.F,.Sz,.Rg,.aN,.aM,.pN,.pM,.far]
theorem Fl.mem_all (f:Fl):f∈Fl.all:=by cases f<;>simp [Fl.all]
def Fl.name:Fl->List UInt8
 | .D=>[68]
 | .A=>[65]
 | .B=>[66]
 | .N=>[78]
 | .M=>[77]
 | .P=>[80]
 | .T=>[84]
 | .U=>[85]
 | .W=>[87]
 | .V=>[86]
 | .L=>[76]
 | .Y=>[89]
 | .F=>[70]
 | .Sz=>[83,105,122,101]
 | .Rg=>[82,97,110,103,101]
 | .aN=>[64,78]
 | .aM=>[64,77]
 | .pN=>[33,78]
 | .pM=>[33,77]
 | .far=>[33,80,64,78]
def Fl.bl:Fl->List (List SV×TypeId)
 | .D=>[([fnV 92],159),([fnV 92],159)]
 | .A=>[([fnV 93],159),([fnV 93],159)]
 | .B=>[([fnV 94],159),([fnV 94],159)]
 | .N=>[([fnV 95],159)]
 | .M=>[([fnV 96],159)]
 | .P=>[([fnV 97],159)]
 | .T=>[([fnV 101],169)]
 | .U=>[([fnV 102],169)]
 | .W=>[([fnV 103],169)]
 | .V=>[]
 | .L=>[([fnV 190],212),([fnV 191],95),([fnV 192],213),([fnV 193],214),([fnV 156],101),([fnV 188],201)]
 | .Y=>[([fnV 195],217),([fnV 168],180),([fnV 170],218),([fnV 172],219),([fnV 174],185),([fnV 176],204)]
 | .F=>[([fnV 202],226),([fnV 196],181),([fnV 197],220),([fnV 198],221),([fnV 199],188),([fnV 200],223)]
 | .Sz=>[([fnV 109],173)]
 | .Rg=>[([fnV 110],173)]
 | .aN=>[([fnV 95],159),([fnV 95],159)]
 | .aM=>[([fnV 96],159),([fnV 96],159)]
 | .pN=>[([fnV 95],159),([fnV 95],159),([.bool false],4)]
 | .pM=>[([fnV 96],159),([fnV 96],159),([.bool true],4)]
 | .far=>[]
def Fl.ids:Fl->Nat×Nat×Nat×Nat×Nat×Nat
 | .D=>(159,151,153,154,155,157)
 | .A=>(159,151,153,154,155,157)
 | .B=>(159,151,153,154,155,157)
 | .N=>(159,160,161,162,163,164)
 | .M=>(159,160,161,162,163,164)
 | .P=>(159,160,161,162,163,164)
 | .T=>(166,167,169,171,173,175)
 | .U=>(166,167,169,171,173,175)
 | .W=>(166,167,169,171,173,175)
 | .V=>(177,178,179,181,183,185)
 | .L=>(261,262,263,264,265,266)
 | .Y=>(268,269,270,271,272,273)
 | .F=>(274,275,276,277,278,279)
 | .Sz=>(203,204,205,207,209,211)
 | .Rg=>(203,204,205,207,209,211)
 | .aN=>(159,212,213,215,217,218)
 | .aM=>(159,212,213,215,217,218)
 | .pN=>(159,220,221,223,225,226)
 | .pM=>(159,220,221,223,225,226)
 | .far=>(227,228,229,230,231,232)
def Fl.caps:Fl->List Nat×List Nat×List Nat×List Nat×List Nat×List Nat
 | .D=>([0],[1],[1],[1],[1],[1])
 | .A=>([0],[1],[1],[1],[1],[1])
 | .B=>([0],[1],[1],[1],[1],[1])
 | .N=>([0],[0],[0],[0],[0],[0])
 | .M=>([0],[0],[0],[0],[0],[0])
 | .P=>([0],[0],[0],[0],[0],[0])
 | .T=>([0],[0],[0],[0],[0],[0])
 | .U=>([0],[0],[0],[0],[0],[0])
 | .W=>([0],[0],[0],[0],[0],[0])
 | .V=>([],[],[],[],[],[])
 | .L=>([0],[0,1],[0,2],[0,3],[0,4],[5,0])
 | .Y=>([0],[0,1],[0,2],[0,3],[0,4],[5,0])
 | .F=>([0],[0,1],[0,2],[0,3],[0,4],[5,0])
 | .Sz=>([0],[],[0],[0],[0],[0])
 | .Rg=>([0],[],[0],[0],[0],[0])
 | .aN=>([0],[1],[1],[1],[1],[1])
 | .aM=>([0],[1],[1],[1],[1],[1])
 | .pN=>([0],[1,2],[1],[2,1],[1],[1])
 | .pM=>([0],[1,2],[1],[2,1],[1],[1])
 | .far=>([],[],[],[],[],[])
def xL (g:Nat->Nat) (l:List Nat):List CV:=l.map λj=>.one (.val (.pointer (some ⟨g j,0,none⟩)))
def eH (f:Nat) (g:Nat->Nat) (l:List Nat):SV:=.val (.func (.func f) #[] (l.map λj=>Value.pointer (some ⟨g j,0,none⟩)).toArray)
def Fl.cells (f:Fl) (g:Nat->Nat):List SV :=
 [eH f.ids.1 g f.caps.1,eH f.ids.2.1 g f.caps.2.1,eH f.ids.2.2.1 g f.caps.2.2.1,eH f.ids.2.2.2.1 g f.caps.2.2.2.1,eH f.ids.2.2.2.2.1 g f.caps.2.2.2.2.1,eH f.ids.2.2.2.2.2 g f.caps.2.2.2.2.2]
def OF:List (List UInt8×List UInt8×List Fl) :=
 [([83,84,69,80,32,78],[83,84,69,80],[.N]),
   ([67,79,78,83,84,32,68,32,84,32,86],[67,79,78,83,84],[.D,.T,.V]),
   ([77,79,86,69,32,68,32,65],[77,79,86,69],[.D,.A]),
   ([66,65,83,69,32,68,32,78,32,77,32,80],[66,65,83,69],[.D,.N,.M,.P]),
   ([78,85,76,76,32,65],[78,85,76,76],[.A]),
   ([79,70,70,32,68,32,65,32,78],[79,70,70],[.D,.A,.N]),
   ([73,78,68,69,88,32,68,32,65,32,66,32,78,32,77,32,80],[73,78,68,69,88],[.D,.A,.B,.N,.M,.P]),
   ([76,79,65,68,32,68,32,65,32,84],[76,79,65,68],[.D,.A,.T]),
   ([83,84,79,82,69,32,65,32,66,32,84],[83,84,79,82,69],[.A,.B,.T]),
   ([65,82,73,84,72,32,68,32,65,32,66,32,78,32,85,32,87,32,84],[65,82,73,84,72],[.D,.A,.B,.N,.U,.W,.T]),
   ([67,79,78,86,32,68,32,65,32,84,32,85,32,83,105,122,101],[67,79,78,86],[.D,.A,.T,.U,.Sz]),
   ([83,84,82,73,78,71,32,68,32,78,32,76,32,89,32,84,32,82,97,110,103,101],[83,84,82,73,78,71],[.D,.N,.L,.Y,.T,.Rg]),
   ([67,77,80,32,68,32,65,32,66,32,78,32,85,32,87],[67,77,80],[.D,.A,.B,.N,.U,.W]),
   ([74,85,77,80,32,64,78],[74,85,77,80],[.aN]),
   ([66,82,65,78,67,72,32,65,32,64,78],[66,82,65,78,67,72],[.A,.aN]),
   ([71,79,84,79,32,33,80,64,78],[71,79,84,79],[.far]),
   ([67,65,76,76,32,68,32,33,78,32,76],[67,65,76,76],[.D,.pN,.L]),
   ([82,69,84,85,82,78,32,65],[82,69,84,85,82,78],[.A]),
   ([79,78,32,78,32,80,32,33,77],[79,78],[.N,.P,.pM]),
   ([82,69,86,69,82,84,32,78,32,80],[82,69,86,69,82,84],[.N,.P]),
   ([83,73,71,78,65,76,32,78,32,80],[83,73,71,78,65,76],[.N,.P]),
   ([65,76,76,79,67,32,68,32,65,32,78,32,77],[65,76,76,79,67],[.D,.A,.N,.M]),
   ([70,82,69,69,32,65,32,66,32,77],[70,82,69,69],[.A,.B,.M]),
   ([80,85,83,72,32,78],[80,85,83,72],[.N]),
   ([80,79,80,32,78],[80,79,80],[.N]),
   ([71,69,78,83,32,68,32,78],[71,69,78,83],[.D,.N]),
   ([80,85,84,32,80,32,78,32,70,32,76,32,89],[80,85,84],[.P,.N,.F,.L,.Y]),
   ([71,69,84,32,68,32,80,32,78,32,70,32,84,32,64,77],[71,69,84],[.D,.P,.N,.F,.T,.aM]),
   ([82,69,65,68,32,68,32,65,32,85,32,80,32,84,32,64,77],[82,69,65,68],[.D,.A,.U,.P,.T,.aM]),
   ([87,82,73,84,69,32,78,32,80,32,65,32,85,32,66,32,87],[87,82,73,84,69],[.N,.P,.A,.U,.B,.W]),
   ([67,79,80,89,32,65,32,66,32,78,32,77],[67,79,80,89],[.A,.B,.N,.M]),
   ([79,70,70,83,69,84,32,68,32,65,32,66,32,78],[79,70,70,83,69,84],[.D,.A,.B,.N]),
   ([80,79,73,78,84,32,68,32,65,32,66,32,78],[80,79,73,78,84],[.D,.A,.B,.N]),
   ([67,79,68,69,32,68],[67,79,68,69],[.D]),
   ([75,69,89,32,68],[75,69,89],[.D]),
   ([83,79,85,82,67,69,32,68],[83,79,85,82,67,69],[.D]),
   ([83,84,79,80],[83,84,79,80],[]),
   ([65,68,68,82,32,68,32,65],[65,68,68,82],[.D,.A])]
def LQ (o:Nat):List UInt8×List UInt8×List Fl:=OF.getD (o - 1) ([],[],[])
def O7 (o:Nat):List UInt8:=(LQ o).1
def s6 (o:Nat):List UInt8:=(LQ o).2.1
def c6 (o:Nat):List Fl:=(LQ o).2.2
def u5 (o:Nat):List (List UInt8):=s6 o::(c6 o).map Fl.name
def F8 (o:Nat):Bool:=decide (1<=o)&&decide (o<=38)
theorem p6 (o:Nat):F8 o=true↔1<=o/\o<=38:=by simp [F8]
theorem D7 {p:Nat->Bool} (h:((a2f 38).all λi=>p (i+1))=true) {o:Nat} (ho:F8 o=true):p o=true:=by
 have h1:=(p6 o).1 ho;have:=a0y.1 h (o - 1) (a3f.2 (by omega))
 rwa [show o - 1+1=o by omega] at this
theorem vx {o:Nat} (ho:F8 o=true):a6m (O7 o)=u5 o:=by
 have:=D7 (p:=λo=>a6m (O7 o)==u5 o) kq ho;exact eq_of_beq this
theorem Bi {o:Nat} (ho:F8 o=true):(O7 o).length<4294967281/\(O7 o).all (λb=>decide (b.toNat<128))=true/\(a6m (O7 o)).length<=4294967296:=by
 have:=D7 (p:=λo=>decide ((O7 o).length<4294967281)&&((O7 o).all (λb=>decide (b.toNat<128))&&decide ((a6m (O7 o)).length<=4294967296))) kq ho;simpa using this
def HN (f:Fl) (g:Nat->Nat):Value:=.agg ((f.cells g).map SV.den0).toArray
def D8 (o g:Nat):Row:=d5 z7 [] (u5 o) (some ⟨g,0,none⟩) (u5 o).length 9 1 false
def fy (o g:Nat):Value:=.slice (some ⟨g,0,none⟩) (u5 o).length (u5 o).length
def esL (q:Nat->Nat):Nat->List Nat->List MapEntry
 | _,[]=>[]
 | i,o::l=>{ key:=.int .i64 (o:Int),val:=fy o (q o),born:=i }::esL q (i+1) l
structure Kc where
 gF:Nat
 gO:Nat
 a:Fl->Nat->Nat
 q:Nat->Nat
 esF:Array MapEntry
 ckF:Nat
 esO:Array MapEntry
 ckO:Nat
def eJ (l:List Nat) (q:Nat->Nat):m6:=L0 (l.map λo=>e8 (D8 o (q o)))
def Kc.all (K:Kc):List m6:=[jr K.gF (.map K.esF K.ckF),jr K.gO (.map K.esO K.ckO),eJ ((a2f 38).map (· + 1)) K.q]++Fl.all.flatMap λf=>ck (K.a f) f.bl 0
def cdP (K:Kc):m6:=L0 K.all
def Kc.ok (K:Kc):Prop :=
 (∀ (f:Fl) (j:Nat),j<f.bl.length->12<=K.a f j) /\
 (∀ f:Fl,∃ i,Instr.findNow .string (.string ⟨f.name.toArray⟩) K.esF.toList 0=some (some (i,HN f (K.a f)))) /\
 ∃ done:List Nat,done.Nodup/\(∀ o,o∈done↔F8 o=true)/\K.esO.toList=esL K.q 0 done/\K.ckO=done.length
def Kc.val (K:Kc):RV:=.v (.agg [.val (.map (some K.gF)),.val (.map (some K.gO))])
theorem aQ (l:List Nat) (q:Nat->Nat):dE (eJ l q):=H9 λp hp=>by
 obtain ⟨o,_,rfl⟩:=a1d.1 hp;exact l7 _
theorem Kc.all_stab (K:Kc):∀ p∈K.all,dE p:=by
 intro p hp;rcases a2s.1 hp with hp | hp
 ·simp only [a0k,a1a,or_false] at hp;rcases hp with rfl|rfl|rfl
  ·exact gi _ _
  ·exact gi _ _
  ·exact aQ _ _
 ·obtain ⟨f,_,hp⟩:=List.mem_flatMap.1 hp;exact kQ p hp
theorem oY (K:Kc):dE (cdP K):=H9 K.all_stab
theorem th {q:Nat->Nat}:∀ {l:List Nat} {i:Nat} {e:MapEntry},e∈esL q i l->∃ o,o∈l/\e.key=.int .i64 (o:Int)/\e.val=fy o (q o)/\i<=e.born/\e.born<i+l.length
 | [],i,e,h=>by simp [esL] at h
 | o::l,i,e,h=>by
  simp only [esL,a0k] at h;rcases h with rfl | h
  ·exact ⟨o,a0f ..,rfl,rfl,a0q _,by simp⟩
  ·obtain ⟨o',h1,h2,h3,h4,h5⟩:=th h;exact ⟨o',a0e _ h1,h2,h3,by omega,by simp only [a0p]; omega⟩
theorem vy (q:Nat->Nat) (o:Nat):∀ (l:List Nat) (i:Nat),esL q i (l++[o])=esL q i l++[{ key:=.int .i64 (o:Int),val:=fy o (q o),born:=i+l.length }]
 | [],i=>by simp [esL]
 | x::l,i=>by
  simp only [List.cons_append,esL,vy q o l (i+1),a0p];rw [show i+1+l.length=i+(l.length+1) by omega]
theorem ry {q q':Nat->Nat}:∀ {l:List Nat} {i:Nat},(∀ o∈l,q o=q' o)->esL q i l=esL q' i l
 | [],i,_=>rfl
 | x::l,i,h=>by
  simp only [esL];rw [h x (a0f ..),ry (λo ho=>h o (a0e _ ho))]
theorem vz (q:Nat->Nat):∀ (l:List Nat) (i:Nat),(esL q i l).map (·.born)=(a2f l.length).map (i+·)
 | [],i=>by simp [esL]
 | x::l,i=>by
  simp only [esL,a3h,vz q l (i+1),a0p,List.range_succ_eq_map,a3h,Nat.add_zero,a3q];congr 1;apply a2g;intro j _;simp only [Function.comp];omega
theorem cm {q:Nat->Nat} {n:Int}:∀ {l:List Nat} {i j:Nat},(∀ o∈l,(o:Int)≠n)->Instr.findNow (.int .i64) (.int .i64 n) (esL q i l) j=some none
 | [],i,j,_=>rfl
 | x::l,i,j,h=>by
  have h1:(n==(x:Int))=false:=by
   have:=h x (a0f ..);simp; omega
  simp only [esL,Instr.findNow,Instr.sameNow,if_true,h1];exact cm (λo ho=>h o (a0e _ ho))
theorem oZ {q:Nat->Nat} {o:Nat}:∀ {l:List Nat} {i j:Nat},o∈l->∃ k,Instr.findNow (.int .i64) (.int .i64 (o:Int)) (esL q i l) j=some (some (k,fy o (q o)))
 | x::l,i,j,h=>by
  by_cases e:o=x
  ·subst e;exact ⟨j,by simp [esL,Instr.findNow,Instr.sameNow]⟩
  ·have h1:((o:Int)==(x:Int))=false:=by simp; omega
   have h2:o∈l:=by
    rcases a0k.1 h with h | h
    ·exact absurd h e
    ·exact h
   obtain ⟨k,hk⟩:=oZ (q:=q) (i:=i+1) (j:=j+1) h2;exact ⟨k,by simp only [esL,Instr.findNow,Instr.sameNow,if_true,h1]; exact hk⟩
def pd (o g:Nat):Option Addr:=U5 (some ⟨g,0,none⟩) 1 1 (u5 o).length
def V6 (o g:Nat):Row:=d5 z7 [] ((c6 o).map Fl.name) (pd o g) (c6 o).length 9 1 false
theorem G6 (o:Nat):(u5 o).length=(c6 o).length+1:=by simp [u5]
theorem ti {o g k:Nat} (h:(V6 o g).uses k):k=g/\0<(c6 o).length:=by
 obtain ⟨a,h1,h2,h3⟩:=h;have hn:0<(c6 o).length:=by
  rcases h3 with h3 | h3 | h3
  ·cases h3
  ·simpa [V6,d5] using h3
  ·simp [V6,d5] at h3
 refine ⟨?_,hn⟩;have mE:pd o g=some a:=h1;unfold pd U5 at mE;rw [if_neg (by rw [G6]; omega)] at mE;simp only [Option.map_some,a0l] at mE;rw [<- h2,<- mE];rfl
theorem xM {o g:Nat} {w:World} (h:(D8 o g).ok w):(V6 o g).ok w:=by
 refine ⟨λi hi=>⟨rfl,λx hx=>?_⟩,λhn=>?_,λe=>(by cases e),λo e=>(by cases e)⟩
 ·have:x=.str (((c6 o).map Fl.name).getD i []):=by simpa [V6,d5,z7] using hx
  subst this; trivial
 ·have dc:0<((c6 o).map Fl.name).length:=hn;rw [a1k] at dc;obtain ⟨b,off,h1,h2⟩:=h.addr (by show 0<(u5 o).length; rw [G6]; omega);have e:(⟨g,0,none⟩:Addr)=⟨b,off,none⟩:=a2h h1;cases e;refine ⟨g,1,?_,λi j x hi hx=>?_⟩
  ·show pd o g=_;unfold pd U5;rw [if_neg (by rw [G6]; omega)];rfl
  ·have ao:i<((c6 o).map Fl.name).length:=hi;rw [a1k] at ao;have:=h2 (i+1) j x (by show i+1<(u5 o).length; rw [G6]; omega) (by
    have:(D8 o g).get (i+1)=(V6 o g).get i:=by simp [D8,V6,d5,u5]
    rw [this]; exact hx)
   rw [<- this];have e2:(D8 o g).size=1:=rfl;have e3:(V6 o g).size=1:=rfl;rw [e2,e3];congr 2;omega
structure OI where
 l:List Fl
 i:Nat
 q:Option Addr
 c:Nat
def Sa (K:Kc) (o:Nat) (j:OI):St :=
 { n:=36,slots:=[(2,ov (.ptr 0 0)),(8,ov (.row 0 j.q j.l.length j.c)),(21,ov (.row 1 (pd o (K.q o)) ((c6 o).map Fl.name).length (c6 o).length)),(22,ov (.int .i64 (c6 o).length)),(23,ov (.int .i64 j.i))],gs:=[],
    heap:=[(0,⟨[.val (.map (some K.gF)),.val (.map (some K.gO))],110,true⟩)],next:=1,rows:=[(0,d5 (λf=>f.cells (K.a f)) .D j.l j.q j.c 165 6 true),(1,V6 o (K.q o))],nr:=2,pers:=[cdP K],wr:=true,fx:=0 }
def fsF (K:Kc) (l:List Fl) (x:Option Addr×Nat):St:={ noF with rows:=[(0,d5 (λf=>f.cells (K.a f)) .D l x.1 x.2 165 6 true)],nr:=1 }
theorem dZ {K:Kc} {C:Ctx} {ρ:Nat->Nat} {s:St} {a:Act} {w:World} (h:Sat C ρ s a w) (hp:cdP K∈s.pers):w.heap[K.gF]?=some (.map K.esF K.ckF)/\w.heap[K.gO]?=some (.map K.esO K.ckO):=by
 have h1:(cdP K).φ w:=(h.pers _ hp).1;exact ⟨h1 _ (a1w _ (a0f ..)),h1 _ (a1w _ (a0e _ (a0f ..)))⟩
theorem cOf (K:Kc) (hK:K.ok) (o:Nat) (ho:F8 o=true):CallsK a0a 115 [.agg [.val (.map (some K.gF)),.val (.map (some K.gO))],.one (.int .i64 (o:Int))] (z8 [cdP K])
  (λ_:Option Addr×Nat=>True) (λx=>.tup [.one (.row 0 x.1 (c6 o).length x.2),.one (.sb true)]) (fsF K (c6 o)):=by
 obtain ⟨NC,Rr,done,iS,N4,Cm,Rk⟩:=hK;have ic:1<=o/\o<=38:=(p6 o).1 ho;have lK:(c6 o).length<=7:=by
  have:=D7 (p:=λo=>decide ((c6 o).length<=7)) kq ho;simpa using this
 refine a0j true Tryz.func115 fun ρ w=>V.q<|mS 108 3 118 (.int .i64) K.gO (.one (.int .i64 (o:Int))) true (.int .i64 (o:Int)) (some (fy o (K.q o))) undef (.tup [.one (.val (fy o (K.q o))),.one (.bool true)]) kq kq kq kq
  (fun ρ a w hS=>?_) (λ_=>rfl) (λh=>by cases h) (λ_=>rfl) (by intro y hy; simp only [a0k,a1a,or_false] at hy; rcases hy with rfl|rfl<;>trivial) (λg pol b y h=>by cases h) kq ?_
 ·obtain ⟨k,hk⟩:=oZ (q:=K.q) (i:=0) (j:=0) ((N4 o).2 ho);exact ⟨K.esO,K.ckO,_,(dZ hS (a0v (i:=0) kq)).2,by rw [Cm]; exact hk,rfl⟩
 refine V.t [] [(0:Int)<=1/\(1:Int)<=((u5 o).length:Int)/\((u5 o).length:Int)<=((u5 o).length:Int)] ⟨by omega,by rw [G6]; omega,by omega⟩ ?_;have wO:((u5 o).length:Int).toNat - (1:Int).toNat=(c6 o).length:=by rw [G6]; omega
 have GK:(u5 o).length - (1:Int).toNat=(c6 o).length:=by rw [G6]; rfl
 refine jp 21 (.one (.val (.slice (U5 (some ⟨K.q o,0,none⟩) (1:Int).toNat 1 (u5 o).length) (((u5 o).length:Int).toNat - (1:Int).toNat) ((u5 o).length - (1:Int).toNat)))) (.one (.val (.slice (pd o (K.q o)) ((c6 o).map Fl.name).length (c6 o).length))) kq kq
  (λ_=>by rw [wO,GK,a1k]; rfl) ?_
 refine V.s 22 (.one (.int .i64 ((((u5 o).length:Int).toNat - (1:Int).toNat:Nat):Int))) (.one (.int .i64 ((c6 o).length:Int))) (λ_=>by rw [wO])<|w4 0 K.all (eJ ((a2f 38).map (· + 1)) K.q) kq (a1w _ (a0e _ (a0e _ (a0f ..)))) (aQ _ _)<|w4 0 (((a2f 38).map (· + 1)).map λo=>e8 (D8 o (K.q o))) (e8 (D8 o (K.q o))) kq (a1d.2 ⟨o,a1d.2 ⟨o - 1,a3f.2 (by omega),by omega⟩,rfl⟩) (l7 _)<|O3 [(0,false)] [e8 (D8 o (K.q o))] (e8 (V6 o (K.q o))) kq (λk hk=>⟨_,a0d.2 rfl,?_⟩) (λw hw=>xM (hw _ (a0d.2 rfl))) (l7 _) ?_
 ·rw [(ti hk).1];exact ⟨_,rfl,rfl,.inr (.inl (by show 0<(u5 o).length; rw [G6]; omega))⟩
 refine G4 21 0 (V6 o (K.q o))<|U9 (λf=>Fl.cells f (K.a f)) .D 8 165 6 kq kq<|j6 [2,8,21,22,23] [false,false,false,true] (λj:OI=>(c6 o).length - j.i) (Sa K o) (λj=>j.i<=(c6 o).length/\j.l=(c6 o).take j.i) ⟨[],0,none,0⟩ kq ⟨a0s _,rfl⟩ (λj hj ih=>?_);obtain ⟨l,i,q,c⟩:=j;obtain ⟨hj,hl⟩:=hj;simp only at hj hl;refine a1l<|V.q<|f9 24 (decide ((i:Int)<(c6 o).length)) (λhb=>?_) (λhb=>?_)
 ·have e9:i<(c6 o).length:=by simpa using hb
  have km:((c6 o).map Fl.name).getD i []=((c6 o).getD i .D).name:=by
   rw [a0r,a0r,a2t,a0b e9]; rfl
  refine V.t [] [(0:Int)<=i/\(i:Int)<((((c6 o).map Fl.name).length:Nat):Int)] ⟨by omega,by rw [a1k]; omega⟩ ?_;generalize hf:(c6 o).getD i .D=f at km;refine V.s 30 (.one (.str (((c6 o).map Fl.name).getD i []))) (.one (.str f.name)) (λ_=>by rw [km])<|mS 107 9 165 .string K.gF (.one (.str f.name)) false (.string ⟨f.name.toArray⟩) (some (HN f (K.a f))) undef (.v (.agg (f.cells (K.a f)))) kq kq kq kq
   (fun ρ a w hS=>?_) (λ_=>rfl) (λh=>by cases h) (λ_=>rfl) (by intro y hy; simp only [Fl.cells,a0k,a1a,or_false] at hy; rcases hy with rfl|rfl|rfl|rfl|rfl|rfl<;>trivial) (λg pol b y h=>by cases h) kq ?_
  ·obtain ⟨k,hk⟩:=Rr f;exact ⟨K.esF,K.ckF,_,(dZ hS (a0v (i:=0) kq)).1,hk,rfl⟩
  refine V.q ?_;have n8:l.length=i:=by rw [hl,a2b]; omega
  refine a6q (λf=>Fl.cells f (K.a f)) .D l f 0 q c 165 6 (f.cells (K.a f)) 48 kq (by omega) rfl (λ_ _=>kq) λq' c'=>V.q<|a3v 23 i (by omega)<|d9 [2,8,21,22,23] [true] (ih ⟨l++[f],i+1,q',c'⟩ ⟨e9,?_⟩ (by simp only; omega)) kq kq;simp only;rw [hl,a2c,a0b e9,<- hf,a0r,a0b e9];rfl
 ·have B0:(c6 o).length=i:=by
   have:¬ i<(c6 o).length:=by simpa using hb
   omega
  refine V.q ?_;have aC:l=c6 o:=by rw [hl,<- B0,a1o]
  subst aC;exact a4o 5 true<|V.e ((q,c):Option Addr×Nat) [] trivial
theorem LR (K:Kc) (f:Fl) {q:m6} {ps:List m6} (h:q∈ck (K.a f) f.bl 0):Drv (cdP K::ps) q :=
 Df (kQ q h) (a0f ..) (List.mem_append_right _ (List.mem_flatMap.2 ⟨f,f.mem_all,h⟩))
theorem cdi (K:Kc) (f:Fl) (i:Nat) {q:m6} {ps:List m6} (h:(ck (K.a f) f.bl 0)[i]?=some q:=by rfl):Drv (cdP K::ps) q:=LR K f (a0v h)
theorem lsi {ps:List m6} (i:Nat) {R:Row} (h:ps[i]?=some (e8 R):=by rfl):Drv ps (e8 R):=vd (l7 _) (a0v h)
theorem dv0 {ps:List m6}:∀ q∈([]:List m6),Drv ps q:=λq hq=>absurd hq (a1a)
theorem dv {ps l:List m6} {p:m6} (h:Drv ps p) (t:∀ q∈l,Drv ps q):∀ q∈p::l,Drv ps q:=λq hq=>by
 rcases a0k.1 hq with rfl | hq
 ·exact h
 ·exact t q hq
theorem ogv {P:Program} {f:FuncId} {ys:List CV} {ps:List m6} {v:RV} (h:∀ (ρ:Nat->Nat) (w:World),C9 ps w->Calls P f (ys.map (CV.den (λ_=>0))).toArray w (u6 (v.den ρ) w)) (hv:io v=true:=by rfl) (hy:ys.all Q8=true:=by rfl) :
  CallsK P f ys (stP ps) (λ_:Unit=>True) (λ_=>v) (λ_=>stP []):=fk hv fun ρ w hp=>by rw [fi hy ρ (λ_=>0)]; exact h ρ w hp
def In.okL (x:In):Prop:=x.f.length<=1000/\x.l.length<=1000/\x.y.length<=1000
def In.okM (x:In):Prop:=x.f.length<=1000000/\x.l.length<=1000000/\x.y.length<=1000000
theorem In.okL.okM {x:In} (h:x.okL):x.okM:=⟨a0n h.1 (by decide),a0n h.2.1 (by decide),a0n h.2.2 (by decide)⟩
theorem HO (x y:In) (A B:IA):CallsK a0a 227 [.one (.ptr 0 0),.agg (inV x A)] (mvF [] y B) (λ_:Unit=>True) (λ_=>.tup []) (λ_=>mvF [] { y with n:=x.n,p:=x.p } B):=by
 exact a0j false Tryz.func227 fun ρ w=>V.q<|p9 [0] [] 12 kq<|@a1z _ [0] [] 12 _ _ ([]:List (Ent a0a)) [] kq kq trivial<|@VX.store _ [0] [] 12 _ _ 8 kq kq kq<|@a1z _ [0] [] 12 _ _ ([]:List (Ent a0a)) [] kq kq trivial<|@VX.store _ [0] [] 12 _ _ 11 kq kq kq<|o7 kq<|V.q<|V.z
def Fl.fineB (f:Fl) (x:In):Bool:=match f with
 | .D=>cH (a0u .D x)
 | .A=>cH (a0u .A x)
 | .B=>cH (a0u .B x)
 | .N=>n9 (a0u .N x)
 | .M=>n9 (a0u .M x)
 | .P=>n9 (a0u .P x)
 | .T=>J4 (a3l .T x)
 | .U=>J4 (a3l .U x)
 | .W=>J4 (a3l .W x)
 | .V=>cI x
 | .L=>x.l.all N0&&decide ((x.l.length:Int)<=16)
 | .Y=>x.y.all J4&&decide ((x.y.length:Int)<=16)
 | .F=>x.f.all Q9&&decide ((x.f.length:Int)<=16)
 | .Sz=>true
 | .Rg=>true
 | .aN=>fo (a0u .N x)
 | .aM=>fo (a0u .M x)
 | .pN=>bD false (a0u .N x)
 | .pM=>bD true (a0u .M x)
 | .far=>O5 x
def Fl.mv (f:Fl) (x y:In):In:=match f with
 | .D=>a1i .D y (a0u .D x)
 | .A=>a1i .A y (a0u .A x)
 | .B=>a1i .B y (a0u .B x)
 | .N=>a1i .N y (a0u .N x)
 | .M=>a1i .M y (a0u .M x)
 | .P=>a1i .P y (a0u .P x)
 | .T=>a4q .T y (a3l .T x)
 | .U=>a4q .U y (a3l .U x)
 | .W=>a4q .W y (a3l .W x)
 | .V=>{ y with vn:=x.vn,vs:=x.vs }
 | .L=>{ y with l:=x.l }
 | .Y=>{ y with y:=x.y }
 | .F=>{ y with f:=x.f }
 | .Sz=>a6z .S y (a5i .S x)
 | .Rg=>a6z .R y (a5i .R x)
 | .aN=>a1i .N y (a0u .N x)
 | .aM=>a1i .M y (a0u .M x)
 | .pN=>a1i .N y (a0u .N x)
 | .pM=>a1i .M y (a0u .M x)
 | .far=>{ y with n:=x.n,p:=x.p }
def Fl.mvA (f:Fl) (A B:IA):IA:=match f with
 | .L=>{ B with ql:=A.ql,cl:=A.cl }
 | .Y=>{ B with qy:=A.qy,cy:=A.cy }
 | .F=>{ B with qf:=A.qf,cf:=A.cf }
 | _=>B
theorem LS (f:Fl) (K:Kc) (x:In) (A:IA) (hx:x.okL):CallsK a0a f.ids.2.1 (.agg (inV x A)::xL (K.a f) f.caps.2.1) (stP (cdP K::lsP x A)) (λ_:Unit=>True) (λ_=>ov (.sb (f.fineB x))) (λ_=>stP []):=by
 cases f
 case D =>
  exact (ogv (ys:=[.agg (inV x A),.one (.val (.pointer (some ⟨K.a .D 1,0,none⟩)))]) (ps:=[a4y .D (K.a .D 1)]) (v:=.v (.one (.sb (Fl.fineB .D x)))) fun ρ w hp=>sM .D x A (K.a .D 1) w hp).pers (cdP K::lsP x A) (dv (cdi K .D 1) dv0)
 case A =>
  exact (ogv (ys:=[.agg (inV x A),.one (.val (.pointer (some ⟨K.a .A 1,0,none⟩)))]) (ps:=[a4y .A (K.a .A 1)]) (v:=.v (.one (.sb (Fl.fineB .A x)))) fun ρ w hp=>sM .A x A (K.a .A 1) w hp).pers (cdP K::lsP x A) (dv (cdi K .A 1) dv0)
 case B =>
  exact (ogv (ys:=[.agg (inV x A),.one (.val (.pointer (some ⟨K.a .B 1,0,none⟩)))]) (ps:=[a4y .B (K.a .B 1)]) (v:=.v (.one (.sb (Fl.fineB .B x)))) fun ρ w hp=>sM .B x A (K.a .B 1) w hp).pers (cdP K::lsP x A) (dv (cdi K .B 1) dv0)
 case N =>
  exact (ogv (ys:=[.agg (inV x A),.one (.val (.pointer (some ⟨K.a .N 0,0,none⟩)))]) (ps:=[a4y .N (K.a .N 0)]) (v:=.v (.one (.sb (Fl.fineB .N x)))) fun ρ w hp=>sL .N x A (K.a .N 0) w hp).pers (cdP K::lsP x A) (dv (cdi K .N 0) dv0)
 case M =>
  exact (ogv (ys:=[.agg (inV x A),.one (.val (.pointer (some ⟨K.a .M 0,0,none⟩)))]) (ps:=[a4y .M (K.a .M 0)]) (v:=.v (.one (.sb (Fl.fineB .M x)))) fun ρ w hp=>sL .M x A (K.a .M 0) w hp).pers (cdP K::lsP x A) (dv (cdi K .M 0) dv0)
 case P =>
  exact (ogv (ys:=[.agg (inV x A),.one (.val (.pointer (some ⟨K.a .P 0,0,none⟩)))]) (ps:=[a4y .P (K.a .P 0)]) (v:=.v (.one (.sb (Fl.fineB .P x)))) fun ρ w hp=>sL .P x A (K.a .P 0) w hp).pers (cdP K::lsP x A) (dv (cdi K .P 0) dv0)
 case T =>
  exact (ogv (ys:=[.agg (inV x A),.one (.val (.pointer (some ⟨K.a .T 0,0,none⟩)))]) (ps:=[m7.blk .T (K.a .T 0)]) (v:=.v (.one (.sb (Fl.fineB .T x)))) fun ρ w hp=>xy .T x A (K.a .T 0) w hp).pers (cdP K::lsP x A) (dv (cdi K .T 0) dv0)
 case U =>
  exact (ogv (ys:=[.agg (inV x A),.one (.val (.pointer (some ⟨K.a .U 0,0,none⟩)))]) (ps:=[m7.blk .U (K.a .U 0)]) (v:=.v (.one (.sb (Fl.fineB .U x)))) fun ρ w hp=>xy .U x A (K.a .U 0) w hp).pers (cdP K::lsP x A) (dv (cdi K .U 0) dv0)
 case W =>
  exact (ogv (ys:=[.agg (inV x A),.one (.val (.pointer (some ⟨K.a .W 0,0,none⟩)))]) (ps:=[m7.blk .W (K.a .W 0)]) (v:=.v (.one (.sb (Fl.fineB .W x)))) fun ρ w hp=>xy .W x A (K.a .W 0) w hp).pers (cdP K::lsP x A) (dv (cdi K .W 0) dv0)
 case V =>
  exact (ogv (ys:=[.agg (inV x A)]) (ps:=[]) (v:=.v (.one (.sb (Fl.fineB .V x)))) fun ρ w hp=>Ht x A w).pers (cdP K::lsP x A) dv0
 case L =>
  exact (LA x A (K.a .L 0) (K.a .L 1) (a0n hx.2.1 (by decide))).pers (cdP K::lsP x A) (dv (cdi K .L 0) (dv (cdi K .L 1) (dv (lsi 2) dv0)))
 case Y =>
  exact (LB x A (K.a .Y 0) (K.a .Y 1) (a0n hx.2.2 (by decide))).pers (cdP K::lsP x A) (dv (cdi K .Y 0) (dv (cdi K .Y 1) (dv (lsi 3) dv0)))
 case F =>
  exact (LC x A (K.a .F 0) (K.a .F 1) (a0n hx.1 (by decide))).pers (cdP K::lsP x A) (dv (cdi K .F 0) (dv (cdi K .F 1) (dv (lsi 1) dv0)))
 case Sz =>
  exact (ogv (ys:=[.agg (inV x A)]) (ps:=[]) (v:=.v (.one (.sb (Fl.fineB .Sz x)))) fun ρ w hp=>vi x A w).pers (cdP K::lsP x A) dv0
 case Rg =>
  exact (ogv (ys:=[.agg (inV x A)]) (ps:=[]) (v:=.v (.one (.sb (Fl.fineB .Rg x)))) fun ρ w hp=>vi x A w).pers (cdP K::lsP x A) dv0
 case aN =>
  exact (ogv (ys:=[.agg (inV x A),.one (.val (.pointer (some ⟨K.a .aN 1,0,none⟩)))]) (ps:=[a4y .N (K.a .aN 1)]) (v:=.v (.one (.sb (Fl.fineB .aN x)))) fun ρ w hp=>Ds .N x A (K.a .aN 1) w hp).pers (cdP K::lsP x A) (dv (cdi K .aN 1) dv0)
 case aM =>
  exact (ogv (ys:=[.agg (inV x A),.one (.val (.pointer (some ⟨K.a .aM 1,0,none⟩)))]) (ps:=[a4y .M (K.a .aM 1)]) (v:=.v (.one (.sb (Fl.fineB .aM x)))) fun ρ w hp=>Ds .M x A (K.a .aM 1) w hp).pers (cdP K::lsP x A) (dv (cdi K .aM 1) dv0)
 case pN =>
  exact (ogv (ys:=[.agg (inV x A),.one (.val (.pointer (some ⟨K.a .pN 1,0,none⟩))),.one (.val (.pointer (some ⟨K.a .pN 2,0,none⟩)))]) (ps:=[a4y .N (K.a .pN 1),r9 (K.a .pN 2) [.sb false] 4]) (v:=.v (.one (.sb (Fl.fineB .pN x)))) fun ρ w hp=>vk .N false x A (K.a .pN 1) (K.a .pN 2) w hp).pers (cdP K::lsP x A) (dv (cdi K .pN 1) (dv (cdi K .pN 2) dv0))
 case pM =>
  exact (ogv (ys:=[.agg (inV x A),.one (.val (.pointer (some ⟨K.a .pM 1,0,none⟩))),.one (.val (.pointer (some ⟨K.a .pM 2,0,none⟩)))]) (ps:=[a4y .M (K.a .pM 1),r9 (K.a .pM 2) [.sb true] 4]) (v:=.v (.one (.sb (Fl.fineB .pM x)))) fun ρ w hp=>vk .M true x A (K.a .pM 1) (K.a .pM 2) w hp).pers (cdP K::lsP x A) (dv (cdi K .pM 1) (dv (cdi K .pM 2) dv0))
 case far =>
  exact (ogv (ys:=[.agg (inV x A)]) (ps:=[]) (v:=.v (.one (.sb (Fl.fineB .far x)))) fun ρ w hp=>Hu x A w).pers (cdP K::lsP x A) dv0
theorem LT (f:Fl) (K:Kc) (x y:In) (A B:IA):CallsK a0a f.ids.1 (.one (.ptr 0 0)::.agg (inV x A)::xL (K.a f) f.caps.1) (mvF (cdP K::lsP x A) y B) (λ_:Unit=>True) (λ_=>.tup []) (λ_=>mvF [] (f.mv x y) (f.mvA A B)):=by
 cases f
 case D =>
  exact (m5 (d8 (λ_=>rfl) (fun ρ w hF=>Y6 .D x y A B (K.a .D 0) ρ w hF)) (λz hz=>⟨(),trivial,rfl,by rw [hz]; rfl⟩)).pers (cdP K::lsP x A) (dv (cdi K .D 0) dv0)
 case A =>
  exact (m5 (d8 (λ_=>rfl) (fun ρ w hF=>Y6 .A x y A B (K.a .A 0) ρ w hF)) (λz hz=>⟨(),trivial,rfl,by rw [hz]; rfl⟩)).pers (cdP K::lsP x A) (dv (cdi K .A 0) dv0)
 case B =>
  exact (m5 (d8 (λ_=>rfl) (fun ρ w hF=>Y6 .B x y A B (K.a .B 0) ρ w hF)) (λz hz=>⟨(),trivial,rfl,by rw [hz]; rfl⟩)).pers (cdP K::lsP x A) (dv (cdi K .B 0) dv0)
 case N =>
  exact (m5 (d8 (λ_=>rfl) (fun ρ w hF=>Y6 .N x y A B (K.a .N 0) ρ w hF)) (λz hz=>⟨(),trivial,rfl,by rw [hz]; rfl⟩)).pers (cdP K::lsP x A) (dv (cdi K .N 0) dv0)
 case M =>
  exact (m5 (d8 (λ_=>rfl) (fun ρ w hF=>Y6 .M x y A B (K.a .M 0) ρ w hF)) (λz hz=>⟨(),trivial,rfl,by rw [hz]; rfl⟩)).pers (cdP K::lsP x A) (dv (cdi K .M 0) dv0)
 case P =>
  exact (m5 (d8 (λ_=>rfl) (fun ρ w hF=>Y6 .P x y A B (K.a .P 0) ρ w hF)) (λz hz=>⟨(),trivial,rfl,by rw [hz]; rfl⟩)).pers (cdP K::lsP x A) (dv (cdi K .P 0) dv0)
 case T =>
  exact (m5 (d8 (λ_=>rfl) (fun ρ w hF=>xz .T x y A B (K.a .T 0) ρ w hF)) (λz hz=>⟨(),trivial,rfl,by rw [hz]; rfl⟩)).pers (cdP K::lsP x A) (dv (cdi K .T 0) dv0)
 case U =>
  exact (m5 (d8 (λ_=>rfl) (fun ρ w hF=>xz .U x y A B (K.a .U 0) ρ w hF)) (λz hz=>⟨(),trivial,rfl,by rw [hz]; rfl⟩)).pers (cdP K::lsP x A) (dv (cdi K .U 0) dv0)
 case W =>
  exact (m5 (d8 (λ_=>rfl) (fun ρ w hF=>xz .W x y A B (K.a .W 0) ρ w hF)) (λz hz=>⟨(),trivial,rfl,by rw [hz]; rfl⟩)).pers (cdP K::lsP x A) (dv (cdi K .W 0) dv0)
 case V =>
  exact (m5 (d8 (λ_=>rfl) (fun ρ w hF=>Hs x y A B ρ w hF)) (λz hz=>⟨(),trivial,rfl,by rw [hz]; rfl⟩)).pers (cdP K::lsP x A) dv0
 case L =>
  exact (LD x y A B (K.a .L 0)).pers (cdP K::lsP x A) (dv (cdi K .L 0) dv0)
 case Y =>
  exact (LE x y A B (K.a .Y 0)).pers (cdP K::lsP x A) (dv (cdi K .Y 0) dv0)
 case F =>
  exact (LF x y A B (K.a .F 0)).pers (cdP K::lsP x A) (dv (cdi K .F 0) dv0)
 case Sz =>
  exact (m5 (d8 (λ_=>rfl) (fun ρ w hF=>vj .S x y A B (K.a .Sz 0) ρ w hF)) (λz hz=>⟨(),trivial,rfl,by rw [hz]; rfl⟩)).pers (cdP K::lsP x A) (dv (cdi K .Sz 0) dv0)
 case Rg =>
  exact (m5 (d8 (λ_=>rfl) (fun ρ w hF=>vj .R x y A B (K.a .Rg 0) ρ w hF)) (λz hz=>⟨(),trivial,rfl,by rw [hz]; rfl⟩)).pers (cdP K::lsP x A) (dv (cdi K .Rg 0) dv0)
 case aN =>
  exact (m5 (d8 (λ_=>rfl) (fun ρ w hF=>Y6 .N x y A B (K.a .aN 0) ρ w hF)) (λz hz=>⟨(),trivial,rfl,by rw [hz]; rfl⟩)).pers (cdP K::lsP x A) (dv (cdi K .aN 0) dv0)
 case aM =>
  exact (m5 (d8 (λ_=>rfl) (fun ρ w hF=>Y6 .M x y A B (K.a .aM 0) ρ w hF)) (λz hz=>⟨(),trivial,rfl,by rw [hz]; rfl⟩)).pers (cdP K::lsP x A) (dv (cdi K .aM 0) dv0)
 case pN =>
  exact (m5 (d8 (λ_=>rfl) (fun ρ w hF=>Y6 .N x y A B (K.a .pN 0) ρ w hF)) (λz hz=>⟨(),trivial,rfl,by rw [hz]; rfl⟩)).pers (cdP K::lsP x A) (dv (cdi K .pN 0) dv0)
 case pM =>
  exact (m5 (d8 (λ_=>rfl) (fun ρ w hF=>Y6 .M x y A B (K.a .pM 0) ρ w hF)) (λz hz=>⟨(),trivial,rfl,by rw [hz]; rfl⟩)).pers (cdP K::lsP x A) (dv (cdi K .pM 0) dv0)
 case far =>
  exact (HO x y A B).pers (cdP K::lsP x A) dv0
def Fl.enc (f:Fl) (x:In):List UInt8:=match f with
 | .D=>N3 (a0u .D x+1)
 | .A=>N3 (a0u .A x+1)
 | .B=>N3 (a0u .B x+1)
 | .N=>N3 (a0u .N x)
 | .M=>N3 (a0u .M x)
 | .P=>N3 (a0u .P x)
 | .T=>M9 (a3l .T x)
 | .U=>M9 (a3l .U x)
 | .W=>M9 (a3l .W x)
 | .V=>N3 x.vn++fl x.vs
 | .L=>ae eI x.l
 | .Y=>ae M9 x.y
 | .F=>ae W4 x.f
 | .Sz=>[sK (a5i .S x)]
 | .Rg=>[sK (a5i .R x)]
 | .aN=>Z0 (a0u .N x)
 | .aM=>Z0 (a0u .M x)
 | .pN=>fp (a0u .N x)
 | .pM=>fp (a0u .M x)
 | .far=>Z0 x.n
def Fl.rel (f:Fl) (x:In) (n:Nat):List (Int×Int):=match f with
 | .pN=>X5 (a0u .N x) n
 | .pM=>X5 (a0u .M x) n
 | .far=>[((n:Nat),x.p)]
 | _=>[]
def Fl.rd (f:Fl) (rl:List (Int×Int)) (X:RIn) (r:RSt) (x:In):RSt×In:=match f with
 | .D=>((c7 X r).2,a1i .D x ((c7 X r).1 - 1))
 | .A=>((c7 X r).2,a1i .A x ((c7 X r).1 - 1))
 | .B=>((c7 X r).2,a1i .B x ((c7 X r).1 - 1))
 | .N=>((c7 X r).2,a1i .N x (c7 X r).1)
 | .M=>((c7 X r).2,a1i .M x (c7 X r).1)
 | .P=>((c7 X r).2,a1i .P x (c7 X r).1)
 | .T=>((E8 X r).2,a4q .T x (E8 X r).1)
 | .U=>((E8 X r).2,a4q .U x (E8 X r).1)
 | .W=>((E8 X r).2,a4q .W x (E8 X r).1)
 | .V=>((B4 X (c7 X r).2).2,{ x with vn:=(c7 X r).1,vs:=(B4 X (c7 X r).2).1 })
 | .L=>((s4 X (gI X) x.l r).2,{ x with l:=(s4 X (gI X) x.l r).1 })
 | .Y=>((s4 X (E8 X) x.y r).2,{ x with y:=(s4 X (E8 X) x.y r).1 })
 | .F=>((s4 X (Q3 X) x.f r).2,{ x with f:=(s4 X (Q3 X) x.f r).1 })
 | .Sz=>((E5 X r).2,a6z .S x (E5 X r).1)
 | .Rg=>((E5 X r).2,a6z .R x (E5 X r).1)
 | .aN=>((m3 X r).2,a1i .N x (m3 X r).1)
 | .aM=>((m3 X r).2,a1i .M x (m3 X r).1)
 | .pN=>((M5 false rl X r (a0u .N x)).2,a1i .N x (M5 false rl X r (a0u .N x)).1)
 | .pM=>((M5 true rl X r (a0u .M x)).2,a1i .M x (M5 true rl X r (a0u .M x)).1)
 | .far=>((m3 X (m4 rl (r.at_:Int) r).2).2,{ x with p:=(m4 rl (r.at_:Int) r).1,n:=(m3 X (m4 rl (r.at_:Int) r).2).1 })
theorem K4 {n:Int} (h:cH n=true):-1<=n/\n<4000:=by
 unfold cH at h;simp at h;omega
theorem N1 {t:Ty} (h:J4 t=true):I3 t.k/\I3 t.p/\I3 t.q/\t.s.length<=50000000:=by
 unfold J4 at h;simp only [a0g,decide_eq_true_eq] at h;exact ⟨q5 h.1.1.1,q5 h.1.1.2,q5 h.1.2,by omega⟩
theorem OG (f:Fl) (K:Kc) (x:In) (A:IA) (b:WSt) (hx:x.okL) (hf:f.fineB x=true) (hb:b.bs.length<=500000000) (hr:b.rs.length<=500000000) :
  CallsK a0a f.ids.2.2.1 (.one (.ptr 0 0)::.agg (inV x A)::xL (K.a f) f.caps.2.2.1) (wrF (cdP K::lsP x A) b) (λb':WSt=>b'.bs=b.bs++f.enc x/\b'.rs=b.rs++f.rel x b.bs.length) (λ_=>.tup []) (wrF []):=by
 cases f
 case D =>
  have h1:=K4 hf;exact (d8 (λ_=>rfl) (fun ρ w hF=>xu .D x A (K.a .D 1) b h1.1 h1.2 (by omega) ρ w hF)).pers (cdP K::lsP x A) (dv (cdi K .D 1) dv0)
 case A =>
  have h1:=K4 hf;exact (d8 (λ_=>rfl) (fun ρ w hF=>xu .A x A (K.a .A 1) b h1.1 h1.2 (by omega) ρ w hF)).pers (cdP K::lsP x A) (dv (cdi K .A 1) dv0)
 case B =>
  have h1:=K4 hf;exact (d8 (λ_=>rfl) (fun ρ w hF=>xu .B x A (K.a .B 1) b h1.1 h1.2 (by omega) ρ w hF)).pers (cdP K::lsP x A) (dv (cdi K .B 1) dv0)
 case N =>
  exact (d8 (λ_=>rfl) (fun ρ w hF=>xt .N x A (K.a .N 0) b (q5 hf) (by omega) ρ w hF)).pers (cdP K::lsP x A) (dv (cdi K .N 0) dv0)
 case M =>
  exact (d8 (λ_=>rfl) (fun ρ w hF=>xt .M x A (K.a .M 0) b (q5 hf) (by omega) ρ w hF)).pers (cdP K::lsP x A) (dv (cdi K .M 0) dv0)
 case P =>
  exact (d8 (λ_=>rfl) (fun ρ w hF=>xt .P x A (K.a .P 0) b (q5 hf) (by omega) ρ w hF)).pers (cdP K::lsP x A) (dv (cdi K .P 0) dv0)
 case T =>
  have h1:=N1 hf;exact (d8 (λ_=>rfl) (fun ρ w hF=>Dq .T x A (K.a .T 0) b h1.1 h1.2.1 h1.2.2.1 h1.2.2.2 (by omega) ρ w hF)).pers (cdP K::lsP x A) (dv (cdi K .T 0) dv0)
 case U =>
  have h1:=N1 hf;exact (d8 (λ_=>rfl) (fun ρ w hF=>Dq .U x A (K.a .U 0) b h1.1 h1.2.1 h1.2.2.1 h1.2.2.2 (by omega) ρ w hF)).pers (cdP K::lsP x A) (dv (cdi K .U 0) dv0)
 case W =>
  have h1:=N1 hf;exact (d8 (λ_=>rfl) (fun ρ w hF=>Dq .W x A (K.a .W 0) b h1.1 h1.2.1 h1.2.2.1 h1.2.2.2 (by omega) ρ w hF)).pers (cdP K::lsP x A) (dv (cdi K .W 0) dv0)
 case V =>
  have h1:I3 x.vn/\x.vs.length<=50000000:=by
   have h0:cI x=true:=hf;unfold cI at h0;simp only [a0g,decide_eq_true_eq] at h0;exact ⟨q5 h0.1,by omega⟩
  exact (d8 (λ_=>rfl) (fun ρ w hF=>Lj x A b h1.1 h1.2 (by omega) ρ w hF)).pers (cdP K::lsP x A) dv0
 case L =>
  have h1:x.l.all N0=true:=by
   have h0:(x.l.all N0&&decide ((x.l.length:Int)<=16))=true:=hf;rw [a0g] at h0;exact h0.1
  exact (Oo x A (K.a .L 0) (K.a .L 2) b hx.2.1 h1 (by omega)).pers (cdP K::lsP x A) (dv (cdi K .L 0) (dv (cdi K .L 2) (dv (lsi 2) dv0)))
 case Y =>
  have h1:x.y.all J4=true:=by
   have h0:(x.y.all J4&&decide ((x.y.length:Int)<=16))=true:=hf;rw [a0g] at h0;exact h0.1
  exact (Oq x A (K.a .Y 0) (K.a .Y 2) b hx.2.2 h1 (by omega)).pers (cdP K::lsP x A) (dv (cdi K .Y 0) (dv (cdi K .Y 2) (dv (lsi 3) dv0)))
 case F =>
  have h1:x.f.all Q9=true:=by
   have h0:(x.f.all Q9&&decide ((x.f.length:Int)<=16))=true:=hf;rw [a0g] at h0;exact h0.1
  exact (Ot x A (K.a .F 0) (K.a .F 2) b hx.1 h1 (by omega)).pers (cdP K::lsP x A) (dv (cdi K .F 0) (dv (cdi K .F 2) (dv (lsi 1) dv0)))
 case Sz =>
  exact (d8 (λ_=>rfl) (fun ρ w hF=>zo .S x A (K.a .Sz 0) b (by omega) ρ w hF)).pers (cdP K::lsP x A) (dv (cdi K .Sz 0) dv0)
 case Rg =>
  exact (d8 (λ_=>rfl) (fun ρ w hF=>zo .R x A (K.a .Rg 0) b (by omega) ρ w hF)).pers (cdP K::lsP x A) (dv (cdi K .Rg 0) dv0)
 case aN =>
  exact (d8 (λ_=>rfl) (fun ρ w hF=>JP .N x A (K.a .aN 1) b (by omega) ρ w hF)).pers (cdP K::lsP x A) (dv (cdi K .aN 1) dv0)
 case aM =>
  exact (d8 (λ_=>rfl) (fun ρ w hF=>JP .M x A (K.a .aM 1) b (by omega) ρ w hF)).pers (cdP K::lsP x A) (dv (cdi K .aM 1) dv0)
 case pN =>
  exact (d8 (λ_=>rfl) (fun ρ w hF=>zq .N x A (K.a .pN 1) b (by omega) (by omega) ρ w hF)).pers (cdP K::lsP x A) (dv (cdi K .pN 1) dv0)
 case pM =>
  exact (d8 (λ_=>rfl) (fun ρ w hF=>zq .M x A (K.a .pM 1) b (by omega) (by omega) ρ w hF)).pers (cdP K::lsP x A) (dv (cdi K .pM 1) dv0)
 case far =>
  exact (d8 (λ_=>rfl) (fun ρ w hF=>Ll x A b (by omega) (by omega) ρ w hF)).pers (cdP K::lsP x A) dv0
theorem bw {X:RIn} {r:RSt} (rl:List (Int×Int)) (v:Int) (h:j8 X r):j8 X (m4 rl v r).2:=by
 unfold m4;split<;>exact h
theorem OH (f:Fl) (K:Kc) (rl:List (Int×Int)) (X:RIn) (hX:X.n=rl.length) (hl:rl.length<=1000000000) (r:RSt) (x:In) (A:IA) (hx:x.okL) (h:j8 X r) :
  CallsK a0a f.ids.2.2.2.1 (.one (.ptr 0 0)::.one (.ptr 1 0)::xL (K.a f) f.caps.2.2.2.1) (gtF (cdP K::[e8 (j1 rl X.q X.c)]) X r x A) (λy:RSt×In×IA=>y.1=(f.rd rl X r x).1/\y.2.1=(f.rd rl X r x).2) (λ_=>.tup []) (λy=>gtF [] X y.1 y.2.1 y.2.2):=by
 cases f
 case D =>
  exact (d8 (λ_=>rfl) (fun ρ w hF=>xx .D X r x A (K.a .D 1) h ρ w hF)).pers (cdP K::[e8 (j1 rl X.q X.c)]) (dv (cdi K .D 1) dv0)
 case A =>
  exact (d8 (λ_=>rfl) (fun ρ w hF=>xx .A X r x A (K.a .A 1) h ρ w hF)).pers (cdP K::[e8 (j1 rl X.q X.c)]) (dv (cdi K .A 1) dv0)
 case B =>
  exact (d8 (λ_=>rfl) (fun ρ w hF=>xx .B X r x A (K.a .B 1) h ρ w hF)).pers (cdP K::[e8 (j1 rl X.q X.c)]) (dv (cdi K .B 1) dv0)
 case N =>
  exact (d8 (λ_=>rfl) (fun ρ w hF=>xw .N X r x A (K.a .N 0) h ρ w hF)).pers (cdP K::[e8 (j1 rl X.q X.c)]) (dv (cdi K .N 0) dv0)
 case M =>
  exact (d8 (λ_=>rfl) (fun ρ w hF=>xw .M X r x A (K.a .M 0) h ρ w hF)).pers (cdP K::[e8 (j1 rl X.q X.c)]) (dv (cdi K .M 0) dv0)
 case P =>
  exact (d8 (λ_=>rfl) (fun ρ w hF=>xw .P X r x A (K.a .P 0) h ρ w hF)).pers (cdP K::[e8 (j1 rl X.q X.c)]) (dv (cdi K .P 0) dv0)
 case T =>
  exact (d8 (λ_=>rfl) (fun ρ w hF=>Dr .T X r x A (K.a .T 0) h ρ w hF)).pers (cdP K::[e8 (j1 rl X.q X.c)]) (dv (cdi K .T 0) dv0)
 case U =>
  exact (d8 (λ_=>rfl) (fun ρ w hF=>Dr .U X r x A (K.a .U 0) h ρ w hF)).pers (cdP K::[e8 (j1 rl X.q X.c)]) (dv (cdi K .U 0) dv0)
 case W =>
  exact (d8 (λ_=>rfl) (fun ρ w hF=>Dr .W X r x A (K.a .W 0) h ρ w hF)).pers (cdP K::[e8 (j1 rl X.q X.c)]) (dv (cdi K .W 0) dv0)
 case V =>
  exact (d8 (λ_=>rfl) (fun ρ w hF=>Lk X r x A h ρ w hF)).pers (cdP K::[e8 (j1 rl X.q X.c)]) dv0
 case L =>
  exact (Ov X r h x A (K.a .L 0) (K.a .L 3) hx.2.1).pers (cdP K::[e8 (j1 rl X.q X.c)]) (dv (cdi K .L 0) (dv (cdi K .L 3) dv0))
 case Y =>
  exact (Ox X r h x A (K.a .Y 0) (K.a .Y 3) hx.2.2).pers (cdP K::[e8 (j1 rl X.q X.c)]) (dv (cdi K .Y 0) (dv (cdi K .Y 3) dv0))
 case F =>
  exact (Oy X r h x A (K.a .F 0) (K.a .F 3) hx.1).pers (cdP K::[e8 (j1 rl X.q X.c)]) (dv (cdi K .F 0) (dv (cdi K .F 3) dv0))
 case Sz =>
  exact (d8 (λ_=>rfl) (fun ρ w hF=>zp .S X r x A (K.a .Sz 0) h ρ w hF)).pers (cdP K::[e8 (j1 rl X.q X.c)]) (dv (cdi K .Sz 0) dv0)
 case Rg =>
  exact (d8 (λ_=>rfl) (fun ρ w hF=>zp .R X r x A (K.a .Rg 0) h ρ w hF)).pers (cdP K::[e8 (j1 rl X.q X.c)]) (dv (cdi K .Rg 0) dv0)
 case aN =>
  exact (d8 (λ_=>rfl) (fun ρ w hF=>JQ .N X r x A (K.a .aN 1) h ρ w hF)).pers (cdP K::[e8 (j1 rl X.q X.c)]) (dv (cdi K .aN 1) dv0)
 case aM =>
  exact (d8 (λ_=>rfl) (fun ρ w hF=>JQ .M X r x A (K.a .aM 1) h ρ w hF)).pers (cdP K::[e8 (j1 rl X.q X.c)]) (dv (cdi K .aM 1) dv0)
 case pN =>
  exact (d8 (λ_=>rfl) (fun ρ w hF=>zr .N false rl X hX hl r x A (K.a .pN 1) (K.a .pN 2) h ρ w hF)).pers (cdP K::[e8 (j1 rl X.q X.c)]) (dv (cdi K .pN 2) (dv (cdi K .pN 1) (dv (lsi 1) dv0)))
 case pM =>
  exact (d8 (λ_=>rfl) (fun ρ w hF=>zr .M true rl X hX hl r x A (K.a .pM 1) (K.a .pM 2) h ρ w hF)).pers (cdP K::[e8 (j1 rl X.q X.c)]) (dv (cdi K .pM 2) (dv (cdi K .pM 1) (dv (lsi 1) dv0)))
 case far =>
  exact (d8 (λ_=>rfl) (fun ρ w hF=>Lm rl X hX hl r x A (bw rl _ h) ρ w hF)).pers (cdP K::[e8 (j1 rl X.q X.c)]) (dv (lsi 1) dv0)
theorem LU (K:Kc) (hK:K.ok) (o:Nat) (ho:F8 o=true) (n:Int) (hn:n=(o:Int)):CallsK a0a 115 [.agg [.val (.map (some K.gF)),.val (.map (some K.gO))],.one (.int .i64 n)] (z8 [cdP K])
  (λ_:Option Addr×Nat=>True) (λx=>.tup [.one (.row 0 x.1 (c6 o).length x.2),.one (.sb true)]) (fsF K (c6 o)):=by
 subst hn;exact cOf K hK o ho
theorem JY (K:Kc) (hK:K.ok) (n:Int) (hn:¬ (1<=n/\n<=38)):CallsK a0a 115 [.agg [.val (.map (some K.gF)),.val (.map (some K.gO))],.one (.int .i64 n)] (z8 [cdP K])
  (λ_:Unit=>True) (λ_=>.tup [.one (.val (.slice none 0 0)),.one (.sb false)]) (λ_=>noF):=by
 obtain ⟨NC,Rr,done,iS,N4,Cm,Rk⟩:=hK;refine a0j true Tryz.func115 fun ρ w=>V.q<|mS 108 3 118 (.int .i64) K.gO (.one (.int .i64 n)) true (.int .i64 n) none (.slice none 0 0) (.tup [.one (.val (.slice none 0 0)),.one (.bool false)]) kq kq kq kq
  (fun ρ a w hS=>?_) (λ_=>rfl) (λ_ w=>Tryz.zeroValue118 w) (λ_=>rfl) (by intro y hy; simp only [a0k,a1a,or_false] at hy; rcases hy with rfl|rfl<;>trivial) (λg pol b y h=>by cases h) kq ?_
 ·refine ⟨K.esO,K.ckO,none,(dZ hS (a0v (i:=0) kq)).2,?_,rfl⟩;rw [Cm];refine cm (λo ho=>?_);have:=(p6 o).1 ((N4 o).1 ho);omega
 exact V.q<|a4o 5 false<|V.z
def f0 (op:Int):In:=⟨op,-1,-1,-1,ty0,ty0,ty0,0,0,0,0,[],[],[],[],false,false⟩
def IA0:IA:=⟨none,0,none,0,none,0⟩
def mvL (x:In) (l:List Fl) (y:In):In:=l.foldl (λy f=>f.mv x y) y
def n7 (n:Int):Option (List Fl):=if 1<=n/\n<=38 then some (c6 n.toNat) else none
def j2 (x:In):Bool:=match n7 x.op with
 | none=>false
 | some l=>l.all (λf=>f.fineB x)&&Z3 x (mvL x l (f0 x.op))
def LV:Con a0a:=r6 Tryz.func116 true [] [] kq kq
structure jE (x:In) (A:IA) (y:In) (B:IA):Prop where
 f:(y.f=[]/\B.qf=none/\B.cf=0)∨(y.f=x.f/\B.qf=A.qf/\B.cf=A.cf)
 l:(y.l=[]/\B.ql=none/\B.cl=0)∨(y.l=x.l/\B.ql=A.ql/\B.cl=A.cl)
 y:(y.y=[]/\B.qy=none/\B.cy=0)∨(y.y=x.y/\B.qy=A.qy/\B.cy=A.cy)
theorem jE.zero (x:In) (A:IA) (op:Int):jE x A (f0 op) IA0:=⟨.inl ⟨rfl,rfl,rfl⟩,.inl ⟨rfl,rfl,rfl⟩,.inl ⟨rfl,rfl,rfl⟩⟩
theorem jE.mv {x:In} {A:IA} {y:In} {B:IA} (h:jE x A y B) (f:Fl):jE x A (f.mv x y) (f.mvA A B):=by
 obtain ⟨h1,h2,h3⟩:=h;cases f
 case L=>exact ⟨h1,.inr ⟨rfl,rfl,rfl⟩,h3⟩
 case Y=>exact ⟨h1,h2,.inr ⟨rfl,rfl,rfl⟩⟩
 case F=>exact ⟨.inr ⟨rfl,rfl,rfl⟩,h2,h3⟩
 all_goals exact ⟨h1,h2,h3⟩
theorem fz {R:Row} (h1:R.own=false) (h2:R.n=0) (h3:R.obj=none):(∀ k,¬ R.uses k)/\∀ w,R.ok w:=by
 refine ⟨?_,λw=>⟨λi hi=>absurd hi (by omega),λhp=>absurd hp (by omega),λh _=>(by rw [h1] at h; cases h),λo h=>(by rw [h3] at h; cases h)⟩⟩;rintro k ⟨a,_,_,h | h | h⟩
 ·rw [h1] at h; cases h
 ·omega
 ·rw [h3] at h; cases h
theorem vpn {C:Ctx} (R:Row) {c:Cfg} (h:V C ⟨c.todo,{ c.st with pers:=P7 C.w0.heap.size C.S (e8 R)::c.st.pers }⟩) (h1:R.own=false:=by rfl) (h2:R.n=0:=by rfl) (h3:R.obj=none:=by rfl) (hq:bi [] c.st.pers=some (bB C.w0.heap.size C.S [] []):=by kernel_rfl):V C c:=B3 [] [] (e8 R) hq rfl (λk hk=>absurd hk ((fz h1 h2 h3).1 k)) (λw _=>(fz h1 h2 h3).2 w) (l7 _) h
theorem gx {α:Type} {f:α->List SV} {d:α} {l m:List α} {q q':Option Addr} {c c':Nat} {e:TypeId} {sz:Nat} (h:(m=[]/\q'=none/\c'=0)∨(m=l/\q'=q/\c'=c)) :
  (∀ k,(e8 (d5 f d m q' c' e sz false)).D k->∃ p∈[e8 (d5 f d l q c e sz false)],p.D k)/\(∀ w,(∀ p∈[e8 (d5 f d l q c e sz false)],p.φ w)->(e8 (d5 f d m q' c' e sz false)).φ w):=by
 rcases h with ⟨rfl,rfl,rfl⟩ | ⟨rfl,rfl,rfl⟩
 ·obtain ⟨h1,h2⟩:=fz (R:=d5 f d [] none 0 e sz false) rfl rfl rfl;exact ⟨λk hk=>absurd hk (h1 k),λw _=>h2 w⟩
 ·exact ⟨λk hk=>⟨_,a0d.2 rfl,hk⟩,λw hw=>hw _ (a0d.2 rfl)⟩
structure FI where
 y:In
 B:IA
 i:Nat
def Sb (K:Kc) (x:In) (A:IA) (o:Nat) (q:Option Addr) (c:Nat) (j:FI):St :=
 { n:=41,slots:=[(3,ov (.ptr 0 0)),(7,ov (.ptr 1 0)),(22,ov (.row 0 q (c6 o).length c)),(23,ov (.int .i64 (c6 o).length)),(24,ov (.int .i64 j.i))],gs:=[],
    heap:=[(0,⟨inV x A,30,true⟩),(1,⟨inV j.y j.B,30,true⟩)],next:=2,rows:=[(0,d5 (λf=>f.cells (K.a f)) .D (c6 o) q c 165 6 true)],nr:=1,pers:=cdP K::lsP x A,wr:=true,fx:=0 }
def T5f:List (Ent a0a):=[LV.e]
theorem lg (K:Kc) (hK:K.ok) (x:In) (A:IA) (hx:x.okL):CallsK a0a 59 [.agg [.val (.map (some K.gF)),.val (.map (some K.gO))],.agg (inV x A)] (stP (cdP K::lsP x A)) (λ_:Unit=>True) (λ_=>ov (.sb (j2 x))) (λ_=>stP []):=by
 by_cases f7:1<=x.op/\x.op<=38
 case neg =>
  rw [show j2 x=false by unfold j2 n7; rw [if_neg f7]];exact a0j true Tryz.func59 fun ρ w=>V.t T5f [] trivial<|V.c [(0,false)] (JY K hK x.op f7) λ_ _=>V.t T5f [] trivial<|m0 18 true true rfl<|V.t T5f [] trivial<|a4o 4 false<|V.z
 obtain ⟨o,ho⟩:∃ o:Nat,x.op=(o:Int):=⟨x.op.toNat,by omega⟩;have N2:F8 o=true:=(p6 o).2 (by omega);have F5:n7 x.op=some (c6 o):=by unfold n7; rw [if_pos f7,ho]; rfl
 have lK:(c6 o).length<=7:=by
  have:=D7 (p:=λo=>decide ((c6 o).length<=7)) kq N2;simpa using this
 refine a0j true Tryz.func59 fun ρ w=>V.t T5f [] trivial<|V.c [(0,false)] (LU K hK o N2 x.op ho) (λqc _=>?_);obtain ⟨q,c⟩:=qc;refine V.t T5f [] trivial<|m0 18 false false rfl<|V.t T5f [] trivial<|a6f 2<|j6 [3,7,22,23,24] [true,true,true,true] (λj:FI=>(c6 o).length - j.i) (Sb K x A o q c) (λj=>j.i<=(c6 o).length/\((c6 o).take j.i).all (λf=>f.fineB x)=true/\j.y=mvL x ((c6 o).take j.i) (f0 x.op)/\jE x A j.y j.B) ⟨f0 x.op,IA0,0⟩ kq ⟨a0s _,rfl,rfl,jE.zero x A x.op⟩ (λj hj ih=>?_);obtain ⟨y,B,i⟩:=j;obtain ⟨hi,q7,hy,GA⟩:=hj;simp only at hi q7 hy GA;refine a1l<|V.t T5f [] trivial<|f9 25 (decide ((i:Int)<(c6 o).length)) (λhb=>?_) (λhb=>?_)
 ·have e9:i<(c6 o).length:=by simpa using hb
  obtain ⟨f,hf⟩:∃ f,(c6 o).getD i .D=f:=⟨_,rfl⟩;refine V.t [] [(0:Int)<=i/\(i:Int)<(c6 o).length] ⟨by omega,by omega⟩<|V.s 29 (.one (eH ((c6 o).getD i .D).ids.2.1 (K.a ((c6 o).getD i .D)) ((c6 o).getD i .D).caps.2.1)) (.one (eH f.ids.2.1 (K.a f) f.caps.2.1)) (λ_=>by rw [hf])<|V.callL [(0,false),(1,false),(2,false),(3,false)] [] [] (LS f K x A hx) (by clear hf; cases f<;>kernel_rfl) (by clear hf; cases f<;>kernel_rfl) (by clear hf; cases f<;>kernel_rfl) kq (λ_=>kq) λ_ _=>V.q<|f9 32 (!f.fineB x) (λlN=>?_) (λlN=>?_)
  ·rw [show j2 x=false by
    unfold j2;rw [F5];simp only;rw [dQ e9 .D (by rw [hf]; simpa using lN),a6r]]
   exact V.q<|a4o 4 false<|V.z
  ·refine V.q<|V.s 34 (.one (eH ((c6 o).getD i .D).ids.1 (K.a ((c6 o).getD i .D)) ((c6 o).getD i .D).caps.1)) (.one (eH f.ids.1 (K.a f) f.caps.1)) (λ_=>by rw [hf])<|V.callL [(0,false),(1,false),(2,false),(3,false)] [1] [] (LT f K x y A B) (by clear hf; cases f<;>kernel_rfl) (by clear hf; cases f<;>kernel_rfl) (by clear hf; cases f<;>kernel_rfl) kq (λ_=>kq) λ_ _=>V.q<|a3v 24 i (by omega)<|d9 [3,7,22,23,24] [true,true,true,true] (ih ⟨f.mv x y,f.mvA A B,i+1⟩ ⟨e9,K3 e9 .D q7 (by rw [hf]; simpa using lN),?_,GA.mv f⟩ (by simp only; omega)) kq kq;simp only;rw [a2c,a0b e9];rw [a0r,a0b e9] at hf;simp only [a1e] at hf;rw [hf,hy];simp [mvL,a4r]
 ·have B0:(c6 o).length=i:=by
   have:¬ i<(c6 o).length:=by simpa using hb
   omega
  rw [<- B0,a1o] at q7 hy;obtain ⟨f1,f2⟩:=gx (f:=a5f) (d:=fm0) (e:=93) (sz:=4) GA.f;obtain ⟨l1,l2⟩:=gx (f:=C6) (d:=0) (e:=3) (sz:=1) GA.l;obtain ⟨y1,y2⟩:=gx (f:=a5g) (d:=ty0) (e:=23) (sz:=5) GA.y;refine O3 [(1,false)] [e8 (C7 x A)] (e8 (C7 y B)) kq f1 f2 (l7 _)<|O3 [(3,false)] [e8 (C1 x A)] (e8 (C1 y B)) kq l1 l2 (l7 _)<|O3 [(5,false)] [e8 (E7 x A)] (e8 (E7 y B)) kq y1 y2 (l7 _)<|V.t [⟨OB x y A B (a0n hx.1 (by decide)) (a0n hx.2.1 (by decide)) (a0n hx.2.2 (by decide)),[2,1,0,4,5,6]⟩] [([.agg (inV x A),.agg (inV y B)]:List CV)=[.agg (inV x A),.agg (inV y B)]] rfl ?_;rw [show j2 x=Z3 x y by
   unfold j2;rw [F5,hy];simp only;rw [q7,a5a]]
  exact V.z
end Go.Proofs
end
section
namespace Go.SX
open Go
theorem xN {α:Type} {P:Program} {f:FuncId} {fn:Func} {ys:List CV} {F:St} {p:α->Prop} {v:α->RV} {F':α->St} (wr:Bool) (hf:P.funcs[f]?=some fn)
  (hb:(fn.body.isSome&&Nat.ble ys.length fn.ntmps)=true) (hw:uL F ys=some ys)
  (h:∀ ρ w,x6 ρ F w->V ⟨P,f,N9 ρ F p v F' w,n6 ρ F,w,ρ,none⟩ ⟨[.code (I5 fn)],stF fn.ntmps ys F wr⟩):CallsK P f ys F p v F':=by
 intro ρ w hF;rw [a0g] at hb;exact i6 hF ys wr hf hb.1 hb.2 (mO hw) (h ρ w hF)
section
variable {C:Ctx}
theorem K5 (b j r:Nat) (blk:Blk) (R:Row) {c:Cfg} (hb:look c.st.heap b=some blk) (hj:blk.cells[j]?=some (.val (.slice R.s R.n R.cap))) (hR:look c.st.rows r=some R)
  (h:V C ⟨c.todo,{ c.st with heap:=upd c.st.heap b { blk with cells:=blk.cells.set j (.row r R.s R.n R.cap) } }⟩):V C c:=by
 intro ρ a w hS;refine h ρ a w ⟨hS.n,hS.slots,hS.grds,?_,hS.inj,hS.lt,hS.defers,hS.chg,hS.rows,hS.rowsD,hS.pers,hS.fix⟩;intro b' blk' B8;simp only [s8] at B8;by_cases e':b=b'
 ·subst e';rw [if_pos rfl] at B8;cases B8;obtain ⟨k1,k2,k3,k4⟩:=hS.heap b blk hb;refine ⟨k1,?_,?_,k4⟩
  ·rw [k2];have:(blk.cells.set j (.row r R.s R.n R.cap)).map (a4m ρ)=blk.cells.map (a4m ρ):=by
    rw [List.map_set];apply List.ext_getElem?;intro i;rw [List.getElem?_set];split
    ·rename_i e1;subst e1;split
     ·rw [a2t,hj]; rfl
     ·rename_i e9;rw [List.getElem?_eq_none (by omega)]
    ·rfl
   rw [this]
  ·intro y hy;rcases List.mem_or_eq_of_mem_set hy with hy|rfl
   ·exact k3 y hy
   ·refine ⟨(hS.rows r R hR).1,λR' G8=>?_⟩;have ul:look c.st.rows r=some R':=G8;rw [hR] at ul;cases ul;exact ⟨rfl,rfl,rfl⟩
 ·rw [if_neg e'] at B8;exact hS.heap b' blk' B8
theorem rz (t r:Nat) (R:Row) {c:Cfg} (hl:look c.st.slots t=some (.v (.one (.val (.slice R.s R.n R.cap))))) (hg:p5 c.st.gs t=false) (hR:look c.st.rows r=some R)
  (h:V C ⟨c.todo,{ c.st with slots:=upd c.st.slots t (.v (.one (.row r R.s R.n R.cap))) }⟩):V C c:=by
 intro ρ a w hS;refine h ρ a w ⟨hS.n,?_,?_,hS.heap,hS.inj,hS.lt,hS.defers,hS.chg,hS.rows,hS.rowsD,hS.pers,hS.fix⟩
 ·intro i v hv;simp only [s8] at hv;by_cases e:t=i
  ·subst e;rw [if_pos rfl] at hv;cases hv;refine ⟨(hS.slots t _ hl).1,(hS.rows r R hR).1,λR' G8=>?_⟩;have ul:look c.st.rows r=some R':=G8;rw [hR] at ul;cases ul;exact ⟨rfl,rfl,rfl⟩
  ·rw [if_neg e] at hv;exact hS.slots i v hv
 ·intro i g pol b x hv;simp only [s8] at hv;by_cases e:t=i
  ·rw [if_pos e] at hv; cases hv
  ·rw [if_neg e] at hv;obtain ⟨h1,h2⟩:=hS.grds i g pol b x hv;refine ⟨h1,?_⟩;simp only [s8];have E0:t≠g:=λe'=>by subst e'; rw [hg] at h1; cases h1
   rw [if_neg E0];exact h2
variable {T TR:List Nat} {L:Nat} {c0:Cfg} {d:u7}
def HP (c0:Cfg) (d:u7) (v:RV):Option u7 :=
 match iB c0 d with
 | some (i,o)=>match d.st.put o.dst v with
  | some s'=>some ⟨d.fuel - 1,d.listed.setIfInBounds i true,s'⟩
  | none=>none
 | none=>none
def LW (c0:Cfg) (d:u7) (v:RV):u7:=(HP c0 d v).getD d
theorem VX.bytes (r:Nat) (R:Row) (l:List UInt8) (hc:dm C.P (atX c0 d)=some (r,R)) (hl:l.length=R.n) (hg:∀ i,i<R.n->R.get i=[.int .u8 ((l.getD i 0).toNat:Int)])
  (I9:(HP c0 d (.v (.one (.str l)))).isSome=true) (k:VX C T TR L c0 (LW c0 d (.v (.one (.str l))))):VX C T TR L c0 d:=by
 intro D hD a1 a2 a3 a4 a5 a6 hL D4 aT aTR e9 A9 ρ a w hS hρ ib N5 U4 C8;cases hx:iB c0 d with
 | none=>unfold HP at I9; rw [hx] at I9; cases I9
 | some p =>
  obtain ⟨i,o⟩:=p;obtain ⟨C3,⟨n,Ro⟩,ho⟩:=dC hx;obtain ⟨d2,N4⟩:=a2o.1 I9;have hY:LW c0 d (.v (.one (.str l)))=d2:=by unfold LW; rw [N4]; rfl
  rw [hY] at k;unfold HP at N4;rw [hx] at N4;simp only at N4;split at N4
  case h_2=>cases N4
  rename_i s' o9;cases N4;have hi:i∈Region.ready .any (G1 c0) d.listed:=by rw [C3]; simp
  have hW:=N8 o9;have J7:D.rows s':=⟨λr R hR=>by rw [show s'.rows=d.st.rows from congrArg WF.rows hW]; exact A9.1 r R hR,by rw [hW]; exact A9.2⟩;have hk:=k D hD a1 a2 a3 a4 a5 a6 hL D4 aT aTR e9 J7 ρ _ w (hS.put o9 trivial (λg pol b x e=>by cases e)) hρ (by show D.n0<=s'.next; rw [J9 o9]; exact ib) N5 (U4.set hi) (by simpa using C8);simp only [Ro,a3x] at hk;unfold dm atX at hc;simp only [C3,ho] at hc;split at hc
  case h_2=>cases hc
  rename_i Qn;split at hc
  case h_2=>cases hc
  rename_i src dst x f7;split at hc
  case h_2=>cases hc
  rename_i e r' q n' cap h1 h2 qa;split at hc
  case h_2=>cases hc
  rename_i R' he hR;split at hc
  case h_2=>cases hc
  rename_i iV;cases hc;obtain ⟨e1,hr,iQ⟩:=d7 hS.toP (j9 d.st) qa;obtain ⟨rfl,rfl,rfl⟩:=iQ R hR;have hb:=kL (P:=C.P) (hS.rows r R hR).2.1 ((d6 _ _).1 iV) hl hg;have Ax:(execOp a.eval o).run C.P w=.ok (.value ((RV.v (.one (.str l))).den ρ)) w:=by
   have:(convert src dst (.slice R.s R.n R.cap)).run C.P w=.ok (.string ⟨l.toArray⟩) w:=by
    rw [run_convert_bytes_string w src dst e _ _ _ h1 he h2]; exact hb
   unfold execOp;rw [f7];refine H1 ?_;rw [e1];exact this
  rw [Ro];refine E2 C3 (by simp) (λj hj=>?_);have JB:j=i:=by simpa using hj
  subst JB;unfold wpOp;simp only [ho,D5 hS Qn,if_true];refine .inl ?_;unfold Oper.wp;rw [Ax];exact ⟨λ_=>N5,hk⟩
end
end Go.SX
end
section
namespace Go.Proofs
open Go Go.SX
theorem zF {α:Type} {f:α->List UInt8} {b:Nat}:∀ {l:List α},(∀ x∈l,(f x).length<=b)->(l.flatMap f).length<=b*l.length
 | [],_=>by simp
 | x::l,h=>by
  have h1:=h x (a0f ..);have h2:=zF (l:=l) (λy hy=>h y (a0e _ hy));rw [List.flatMap_cons,a0c,a0p,Nat.mul_succ];omega
theorem jF {α:Type} {f:α->Bool} {l:List α} (h:l.all f=true):∀ x∈l,f x=true:=a0y.1 h
theorem ed {t:Ty} (h:J4 t=true):t.s.length<=255:=by
 unfold J4 at h;simp only [a0g,decide_eq_true_eq] at h;omega
theorem DW {t:Fm} (h:Q9 t=true):t.s.length<=255:=by
 unfold Q9 at h;simp only [a0g,decide_eq_true_eq] at h;omega
theorem HQ (f:Fl) (x:In) (h:f.fineB x=true):(f.enc x).length<=10000:=by
 have lst:∀ {α:Type} (g:α->List UInt8) (p:α->Bool) (l:List α),(∀ y,p y=true->(g y).length<=300)->(l.all p&&decide ((l.length:Int)<=16))=true->(ae g l).length<=10000:=by
  intro α g p l hg hl;rw [a0g,decide_eq_true_eq] at hl;have h1:=zF (f:=g) (b:=300) (l:=l) (λy hy=>hg y (jF hl.1 y hy));have h2:=x5 (l.length:Int);have h3:300*l.length<=4800:=by omega
  show (N3 l.length++l.flatMap g).length<=10000;rw [a0c];omega
 cases f
 case D=>exact a0n (x5 _) (by decide)
 case A=>exact a0n (x5 _) (by decide)
 case B=>exact a0n (x5 _) (by decide)
 case N=>exact a0n (x5 _) (by decide)
 case M=>exact a0n (x5 _) (by decide)
 case P=>exact a0n (x5 _) (by decide)
 case T=>have:=ed (t:=x.t) h; exact a0n (cN _) (by show 41+x.t.s.length<=_; omega)
 case U=>have:=ed (t:=x.u) h; exact a0n (cN _) (by show 41+x.u.s.length<=_; omega)
 case W=>have:=ed (t:=x.w) h; exact a0n (cN _) (by show 41+x.w.s.length<=_; omega)
 case V =>
  have h0:cI x=true:=h;unfold cI at h0;simp only [a0g,decide_eq_true_eq] at h0;have h1:=x5 x.vn;have h2:=oU x.vs;show (N3 x.vn++fl x.vs).length<=_;rw [a0c];omega
 case L=>exact lst eI N0 x.l (λy _=>a0n (x5 _) (by decide)) h
 case Y=>exact lst M9 J4 x.y (λy hy=>by have:=ed hy; exact a0n (cN _) (by omega)) h
 case F=>exact lst W4 Q9 x.f (λy hy=>by have:=DW hy; exact a0n (ru _) (by omega)) h
 case Sz=>show 1<=_; decide
 case Rg=>show 1<=_; decide
 case aN=>show 4<=_; decide
 case aM=>show 4<=_; decide
 case pN=>show (fp _).length<=_; unfold fp; split<;>(show 4<=_; decide)
 case pM=>show (fp _).length<=_; unfold fp; split<;>(show 4<=_; decide)
 case far=>show 4<=_; decide
theorem HR (f:Fl) (x:In) (n:Nat):(f.rel x n).length<=1:=by
 cases f
 case pN=>show (X5 _ _).length<=_; unfold X5; split<;>simp
 case pM=>show (X5 _ _).length<=_; unfold X5; split<;>simp
 case far=>exact a0q _
 all_goals exact a0s _
def putL (x:In) (l:List Fl) (s:List UInt8×List (Int×Int)):List UInt8×List (Int×Int):=l.foldl (λs f=>(s.1++f.enc x,s.2++f.rel x s.1.length)) s
def J6 (x:In):List UInt8×List (Int×Int):=putL x ((n7 x.op).getD []) ([a1c x.op.toNat],[])
theorem lh (x:In) (l:List Fl) (f:Fl) (s:List UInt8×List (Int×Int)):putL x (l++[f]) s=((putL x l s).1++f.enc x,(putL x l s).2++f.rel x (putL x l s).1.length):=by
 simp [putL,a4r]
theorem jG (x:In):∀ (l:List Fl) (s:List UInt8×List (Int×Int)),l.all (λf=>f.fineB x)=true->(putL x l s).1.length<=s.1.length+10000*l.length/\(putL x l s).2.length<=s.2.length+l.length
 | [],s,_=>⟨by simp [putL],by simp [putL]⟩
 | f::l,s,h=>by
  rw [List.all_cons,a0g] at h;have:=jG x l (s.1++f.enc x,s.2++f.rel x s.1.length) h.2;have h1:=HQ f x h.1;have h2:=HR f x s.1.length;simp only [a0c] at this;show (putL x l (s.1++f.enc x,s.2++f.rel x s.1.length)).1.length<=_/\(putL x l (s.1++f.enc x,s.2++f.rel x s.1.length)).2.length<=_;rw [a0p];omega
theorem DX {o:Nat} (h:o<=38):a1x.wrap (o:Int)=(((a1c o).toNat:Nat):Int):=by
 have:(a1c o).toNat=o:=by
  rw [UInt8.toNat_ofNat'];omega
 rw [this];simp [a1s,a1t,a1p];omega
theorem HS (x:UInt8):(bsv x).length=1:=rfl
theorem Bj (x:UInt8):∀ y∈bsv x,y.plain:=by
 intro y hy;rw [a0d.1 hy];trivial
structure EI where
 b:WSt
 i:Nat
def Sc (K:Kc) (x:In) (A:IA) (o:Nat) (q:Option Addr) (c:Nat) (j:EI):St :=
 { n:=45,slots:=[(3,ov (.ptr 0 0)),(6,ov (.ptr 1 0)),(24,ov (.row 2 q (c6 o).length c)),(25,ov (.int .i64 (c6 o).length)),(26,ov (.int .i64 j.i))],gs:=[],
    heap:=[(0,⟨inV x A,30,true⟩),(1,⟨[.row 0 j.b.q j.b.bs.length j.b.c,.row 1 j.b.q2 j.b.rs.length j.b.c2],99,true⟩)],next:=2,
    rows:=[(0,d5 bsv 0 j.b.bs j.b.q j.b.c 5 1 true),(1,d5 rlv (0,0) j.b.rs j.b.q2 j.b.c2 62 2 true),(2,d5 (λf=>f.cells (K.a f)) .D (c6 o) q c 165 6 true)],nr:=3,pers:=cdP K::lsP x A,wr:=true,fx:=0 }
def rsF (rs:List (Int×Int)) (qc:Option Addr×Nat):St:={ noF with rows:=[(0,d5 rlv (0,0) rs qc.1 qc.2 62 2 true)],nr:=1 }
theorem tj (K:Kc) (hK:K.ok) (x:In) (A:IA) (hx:x.okL) (f7:1<=x.op/\x.op<=38) (qe:((n7 x.op).getD []).all (λf=>f.fineB x)=true) :
  CallsK a0a 69 [.agg [.val (.map (some K.gF)),.val (.map (some K.gO))],.agg (inV x A)] (stP (cdP K::lsP x A)) (λ_:Option Addr×Nat=>True) (λqc=>.tup [.one (.str (J6 x).1),.one (.row 0 qc.1 (J6 x).2.length qc.2)]) (rsF (J6 x).2):=by
 obtain ⟨o,ho⟩:∃ o:Nat,x.op=(o:Int):=⟨x.op.toNat,by omega⟩;have N2:F8 o=true:=(p6 o).2 (by omega);have F5:n7 x.op=some (c6 o):=by unfold n7; rw [if_pos f7,ho]; rfl
 rw [F5] at qe;simp only [a1e] at qe;have Xb:J6 x=putL x (c6 o) ([a1c o],[]):=by unfold J6; rw [F5,ho]; rfl
 rw [Xb];have lK:(c6 o).length<=7:=by
  have:=D7 (p:=λo=>decide ((c6 o).length<=7)) kq N2;simpa using this
 refine a0j true Tryz.func69 fun ρ w=>V.q<|V.c [(0,false)] (LU K hK o N2 x.op ho) (λqc _=>?_);obtain ⟨q,c⟩:=qc;refine V.q<|j3 2 0 ⟨[.int .u8 (a1x.wrap x.op)],5,true⟩ (.int .u8 (a1x.wrap x.op)) (.int .u8 (((a1c o).toNat:Nat):Int)) kq rfl kq (λ_=>by rw [ho,DX (by omega)])<|oE bsv 0 [a1c o] 5 1 2 kq HS Bj (by show 1<=maxLen; decide) (λg=>kq) λg=>K5 2 0 1 ⟨[.val (.slice (some ⟨g,0,none⟩) 1 1),.val (.slice none 0 0)],99,true⟩ (d5 bsv 0 [a1c o] (some ⟨g,0,none⟩) 1 5 1 true) kq rfl kq<|H6 rlv (0,0) 2 1 ⟨[.row 1 (some ⟨g,0,none⟩) 1 1,.val (.slice none 0 0)],99,true⟩ 62 2 kq rfl<|j6 [3,6,24,25,26] [true,true,true,true] (λj:EI=>(c6 o).length - j.i) (Sc K x A o q c) (λj=>j.i<=(c6 o).length/\j.b.bs=(putL x ((c6 o).take j.i) ([a1c o],[])).1/\j.b.rs=(putL x ((c6 o).take j.i) ([a1c o],[])).2) ⟨⟨[a1c o],some ⟨g,0,none⟩,1,[],none,0⟩,0⟩ kq ⟨a0s _,rfl,rfl⟩ (λj hj ih=>?_);obtain ⟨b,i⟩:=j;obtain ⟨hi,Q5,eO⟩:=hj;simp only at hi Q5 eO;have n8:=jG x ((c6 o).take i) ([a1c o],[]) (a0y.2 λf hf=>jF qe f (a5l hf));rw [<- Q5,<- eO,a2b] at n8;simp only [a1j,a1r] at n8;have Gm:b.bs.length<=100000/\b.rs.length<=100:=by omega
 refine a1l<|V.q<|f9 27 (decide ((i:Int)<(c6 o).length)) (λhb=>?_) (λhb=>?_)
 ·have e9:i<(c6 o).length:=by simpa using hb
  obtain ⟨f,hf⟩:∃ f,(c6 o).getD i .D=f:=⟨_,rfl⟩;have lN:f.fineB x=true:=by rw [<- hf]; exact V5 e9 .D qe
  refine V.t [] [(0:Int)<=i/\(i:Int)<(c6 o).length] ⟨by omega,by omega⟩<|V.s 31 (.one (eH ((c6 o).getD i .D).ids.2.2.1 (K.a ((c6 o).getD i .D)) ((c6 o).getD i .D).caps.2.2.1)) (.one (eH f.ids.2.2.1 (K.a f) f.caps.2.2.1)) (λ_=>by rw [hf])<|V.callL [(0,false),(1,false),(2,false),(3,false)] [1] [0,1] (OG f K x A b hx lN (by omega) (by omega)) (by clear hf lN; cases f<;>kernel_rfl) (by clear hf lN; cases f<;>kernel_rfl) (by clear hf lN; cases f<;>kernel_rfl) kq (λ_=>kq) λb' B8=>V.q<|a3v 26 i (by omega) ?_;have aC:(c6 o).take (i+1)=(c6 o).take i++[f]:=by
   rw [a2c,a0b e9];rw [a0r,a0b e9] at hf;simp only [a1e] at hf;rw [hf]; rfl
  refine d9 [3,6,24,25,26] [true,true,true,true] (ih ⟨b',i+1⟩ ⟨e9,?_,?_⟩ (by simp only; omega)) kq kq
  ·simp only;rw [aC,lh,B8.1,Q5]
  ·simp only;rw [aC,lh,B8.2,eO,Q5]
 ·have B0:(c6 o).length=i:=by
   have:¬ i<(c6 o).length:=by simpa using hb
   omega
  rw [<- B0,a1o] at Q5 eO;refine V.q<|p9 [] [] 11 kq<|@a1z _ [] [] 11 _ _ ([]:List (Ent a0a)) [] kq kq trivial<|@VX.bytes _ [] [] 11 _ _ 0 (d5 bsv 0 b.bs b.q b.c 5 1 true) b.bs kq rfl (λ_ _=>rfl) kq<|@a1z _ [] [] 11 _ _ ([]:List (Ent a0a)) [] kq kq trivial<|@o7 _ [] [] 11 _ _ kq<|V.q ?_;obtain ⟨bs,q1,c1,rs,q2,c2⟩:=b;simp only at Q5 eO;subst Q5 eO;exact V.e ((q2,c2):Option Addr×Nat) [] trivial
def rdL (rl:List (Int×Int)) (X:RIn) (l:List Fl) (s:RSt×In):RSt×In:=l.foldl (λs f=>if s.1.bad=true then s else f.rd rl X s.1 s.2) s
theorem vA (rl:List (Int×Int)) (X:RIn) (l:List Fl) (f:Fl) (s:RSt×In):rdL rl X (l++[f]) s=if (rdL rl X l s).1.bad=true then rdL rl X l s else f.rd rl X (rdL rl X l s).1 (rdL rl X l s).2:=by
 unfold rdL;rw [a4r];rfl
theorem DY {rl:List (Int×Int)} {X:RIn} {l l1:List Fl} {f:Fl} {s:RSt×In} {r:RSt} {x:In} {y:RSt×In×IA} (hl:l1=l++[f]) (h:(r,x)=rdL rl X l s) (hb:r.bad=false) (hy:y.1=(f.rd rl X r x).1/\y.2.1=(f.rd rl X r x).2) :
  (y.1,y.2.1)=rdL rl X l1 s:=by
 rw [hl,vA,<- h,hy.1,hy.2];simp only [hb,Bool.false_eq_true,if_false]
theorem DZ {rl:List (Int×Int)} {X:RIn} {l l1:List Fl} {f:Fl} {s:RSt×In} {r:RSt} {x:In} (hl:l1=l++[f]) (h:(r,x)=rdL rl X l s) (hb:r.bad=true):(r,x)=rdL rl X l1 s:=by
 rw [hl,vA,<- h];simp only [hb,if_true]
theorem Bk {a b c i:Nat} (h1:a<=b+16) (h2:b<=16*i) (h3:c=a):c<=16*(i+1):=by omega
theorem Ea {a i:Nat} (h:a<=16*i):a<=16*(i+1):=by omega
def t7 (rl:List (Int×Int)) (X:RIn) (at_:Nat):RSt×In :=
 rdL rl X ((n7 ((f6 X ⟨at_,false⟩).1.toNat:Int)).getD []) ((f6 X ⟨at_,false⟩).2,f0 ((f6 X ⟨at_,false⟩).1.toNat:Int))
def B1 (rl:List (Int×Int)) (X:RIn) (at_:Nat):Bool :=
 (n7 ((f6 X ⟨at_,false⟩).1.toNat:Int)).isSome&&!(t7 rl X at_).1.bad&&j2 (t7 rl X at_).2
def inZ:List SV:=[.int .i64 0,.int .i64 0,.int .i64 0,.int .i64 0,.int .i64 0,.int .i64 0,.int .i64 0,.bool false,.str [],.int .i64 0,.int .i64 0,.int .i64 0,.bool false,.str [],.int .i64 0,.int .i64 0,.int .i64 0,.bool false,.str [],
  .int .i64 0,.int .i64 0,.int .i64 0,.int .i64 0,.str [],.val (.slice none 0 0),.val (.slice none 0 0),.val (.slice none 0 0),.bool false,.bool false]
structure DI where
 r:RSt
 x:In
 A:IA
 i:Nat
def Sd (K:Kc) (rl:List (Int×Int)) (X:RIn) (o:Nat) (q:Option Addr) (c:Nat) (j:DI):St :=
 { n:=67,slots:=[(4,ov (.ptr 0 0)),(8,ov (.ptr 1 0)),(11,ov (.ptr 2 0)),(12,ov (.ptr 3 0)),(14,ov (.bool true)),(33,ov (.row 3 q (c6 o).length c)),(34,ov (.int .i64 (c6 o).length)),(35,ov (.int .i64 j.i))],gs:=[],
    heap:=[(0,⟨[.val (.map (some K.gF)),.val (.map (some K.gO))],110,true⟩),(1,⟨inZ,30,true⟩),(2,⟨[.str X.s,.int .i64 (j.r.at_:Int),.val (.slice X.q X.n X.c),.sb j.r.bad],104,true⟩),(3,⟨inO j.x j.A,30,true⟩)],next:=4,
    rows:=[(0,d5 a5f fm0 j.x.f j.A.qf j.A.cf 93 4 true),(1,d5 C6 0 j.x.l j.A.ql j.A.cl 3 1 true),(2,d5 a5g ty0 j.x.y j.A.qy j.A.cy 23 5 true),(3,d5 (λf=>f.cells (K.a f)) .D (c6 o) q c 165 6 true)],nr:=4,pers:=[cdP K,e8 (j1 rl X.q X.c)],wr:=true,fx:=0 }
theorem JZ (X:RIn) (r:RSt) (h:j8 X r):CallsK a0a 90 [.one (.ptr 0 0)] (rdF [] X r) (λx:RSt=>x=(f6 X r).2) (λ_=>ov (.int .u8 ((f6 X r).1.toNat:Int))) (rdF [] X):=d8 (λ_=>rfl) (oJ X r h)
theorem aR {X:RIn} {r:RSt} (h:j8 X r):j8 X (m3 X r).2:=F4 (F4 (F4 (F4 h)))
theorem rA {α:Type} {X:RIn} {g:RSt->α×RSt} (hg:∀ r,j8 X r->j8 X (g r).2):∀ (n:Nat) (r:RSt),j8 X r->j8 X (o6 g n r).2
 | 0,r,h=>h
 | n+1,r,h=>rA hg n _ (hg r h)
theorem iH {α:Type} {g:RSt->α×RSt}:∀ (n:Nat) (r:RSt),(o6 g n r).1.length=n
 | 0,r=>rfl
 | n+1,r=>by simp [o6,iH n]
theorem cP {α:Type} {X:RIn} {g:RSt->α×RSt} (hg:∀ r,j8 X r->j8 X (g r).2) {l:List α} {r:RSt} (h:j8 X r):j8 X (s4 X g l r).2/\(s4 X g l r).1.length<=l.length+16:=by
 unfold s4;split
 ·exact ⟨(l9 h).1,by simp⟩
 ·rename_i hn;refine ⟨rA hg _ _ (l9 h).1,?_⟩;simp only [a0c,iH];simp at hn;omega
theorem zG {no:Bool} {rl:List (Int×Int)} {X:RIn} {r:RSt} {old:Int} (h:j8 X r):j8 X (M5 no rl X r old).2:=by
 unfold M5;split
 ·exact aR h
 ·split
  ·exact bw rl _ (aR h)
  ·exact aR h
theorem vB (f:Fl) {rl:List (Int×Int)} {X:RIn} {r:RSt} {x:In} (h:j8 X r) :
  j8 X (f.rd rl X r x).1/\(f.rd rl X r x).2.f.length<=x.f.length+16/\(f.rd rl X r x).2.l.length<=x.l.length+16/\(f.rd rl X r x).2.y.length<=x.y.length+16:=by
 cases f
 case D=>exact ⟨(l9 h).1,a0m _ _,a0m _ _,a0m _ _⟩
 case A=>exact ⟨(l9 h).1,a0m _ _,a0m _ _,a0m _ _⟩
 case B=>exact ⟨(l9 h).1,a0m _ _,a0m _ _,a0m _ _⟩
 case N=>exact ⟨(l9 h).1,a0m _ _,a0m _ _,a0m _ _⟩
 case M=>exact ⟨(l9 h).1,a0m _ _,a0m _ _,a0m _ _⟩
 case P=>exact ⟨(l9 h).1,a0m _ _,a0m _ _,a0m _ _⟩
 case T=>exact ⟨dV h,a0m _ _,a0m _ _,a0m _ _⟩
 case U=>exact ⟨dV h,a0m _ _,a0m _ _,a0m _ _⟩
 case W=>exact ⟨dV h,a0m _ _,a0m _ _,a0m _ _⟩
 case V=>exact ⟨jx (l9 h).1,a0m _ _,a0m _ _,a0m _ _⟩
 case L=>exact ⟨(cP (λr h=>DQ h) h).1,a0m _ _,(cP (l:=x.l) (λr h=>DQ h) h).2,a0m _ _⟩
 case Y=>exact ⟨(cP (λr h=>dV h) h).1,a0m _ _,a0m _ _,(cP (l:=x.y) (λr h=>dV h) h).2⟩
 case F=>exact ⟨(cP (λr h=>mW h) h).1,(cP (l:=x.f) (λr h=>mW h) h).2,a0m _ _,a0m _ _⟩
 case Sz=>exact ⟨aL h,a0m _ _,a0m _ _,a0m _ _⟩
 case Rg=>exact ⟨aL h,a0m _ _,a0m _ _,a0m _ _⟩
 case aN=>exact ⟨aR h,a0m _ _,a0m _ _,a0m _ _⟩
 case aM=>exact ⟨aR h,a0m _ _,a0m _ _,a0m _ _⟩
 case pN=>exact ⟨zG h,a0m _ _,a0m _ _,a0m _ _⟩
 case pM=>exact ⟨zG h,a0m _ _,a0m _ _,a0m _ _⟩
 case far=>exact ⟨aR (bw rl _ h),a0m _ _,a0m _ _,a0m _ _⟩
def dcV (n:Nat) (ok:Bool) (y:In×IA):RV:=.tup [.agg (inV y.1 y.2),.one (.int .i64 n),.one (.sb ok)]
theorem zH (K:Kc) (hK:K.ok) (rl:List (Int×Int)) (X:RIn) (hX:X.n=rl.length) (hl:rl.length<=1000000000) (at_:Nat) (x7:j8 X ⟨at_,false⟩) :
  CallsK a0a 70 [.agg [.val (.map (some K.gF)),.val (.map (some K.gO))],.one (.str X.s),.one (.val (.slice X.q X.n X.c)),.one (.int .i64 (at_:Int))] (z8 [cdP K,e8 (j1 rl X.q X.c)])
   (λy:In×IA=>y.1=(t7 rl X at_).2) (dcV (t7 rl X at_).1.at_ (B1 rl X at_)) (λy=>z8 (lsP y.1 y.2)):=by
 have yD:j8 X (f6 X ⟨at_,false⟩).2:=F4 x7;obtain ⟨o,ho⟩:∃ o:Nat,(f6 X ⟨at_,false⟩).1.toNat=o:=⟨_,rfl⟩;have VU:o<256:=by rw [<- ho]; exact (f6 X ⟨at_,false⟩).1.toNat_lt
 have yI:a0h.wrap ((o:Nat):Int)=(o:Int):=by
  simp [a1s,a1t,a1p];omega
 by_cases f7:1<=(o:Int)/\(o:Int)<=38
 case neg =>
  have J8:¬ (1<=(o:Int)/\(o:Int)<=38):=f7;have F5:n7 (o:Int)=none:=by unfold n7; rw [if_neg f7]
  rw [show B1 rl X at_=false by unfold B1; rw [ho,F5]; rfl,show t7 rl X at_=((f6 X ⟨at_,false⟩).2,f0 (o:Int)) by unfold t7; rw [ho,F5]; rfl];refine a0j true Tryz.func70 fun ρ w=>V.q<|a6f 2<|V.c [] (JZ X ⟨at_,false⟩ x7) (λr1 Cg=>?_);subst Cg;exact V.q<|V.s 24 (.one (.int .i64 (a0h.wrap ((f6 X ⟨at_,false⟩).1.toNat:Int)))) (.one (.int .i64 (o:Int))) (λ_=>by rw [ho,yI])<|V.t T5f [] trivial<|V.c [(0,false)] (JY K hK (o:Int) J8) λ_ _=>V.q<|V.s 14 (.one (.sb false)) (.one (.bool false)) (λ_=>rfl)<|l6 [] 10 [] trivial<|a6f 3<|vpn (C7 (f0 (o:Int)) IA0)<|vpn (C1 (f0 (o:Int)) IA0)<|vpn (E7 (f0 (o:Int)) IA0)<|p9 [1] [] 21 kq<|@a1z _ [1] [] 21 _ _ ([]:List (Ent a0a)) [] kq kq trivial<|@VX.store _ [1] [] 21 _ _ 18 kq kq kq<|@a1z _ [1] [] 21 _ _ ([]:List (Ent a0a)) [] kq kq trivial<|@o7 _ [1] [] 21 _ _ kq<|V.q<|a4o 10 false<|V.e ((f0 (o:Int),IA0):In×IA) [(2,true),(1,true),(0,true)] rfl
 have N2:F8 o=true:=(p6 o).2 (by omega);have F5:n7 (o:Int)=some (c6 o):=by unfold n7; rw [if_pos f7]; rfl
 have hR:t7 rl X at_=rdL rl X (c6 o) ((f6 X ⟨at_,false⟩).2,f0 (o:Int)):=by unfold t7; rw [ho,F5]; rfl
 have Nn:B1 rl X at_=(!(t7 rl X at_).1.bad&&j2 (t7 rl X at_).2):=by unfold B1; rw [ho,F5]; rfl
 have lK:(c6 o).length<=7:=by
  have:=D7 (p:=λo=>decide ((c6 o).length<=7)) kq N2;simpa using this
 rw [Nn,hR];generalize hE:rdL rl X (c6 o) ((f6 X ⟨at_,false⟩).2,f0 (o:Int))=sE;obtain ⟨rE,xE⟩:=sE;simp only;refine a0j true Tryz.func70 fun ρ w=>V.q<|a6f 2<|V.c [] (JZ X ⟨at_,false⟩ x7) λr1 Cg=>V.q<|V.s 24 (.one (.int .i64 (a0h.wrap ((f6 X ⟨at_,false⟩).1.toNat:Int)))) (.one (.int .i64 (o:Int))) (λ_=>by rw [ho,yI])<|V.t T5f [] trivial<|V.c [(0,false)] (cOf K hK o N2) (λqc _=>?_);obtain ⟨q,c⟩:=qc;refine V.t T5f [] trivial<|V.s 14 (.one (.sb true)) (.one (.bool true)) (λ_=>rfl)<|a6f 3<|H6 a5f fm0 3 24 ⟨inC (f0 (o:Int)) (.val (.slice none 0 0)) (.val (.slice none 0 0)) (.val (.slice none 0 0)),30,true⟩ 93 4 kq rfl<|H6 C6 0 3 25 ⟨inC (f0 (o:Int)) (.row 1 none 0 0) (.val (.slice none 0 0)) (.val (.slice none 0 0)),30,true⟩ 3 1 kq rfl<|H6 a5g ty0 3 26 ⟨inC (f0 (o:Int)) (.row 1 none 0 0) (.row 2 none 0 0) (.val (.slice none 0 0)),30,true⟩ 23 5 kq rfl<|j6 [4,8,11,12,14,33,34,35] [true,true] (λj:DI=>(c6 o).length - j.i) (Sd K rl X o q c) (λj=>j.i<=(c6 o).length/\(j.r,j.x)=rdL rl X ((c6 o).take j.i) ((f6 X ⟨at_,false⟩).2,f0 (o:Int))/\j8 X j.r/\j.x.f.length<=16*j.i/\j.x.l.length<=16*j.i/\j.x.y.length<=16*j.i) ⟨r1,f0 (o:Int),IA0,0⟩ kq ⟨a0s _,by rw [Cg]; rfl,by rw [Cg]; exact yD,a0q _,a0q _,a0q _⟩ (λj hj ih=>?_);obtain ⟨r,x,A,i⟩:=j;obtain ⟨hi,GI,wG,KM,nt,Ci⟩:=hj;simp only at hi GI wG KM nt Ci;have Az:x.okL:=⟨by omega,by omega,by omega⟩;refine a1l<|V.q<|f9 36 (decide ((i:Int)<(c6 o).length)) (λhb=>?_) (λhb=>?_)
 ·have e9:i<(c6 o).length:=by simpa using hb
  obtain ⟨f,hf⟩:∃ f,(c6 o).getD i .D=f:=⟨_,rfl⟩;have aC:(c6 o).take (i+1)=(c6 o).take i++[f]:=by
   rw [a2c,a0b e9];rw [a0r,a0b e9] at hf;simp only [a1e] at hf;rw [hf]; rfl
  refine V.t [] [(0:Int)<=i/\(i:Int)<(c6 o).length] ⟨by omega,by omega⟩<|f9 43 (!r.bad) (λqq=>?_) (λqq=>?_)
  ·have ic:r.bad=false:=by simpa using qq
   refine V.q<|V.s 45 (.one (eH ((c6 o).getD i .D).ids.2.2.2.1 (K.a ((c6 o).getD i .D)) ((c6 o).getD i .D).caps.2.2.2.1)) (.one (eH f.ids.2.2.2.1 (K.a f) f.caps.2.2.2.1)) (λ_=>by rw [hf])<|V.callL [(0,false),(1,false)] [2,3] [0,1,2] (OH f K rl X hX hl r x A Az wG) (by clear hf aC; cases f<;>kernel_rfl) (by clear hf aC; cases f<;>kernel_rfl) (by clear hf aC; cases f<;>kernel_rfl) kq (λ_=>kq) (λy hy=>?_);have k:=vB f (rl:=rl) (x:=x) wG;refine V.q<|a3v 35 i (by omega)<|d9 [4,8,11,12,14,33,34,35] [true,true] (ih ⟨y.1,y.2.1,y.2.2,i+1⟩ ⟨e9,DY aC GI ic hy,by rw [hy.1]; exact k.1,Bk k.2.1 KM (by rw [hy.2]),Bk k.2.2.1 nt (by rw [hy.2]),Bk k.2.2.2 Ci (by rw [hy.2])⟩ (by simp only; omega)) kq kq
  ·have ic:r.bad=true:=by simpa using qq
   refine V.q<|a3v 35 i (by omega)<|d9 [4,8,11,12,14,33,34,35] [true,true] (ih ⟨r,x,A,i+1⟩ ⟨e9,DZ aC GI ic,wG,Ea KM,Ea nt,Ea Ci⟩ (by simp only; omega)) kq kq
 ·have B0:(c6 o).length=i:=by
   have:¬ i<(c6 o).length:=by simpa using hb
   omega
  rw [<- B0,a1o] at GI;refine V.q ?_;rw [hE] at GI;have hr:=(Prod.mk.inj GI).1;have hx:=(Prod.mk.inj GI).2;subst hr hx;refine a3a 0 (d5 a5f fm0 x.f A.qf A.cf 93 4 true) kq kq<|a3a 1 (d5 C6 0 x.l A.ql A.cl 3 1 true) kq kq<|a3a 2 (d5 a5g ty0 x.y A.qy A.cy 23 5 true) kq kq ?_;by_cases ic:r.bad=true
  case pos =>
   exact j3 2 3 ⟨[.str X.s,.int .i64 (r.at_:Int),.val (.slice X.q X.n X.c),.sb r.bad],104,true⟩ (.sb r.bad) (.bool true) kq rfl kq (λ_=>by rw [ic]; rfl)<|p9 [1] [] 21 kq<|@a1z _ [1] [] 21 _ _ ([]:List (Ent a0a)) [] kq kq trivial<|@VX.store _ [1] [] 21 _ _ 18 kq kq kq<|@a1z _ [1] [] 21 _ _ ([]:List (Ent a0a)) [] kq kq trivial<|@o7 _ [1] [] 21 _ _ kq<|V.q<|V.s 10 (.one (.bool false)) (.one (.sb (!r.bad&&j2 x))) (λ_=>by rw [ic]; rfl)<|V.e ((x,A):In×IA) [(2,true),(1,true),(0,true)] rfl
  case neg =>
   have ic:r.bad=false:=by simpa using ic
   exact j3 2 3 ⟨[.str X.s,.int .i64 (r.at_:Int),.val (.slice X.q X.n X.c),.sb r.bad],104,true⟩ (.sb r.bad) (.bool false) kq rfl kq (λ_=>by rw [ic]; rfl)<|p9 [1] [] 21 kq<|@a1z _ [1] [] 21 _ _ ([]:List (Ent a0a)) [] kq kq trivial<|@a5u _ [1] [] 21 _ _ Unit 59 [.agg [.val (.map (some K.gF)),.val (.map (some K.gO))],.agg (inV x A)] (stP (cdP K::lsP x A)) _ _ _ [(3,false),(2,true),(1,true),(0,true)] (lg K hK x A Az) kq kq kq (λ_=>kq) λ_ _=>@a1z _ [1] [] 21 _ _ ([]:List (Ent a0a)) [] kq kq trivial<|@VX.store _ [1] [] 21 _ _ 18 kq kq kq<|@a1z _ [1] [] 21 _ _ ([]:List (Ent a0a)) [] kq kq trivial<|@o7 _ [1] [] 21 _ _ kq<|V.q<|V.s 10 (.one (.sb (j2 x))) (.one (.sb (!r.bad&&j2 x))) (λ_=>by rw [ic]; rfl)<|V.e ((x,A):In×IA) [(2,true),(1,true),(0,true)] rfl
theorem Eb {t:Ty} (h:J4 t=true):(y9 t).length<=1000:=by
 have hi:=dY h;have h1:=a2e t.k hi.1.1 hi.1.2;have h2:=a2e t.p hi.2.1.1 hi.2.1.2;have h3:=a2e t.q hi.2.2.1.1 hi.2.2.1.2;have h4:(ab t.v).length=1:=by cases t.v<;>rfl
 unfold J4 at h;simp only [a0g,decide_eq_true_eq] at h;unfold y9;simp only [a0c,a0p,a1r,h4,mh];omega
theorem Ec {t:Fm} (h:Q9 t=true):(E9 t).length<=1000:=by
 have hi:=tb h;have h1:=a2e t.k hi.1.1 hi.1.2;have h2:=a2e t.w hi.2.1.1 hi.2.1.2;have h3:=a2e t.d hi.2.2.1.1 hi.2.2.1.2;unfold Q9 at h;simp only [a0g,decide_eq_true_eq] at h;unfold E9;simp only [a0c,a0p,a1r,mh];omega
structure PG (α:Type) where
 l:List α
 q:Option Addr
 c:Nat
theorem rB (c:UInt8) (s:List UInt8) (i:Nat):((c8 c s).getD i []).length<=s.length:=by
 rw [a0r];cases e:(c8 c s)[i]? with
 | none=>simp
 | some p=>exact rx c s p (a0v e)
def ltT (x:In) (A:IA) (ct:Nat) (j:GL (List UInt8)):St :=
 { n:=28,slots:=[(2,ov (.val (.pointer (some ⟨ct,0,none⟩)))),(5,ov (.row 0 j.q j.l.length j.c)),(11,ov (.row 1 A.qy x.y.length A.cy)),(12,ov (.int .i64 x.y.length)),(13,ov (.int .i64 j.i))],gs:=[],
    heap:=[],next:=0,rows:=[(0,d5 z7 [] j.l j.q j.c 9 1 true),(1,E7 x A)],nr:=2,pers:=[r9 ct [fnV 174] 185,j7],wr:=true,fx:=0 }
def vC:List (Ent a0a):=[Q1.e,⟨sY,[0]⟩]
theorem LY (x:In) (A:IA) (cb ct:Nat) (hl:x.y.length<=1000) (hf0:(x.y.all J4&&decide ((x.y.length:Int)<=16))=true):CallsK a0a 272 [.agg (inV x A),.one (.val (.pointer (some ⟨cb,0,none⟩))),.one (.val (.pointer (some ⟨ct,0,none⟩)))] (z8 [r9 cb [fnV 195] 217,r9 ct [fnV 174] 185,e8 (E7 x A),j7])
  (λ_:Unit=>True) (λ_=>ov (.str ([91]++a1u (x.y.map y9) [59]++[93]))) (λ_=>noF):=by
 have hf:x.y.all J4=true:=by rw [a0g] at hf0; exact hf0.1
 refine a0j true Tryz.func272 fun ρ w=>V.t vC [] trivial<|y8 0 217 cb 0 [fnV 195] 217 (.one (fnV 195))<|V.t vC [] trivial<|G4 11 2 (E7 x A)<|U9 z7 [] 5 9 1 kq kq<|j6 [2,5,11,12,13] [false,true,false,true] (λj:GL (List UInt8)=>x.y.length - j.i) (ltT x A ct) (λj=>j.i<=x.y.length/\j.l=(x.y.take j.i).map y9) ⟨⟨0,false⟩,[],none,0,0⟩ kq ⟨a0s _,rfl⟩ (λj hj ih=>?_);obtain ⟨r0,l,q,c,i⟩:=j;obtain ⟨hi,cZ⟩:=hj;simp only at hi cZ;have n8:l.length=i:=by rw [cZ,a1k,a2b]; omega
 refine a1l<|V.t vC [] trivial<|f9 14 (decide ((i:Int)<x.y.length)) (λhb=>?_) (λhb=>?_)
 ·have e9:i<x.y.length:=by simpa using hb
  have mC:=dY (V5 e9 ty0 hf);refine V.t vC [(0:Int)<=i/\(i:Int)<x.y.length] ⟨by omega,by omega⟩<|y8 0 185 ct 0 [fnV 174] 185 (.one (fnV 174))<|V.t vC [inK .i64 (x.y.getD i ty0).k/\inK .i64 (x.y.getD i ty0).p/\inK .i64 (x.y.getD i ty0).q/\(x.y.getD i ty0).s.length<=1000000000] mC<|a6q z7 [] l (y9 (x.y.getD i ty0)) 0 q c 9 1 [.str (y9 (x.y.getD i ty0))] 16 kq (by omega) rfl (λ_ _=>kq) λq' c'=>V.t vC [] trivial<|a3v 13 i (by omega)<|d9 [2,5,11,12,13] [true,true] (ih ⟨r0,l++[y9 (x.y.getD i ty0)],q',c',i+1⟩ ⟨e9,?_⟩ (by simp only; omega)) kq kq;simp only;rw [cZ,a2c,a0b e9,a2x,a0r,a0b e9];rfl
 ·have B0:x.y.length=i:=by
   have:¬ i<x.y.length:=by simpa using hb
   omega
  have de:l=x.y.map y9:=by rw [cZ,<- B0,a1o]
  have hj:(a1u l [59]).length<=1001*1000:=by
   refine a0n (oW 1000 l (λy hy=>?_)) (by rw [n8]; omega);rw [de] at hy;obtain ⟨n,hn,rfl⟩:=a1d.1 hy;exact Eb (a0y.1 hf n hn)
  refine V.t vC [] trivial<|V.c [] (zu l [59] q c (by omega) (by omega)) (λ_ _=>?_);have o1:1+(a1u l [59]).length<=9223372036854775807:=by omega
  have o2:(([91]:List UInt8)++a1u l [59]).length+1<=9223372036854775807:=by rw [a0c]; show 1+_+1<=_; omega
  refine V.t vC [(1+(a1u l [59]).length:Nat)<=9223372036854775807,((([91]:List UInt8)++a1u l [59]).length+1:Nat)<=9223372036854775807] ⟨o1,o2⟩ ?_;rw [<- de];exact V.z
def pxT (x:In) (j:PG Ty):In:={ x with y:=j.l }
def paT (A:IA) (j:PG Ty):IA:={ A with qy:=j.q,cy:=j.c }
def lqT (x:In) (A:IA) (cp:Nat) (j:PG Ty):St :=
 { n:=60,slots:=[(2,ov (.val (.pointer (some ⟨cp,0,none⟩)))),(3,ov (.ptr 1 0)),(5,ov (.ptr 2 0)),(6,ov (.ptr 3 0))],gs:=[],
    heap:=[(0,⟨inO (pxT x j) (paT A j),30,true⟩),(1,⟨[fnV 195],217,false⟩),(2,⟨[.ptr 0 0],157,true⟩),(3,⟨[.bool false],4,true⟩)],next:=4,rows:=S4 (pxT x j) (paT A j),nr:=3,pers:=[r9 cp [fnV 176] 204,j7],wr:=true,fx:=1 }
def T8T:List (Ent a0a):=[Q1.e,S5.e,dF.e]
theorem HT (s:List UInt8) (x:In) (A:IA) (cp cb:Nat) (hp:12<=cp) (hc:12<=cb) (hs:s.length<1000000000) (hl:x.y.length<=1000):CallsK a0a 273 [.one (.str s),.one (.ptr 0 0),.one (.val (.pointer (some ⟨cp,0,none⟩))),.one (.val (.pointer (some ⟨cb,0,none⟩)))]
  (psF [r9 cb [fnV 195] 217,r9 cp [fnV 176] 204,j7] x A)
  (λy:PG Ty=>(lB s&&(psG tyB tyV x.y (c8 59 (lS s))).2)=true->y.l=(psG tyB tyV x.y (c8 59 (lS s))).1) (λy=>ov (.sb (lB s&&(psG tyB tyV x.y (c8 59 (lS s))).2))) (λy=>psF [] (pxT x y) (paT A y)):=by
 have nt:(a0o s [91]).length<=s.length:=X7 s [91] (a0q _);refine a0j true Tryz.func273 fun ρ w=>L9 3 cb [fnV 195] 217 [r9 cp [fnV 176] 204,j7] kq kq kq kq kq (λw h1 h2 p hp=>by
  rcases a0k.1 hp with rfl | hp
  ·exact aK (by decide) w h1 (h2 _ (a0f ..))
  ·rw [a0d] at hp; subst hp;intro hd; have:cb<12:=hd; omega) ?_
 refine V.t T8T [(a0o s [91]).length<=9223372036854775807] (by show _<=_; omega)<|f9 27 (!a2d s [91]||!a3k (a0o s [91]) [93]) (λhb=>?_) (λhb=>?_)
 ·refine V.t T8T [] trivial ?_;have ie:lB s=false:=by
   unfold lB;revert hb;cases a2d s [91]<;>cases a3k (a0o s [91]) [93]<;>simp
  rw [show (lB s&&(psG tyB tyV x.y (c8 59 (lS s))).2)=false by rw [ie]; rfl];exact j3 3 0 ⟨[.bool false],4,true⟩ (.bool false) (.sb false) kq rfl kq (λ_=>rfl)<|V.e ⟨x.y,A.qy,A.cy⟩ [] (λh=>by cases h)
 ·have Q5:lB s=true:=by
   unfold lB;revert hb;cases a2d s [91]<;>cases a3k (a0o s [91]) [93]<;>simp
  have de:(lS s).length<=s.length:=by
   refine a0n ?_ nt;unfold lS a6w;split
   ·simp
   ·exact a0q _
  have Nx:∀ i,((c8 59 (lS s)).getD i []).length<1000000000:=λi=>by have:=rB 59 (lS s) i; omega
  rw [show (lB s&&(psG tyB tyV x.y (c8 59 (lS s))).2)=(psG tyB tyV x.y (c8 59 (lS s))).2 by rw [Q5]; rfl];refine V.t T8T [] trivial<|V.c [] (sP 59 (lS s)) λ_ _=>V.q<|gh (lqT x A cp) ⟨λ_=>rfl,λ_=>rfl,λ_=>rfl,λ_=>rfl,λ_=>rfl,λ_=>rfl,λ_=>rfl,λ_=>rfl⟩
   (λi j=>psG tyB tyV x.y (c8 59 (lS s))=psG tyB tyV j.l ((c8 59 (lS s)).drop i)/\j.l.length<=x.y.length+i) (λcd j=>cd=.ret/\psG tyB tyV x.y (c8 59 (lS s))=(j.l,false)) (λi=>[.one (.str ((c8 59 (lS s)).getD i []))]) (λi ρ=>rfl)
   ⟨x.y,A.qy,A.cy⟩ [2,3,5,6] [true,true] [(1,false)] (dG 59 (lS s) (by omega)) kq kq ⟨rfl,a0q _⟩ kq kq kq (λi=>kq) (λi=>kq)
   (λi j ρ1 W l r q hi hx=>?_) (λj l r q hx=>?_) (λcd j l r q hx=>?_)
  ·obtain ⟨S0,UI⟩:=hx;have hN:=dH 59 (lS s);have wH:(c8 59 (lS s)).drop i=(c8 59 (lS s)).getD i []::(c8 59 (lS s)).drop (i+1):=by
    rw [a2k hi,a0r,a0b hi]; rfl
   rw [wH,psG] at S0;refine V.t T8T [] trivial<|mQ 4 l (t6 q none) kq rfl kq rfl<|V.t T8T [] trivial<|y8 0 204 cp 0 [fnV 176] 204 (.one (fnV 176))<|V.t T8T [] trivial<|V.c [(1,false)] (zD ((c8 59 (lS s)).getD i []) (Nx i)) λt ht=>V.t T8T [] trivial<|f9 47 (!tyB ((c8 59 (lS s)).getD i [])||(j.l.length:Int)==16) (λhf=>?_) (λhf=>?_)
   ·rw [if_pos hf] at S0;exact V.t T8T [] trivial<|E3 [2,3,5,6] [true,true] (some .ret) j kq kq kq rfl rfl ⟨rfl,S0⟩
   ·rw [if_neg (by rw [hf]; simp)] at S0;have Jo:=ht (by revert hf; cases tyB ((c8 59 (lS s)).getD i [])<;>simp);rw [<- Jo] at S0;refine V.t T8T [] trivial<|p9 [] [2] 12 kq<|@a1z _ [] [2] 12 _ _ ([Q1.e]:List (Ent a0a)) [] kq kq trivial<|@kP _ [] [2] 12 _ _ ([Q1.e]:List (Ent a0a)) [] 2 9 kq kq kq kq kq trivial ?_ ?_
    ·refine @a1z _ [] [2] 12 _ _ ([Q1.e]:List (Ent a0a)) [] kq kq trivial<|@kP _ [] [2] 12 _ _ ([Q1.e]:List (Ent a0a)) [] 5 9 kq kq kq kq kq trivial ?_ ?_
     ·exact @a1z _ [] [2] 12 _ _ ([Q1.e]:List (Ent a0a)) [] kq kq trivial<|@a6s _ [] [2] 12 _ _ _ a5g ty0 j.l t 2 j.q j.c 23 5 t.cells 48 kq kq kq (by omega) rfl (λ_ _=>kq) λq' c'=>@a1z _ [] [2] 12 _ _ ([Q1.e]:List (Ent a0a)) [] kq kq trivial<|@o7 _ [] [2] 12 _ _ kq<|V.t T8T [] trivial<|E3 [2,3,5,6] [true,true] none ⟨j.l++[t],q',c'⟩ kq kq kq rfl rfl ⟨S0,by simp only [a0c,a0p,a1r]; omega⟩
     ·exact @a1z _ [] [2] 12 _ _ ([Q1.e]:List (Ent a0a)) [] kq kq trivial<|@a6s _ [] [2] 12 _ _ _ a5g ty0 j.l t 2 j.q j.c 23 5 t.cells 48 kq kq kq (by omega) rfl (λ_ _=>kq) λq' c'=>@a1z _ [] [2] 12 _ _ ([Q1.e]:List (Ent a0a)) [] kq kq trivial<|@o7 _ [] [2] 12 _ _ kq<|V.t T8T [] trivial<|E3 [2,3,5,6] [true,true] none ⟨j.l++[t],q',c'⟩ kq kq kq rfl rfl ⟨S0,by simp only [a0c,a0p,a1r]; omega⟩
    ·exact @a1z _ [] [2] 12 _ _ ([Q1.e]:List (Ent a0a)) [] kq kq trivial<|@a6s _ [] [2] 12 _ _ _ a5g ty0 j.l t 2 j.q j.c 23 5 t.cells 48 kq kq kq (by omega) rfl (λ_ _=>kq) λq' c'=>@a1z _ [] [2] 12 _ _ ([Q1.e]:List (Ent a0a)) [] kq kq trivial<|@o7 _ [] [2] 12 _ _ kq<|V.t T8T [] trivial<|E3 [2,3,5,6] [true,true] none ⟨j.l++[t],q',c'⟩ kq kq kq rfl rfl ⟨S0,by simp only [a0c,a0p,a1r]; omega⟩
  ·have S0:psG tyB tyV x.y (c8 59 (lS s))=(j.l,true):=by rw [hx.1,List.drop_length]; rfl
   rw [S0];exact V.t T8T [] trivial<|iA 3 r kq rfl (by rintro e w ⟨x,ρ,_,h,_⟩; exact ⟨_,h⟩) kq kq<|j3 3 0 ⟨[.bool true],4,true⟩ (.bool true) (.sb true) kq rfl kq (λ_=>rfl)<|V.e j [] (λ_=>rfl)
  ·obtain ⟨rfl,S0⟩:=hx;rw [S0];exact V.t T8T [] trivial<|iA 3 r kq rfl (by rintro e w ⟨x,ρ,_,h,_⟩; exact ⟨_,h⟩) kq kq<|j3 3 0 ⟨[.bool false],4,true⟩ (.bool false) (.sb false) kq rfl kq (λ_=>rfl)<|V.e j [] (λ_=>rfl)
def ltF (x:In) (A:IA) (ct:Nat) (j:GL (List UInt8)):St :=
 { n:=28,slots:=[(2,ov (.val (.pointer (some ⟨ct,0,none⟩)))),(5,ov (.row 0 j.q j.l.length j.c)),(11,ov (.row 1 A.qf x.f.length A.cf)),(12,ov (.int .i64 x.f.length)),(13,ov (.int .i64 j.i))],gs:=[],
    heap:=[],next:=0,rows:=[(0,d5 z7 [] j.l j.q j.c 9 1 true),(1,C7 x A)],nr:=2,pers:=[r9 ct [fnV 199] 188,j7],wr:=true,fx:=0 }
def vD:List (Ent a0a):=[Q2.e,⟨HC,[0]⟩]
theorem LZ (x:In) (A:IA) (cb ct:Nat) (hl:x.f.length<=1000) (hf0:(x.f.all Q9&&decide ((x.f.length:Int)<=16))=true):CallsK a0a 278 [.agg (inV x A),.one (.val (.pointer (some ⟨cb,0,none⟩))),.one (.val (.pointer (some ⟨ct,0,none⟩)))] (z8 [r9 cb [fnV 202] 226,r9 ct [fnV 199] 188,e8 (C7 x A),j7])
  (λ_:Unit=>True) (λ_=>ov (.str ([91]++a1u (x.f.map E9) [59]++[93]))) (λ_=>noF):=by
 have hf:x.f.all Q9=true:=by rw [a0g] at hf0; exact hf0.1
 refine a0j true Tryz.func278 fun ρ w=>V.t vD [] trivial<|y8 0 226 cb 0 [fnV 202] 226 (.one (fnV 202))<|V.t vD [] trivial<|G4 11 2 (C7 x A)<|U9 z7 [] 5 9 1 kq kq<|j6 [2,5,11,12,13] [false,true,false,true] (λj:GL (List UInt8)=>x.f.length - j.i) (ltF x A ct) (λj=>j.i<=x.f.length/\j.l=(x.f.take j.i).map E9) ⟨⟨0,false⟩,[],none,0,0⟩ kq ⟨a0s _,rfl⟩ (λj hj ih=>?_);obtain ⟨r0,l,q,c,i⟩:=j;obtain ⟨hi,cZ⟩:=hj;simp only at hi cZ;have n8:l.length=i:=by rw [cZ,a1k,a2b]; omega
 refine a1l<|V.t vD [] trivial<|f9 14 (decide ((i:Int)<x.f.length)) (λhb=>?_) (λhb=>?_)
 ·have e9:i<x.f.length:=by simpa using hb
  have mC:=tb (V5 e9 fm0 hf);refine V.t vD [(0:Int)<=i/\(i:Int)<x.f.length] ⟨by omega,by omega⟩<|y8 0 188 ct 0 [fnV 199] 188 (.one (fnV 199))<|V.t vD [inK .i64 (x.f.getD i fm0).k/\inK .i64 (x.f.getD i fm0).w/\inK .i64 (x.f.getD i fm0).d/\(x.f.getD i fm0).s.length<=1000000000] mC<|a6q z7 [] l (E9 (x.f.getD i fm0)) 0 q c 9 1 [.str (E9 (x.f.getD i fm0))] 16 kq (by omega) rfl (λ_ _=>kq) λq' c'=>V.t vD [] trivial<|a3v 13 i (by omega)<|d9 [2,5,11,12,13] [true,true] (ih ⟨r0,l++[E9 (x.f.getD i fm0)],q',c',i+1⟩ ⟨e9,?_⟩ (by simp only; omega)) kq kq;simp only;rw [cZ,a2c,a0b e9,a2x,a0r,a0b e9];rfl
 ·have B0:x.f.length=i:=by
   have:¬ i<x.f.length:=by simpa using hb
   omega
  have de:l=x.f.map E9:=by rw [cZ,<- B0,a1o]
  have hj:(a1u l [59]).length<=1001*1000:=by
   refine a0n (oW 1000 l (λy hy=>?_)) (by rw [n8]; omega);rw [de] at hy;obtain ⟨n,hn,rfl⟩:=a1d.1 hy;exact Ec (a0y.1 hf n hn)
  refine V.t vD [] trivial<|V.c [] (zu l [59] q c (by omega) (by omega)) (λ_ _=>?_);have o1:1+(a1u l [59]).length<=9223372036854775807:=by omega
  have o2:(([91]:List UInt8)++a1u l [59]).length+1<=9223372036854775807:=by rw [a0c]; show 1+_+1<=_; omega
  refine V.t vD [(1+(a1u l [59]).length:Nat)<=9223372036854775807,((([91]:List UInt8)++a1u l [59]).length+1:Nat)<=9223372036854775807] ⟨o1,o2⟩ ?_;rw [<- de];exact V.z
def pxF (x:In) (j:PG Fm):In:={ x with f:=j.l }
def paF (A:IA) (j:PG Fm):IA:={ A with qf:=j.q,cf:=j.c }
def lqF (x:In) (A:IA) (cp:Nat) (j:PG Fm):St :=
 { n:=60,slots:=[(2,ov (.val (.pointer (some ⟨cp,0,none⟩)))),(3,ov (.ptr 1 0)),(5,ov (.ptr 2 0)),(6,ov (.ptr 3 0))],gs:=[],
    heap:=[(0,⟨inO (pxF x j) (paF A j),30,true⟩),(1,⟨[fnV 202],226,false⟩),(2,⟨[.ptr 0 0],157,true⟩),(3,⟨[.bool false],4,true⟩)],next:=4,rows:=S4 (pxF x j) (paF A j),nr:=3,pers:=[r9 cp [fnV 200] 223,j7],wr:=true,fx:=1 }
def T8F:List (Ent a0a):=[Q2.e,S5.e,dF.e]
theorem HU (s:List UInt8) (x:In) (A:IA) (cp cb:Nat) (hp:12<=cp) (hc:12<=cb) (hs:s.length<1000000000) (hl:x.f.length<=1000):CallsK a0a 279 [.one (.str s),.one (.ptr 0 0),.one (.val (.pointer (some ⟨cp,0,none⟩))),.one (.val (.pointer (some ⟨cb,0,none⟩)))]
  (psF [r9 cb [fnV 202] 226,r9 cp [fnV 200] 223,j7] x A)
  (λy:PG Fm=>(lB s&&(psG fmB fmV x.f (c8 59 (lS s))).2)=true->y.l=(psG fmB fmV x.f (c8 59 (lS s))).1) (λy=>ov (.sb (lB s&&(psG fmB fmV x.f (c8 59 (lS s))).2))) (λy=>psF [] (pxF x y) (paF A y)):=by
 have nt:(a0o s [91]).length<=s.length:=X7 s [91] (a0q _);refine a0j true Tryz.func279 fun ρ w=>L9 3 cb [fnV 202] 226 [r9 cp [fnV 200] 223,j7] kq kq kq kq kq (λw h1 h2 p hp=>by
  rcases a0k.1 hp with rfl | hp
  ·exact aK (by decide) w h1 (h2 _ (a0f ..))
  ·rw [a0d] at hp; subst hp;intro hd; have:cb<12:=hd; omega) ?_
 refine V.t T8F [(a0o s [91]).length<=9223372036854775807] (by show _<=_; omega)<|f9 27 (!a2d s [91]||!a3k (a0o s [91]) [93]) (λhb=>?_) (λhb=>?_)
 ·refine V.t T8F [] trivial ?_;have ie:lB s=false:=by
   unfold lB;revert hb;cases a2d s [91]<;>cases a3k (a0o s [91]) [93]<;>simp
  rw [show (lB s&&(psG fmB fmV x.f (c8 59 (lS s))).2)=false by rw [ie]; rfl];exact j3 3 0 ⟨[.bool false],4,true⟩ (.bool false) (.sb false) kq rfl kq (λ_=>rfl)<|V.e ⟨x.f,A.qf,A.cf⟩ [] (λh=>by cases h)
 ·have Q5:lB s=true:=by
   unfold lB;revert hb;cases a2d s [91]<;>cases a3k (a0o s [91]) [93]<;>simp
  have de:(lS s).length<=s.length:=by
   refine a0n ?_ nt;unfold lS a6w;split
   ·simp
   ·exact a0q _
  have Nx:∀ i,((c8 59 (lS s)).getD i []).length<1000000000:=λi=>by have:=rB 59 (lS s) i; omega
  rw [show (lB s&&(psG fmB fmV x.f (c8 59 (lS s))).2)=(psG fmB fmV x.f (c8 59 (lS s))).2 by rw [Q5]; rfl];refine V.t T8F [] trivial<|V.c [] (sP 59 (lS s)) λ_ _=>V.q<|gh (lqF x A cp) ⟨λ_=>rfl,λ_=>rfl,λ_=>rfl,λ_=>rfl,λ_=>rfl,λ_=>rfl,λ_=>rfl,λ_=>rfl⟩
   (λi j=>psG fmB fmV x.f (c8 59 (lS s))=psG fmB fmV j.l ((c8 59 (lS s)).drop i)/\j.l.length<=x.f.length+i) (λcd j=>cd=.ret/\psG fmB fmV x.f (c8 59 (lS s))=(j.l,false)) (λi=>[.one (.str ((c8 59 (lS s)).getD i []))]) (λi ρ=>rfl)
   ⟨x.f,A.qf,A.cf⟩ [2,3,5,6] [true,true] [(1,false)] (dG 59 (lS s) (by omega)) kq kq ⟨rfl,a0q _⟩ kq kq kq (λi=>kq) (λi=>kq)
   (λi j ρ1 W l r q hi hx=>?_) (λj l r q hx=>?_) (λcd j l r q hx=>?_)
  ·obtain ⟨S0,UI⟩:=hx;have hN:=dH 59 (lS s);have wH:(c8 59 (lS s)).drop i=(c8 59 (lS s)).getD i []::(c8 59 (lS s)).drop (i+1):=by
    rw [a2k hi,a0r,a0b hi]; rfl
   rw [wH,psG] at S0;refine V.t T8F [] trivial<|mQ 4 l (t6 q none) kq rfl kq rfl<|V.t T8F [] trivial<|y8 0 223 cp 0 [fnV 200] 223 (.one (fnV 200))<|V.t T8F [] trivial<|V.c [(1,false)] (OC ((c8 59 (lS s)).getD i []) (Nx i)) λt ht=>V.t T8F [] trivial<|f9 47 (!fmB ((c8 59 (lS s)).getD i [])||(j.l.length:Int)==16) (λhf=>?_) (λhf=>?_)
   ·rw [if_pos hf] at S0;exact V.t T8F [] trivial<|E3 [2,3,5,6] [true,true] (some .ret) j kq kq kq rfl rfl ⟨rfl,S0⟩
   ·rw [if_neg (by rw [hf]; simp)] at S0;have Jo:=ht (by revert hf; cases fmB ((c8 59 (lS s)).getD i [])<;>simp);rw [<- Jo] at S0;refine V.t T8F [] trivial<|p9 [] [0] 12 kq<|@a1z _ [] [0] 12 _ _ ([Q2.e]:List (Ent a0a)) [] kq kq trivial<|@kP _ [] [0] 12 _ _ ([Q2.e]:List (Ent a0a)) [] 2 9 kq kq kq kq kq trivial ?_ ?_
    ·refine @a1z _ [] [0] 12 _ _ ([Q2.e]:List (Ent a0a)) [] kq kq trivial<|@kP _ [] [0] 12 _ _ ([Q2.e]:List (Ent a0a)) [] 5 9 kq kq kq kq kq trivial ?_ ?_
     ·exact @a1z _ [] [0] 12 _ _ ([Q2.e]:List (Ent a0a)) [] kq kq trivial<|@a6s _ [] [0] 12 _ _ _ a5f fm0 j.l t 0 j.q j.c 93 4 t.cells 40 kq kq kq (by omega) rfl (λ_ _=>kq) λq' c'=>@a1z _ [] [0] 12 _ _ ([Q2.e]:List (Ent a0a)) [] kq kq trivial<|@o7 _ [] [0] 12 _ _ kq<|V.t T8F [] trivial<|E3 [2,3,5,6] [true,true] none ⟨j.l++[t],q',c'⟩ kq kq kq rfl rfl ⟨S0,by simp only [a0c,a0p,a1r]; omega⟩
     ·exact @a1z _ [] [0] 12 _ _ ([Q2.e]:List (Ent a0a)) [] kq kq trivial<|@a6s _ [] [0] 12 _ _ _ a5f fm0 j.l t 0 j.q j.c 93 4 t.cells 40 kq kq kq (by omega) rfl (λ_ _=>kq) λq' c'=>@a1z _ [] [0] 12 _ _ ([Q2.e]:List (Ent a0a)) [] kq kq trivial<|@o7 _ [] [0] 12 _ _ kq<|V.t T8F [] trivial<|E3 [2,3,5,6] [true,true] none ⟨j.l++[t],q',c'⟩ kq kq kq rfl rfl ⟨S0,by simp only [a0c,a0p,a1r]; omega⟩
    ·exact @a1z _ [] [0] 12 _ _ ([Q2.e]:List (Ent a0a)) [] kq kq trivial<|@a6s _ [] [0] 12 _ _ _ a5f fm0 j.l t 0 j.q j.c 93 4 t.cells 40 kq kq kq (by omega) rfl (λ_ _=>kq) λq' c'=>@a1z _ [] [0] 12 _ _ ([Q2.e]:List (Ent a0a)) [] kq kq trivial<|@o7 _ [] [0] 12 _ _ kq<|V.t T8F [] trivial<|E3 [2,3,5,6] [true,true] none ⟨j.l++[t],q',c'⟩ kq kq kq rfl rfl ⟨S0,by simp only [a0c,a0p,a1r]; omega⟩
  ·have S0:psG fmB fmV x.f (c8 59 (lS s))=(j.l,true):=by rw [hx.1,List.drop_length]; rfl
   rw [S0];exact V.t T8F [] trivial<|iA 3 r kq rfl (by rintro e w ⟨x,ρ,_,h,_⟩; exact ⟨_,h⟩) kq kq<|j3 3 0 ⟨[.bool true],4,true⟩ (.bool true) (.sb true) kq rfl kq (λ_=>rfl)<|V.e j [] (λ_=>rfl)
  ·obtain ⟨rfl,S0⟩:=hx;rw [S0];exact V.t T8F [] trivial<|iA 3 r kq rfl (by rintro e w ⟨x,ρ,_,h,_⟩; exact ⟨_,h⟩) kq kq<|j3 3 0 ⟨[.bool false],4,true⟩ (.bool false) (.sb false) kq rfl kq (λ_=>rfl)<|V.e j [] (λ_=>rfl)
theorem rC:dE j7:=λw w' h hw=>xA w w' h hw
theorem HV {ps:List m6} (h:j7∈ps):Drv ps bC :=
 ⟨λw w' hk hw=>vh _ _ w w' hw hk,j7,h,λk hk=>by
  have h1:a0a.globalNamed "internal/strconv.uint64pow10" = some k:=hk;have h2:a0a.globalNamed "internal/strconv.uint64pow10" = some 3:=kq;rw [h2] at h1;cases h1;show 3<12;decide,λw hw=>hw.tab⟩
theorem qn {p:m6} {ps:List m6}:Drv (p::j7::ps) bC:=HV (a0e _ (a0f ..))
theorem Z4 {p:m6} {ps:List m6}:Drv (p::j7::ps) j7:=vd rC (a0e _ (a0f ..))
def Fl.tok (f:Fl) (x:In):Bool:=f.fineB x
def Fl.txt (f:Fl) (x:In):List UInt8:=match f with
 | .D=>P8 (a0u .D x)
 | .A=>P8 (a0u .A x)
 | .B=>P8 (a0u .B x)
 | .N=>a0i (a0u .N x)
 | .M=>a0i (a0u .M x)
 | .P=>a0i (a0u .P x)
 | .T=>y9 (a3l .T x)
 | .U=>y9 (a3l .U x)
 | .W=>y9 (a3l .W x)
 | .V=>dO x
 | .L=>[91]++a1u (x.l.map rgT) [59]++[93]
 | .Y=>[91]++a1u (x.y.map y9) [59]++[93]
 | .F=>[91]++a1u (x.f.map E9) [59]++[93]
 | .Sz=>Z2 (a5i .S x)
 | .Rg=>Z2 (a5i .R x)
 | .aN=>64::a0i (a0u .N x)
 | .aM=>64::a0i (a0u .M x)
 | .pN=>prT (a0u .N x)
 | .pM=>prT (a0u .M x)
 | .far=>T3 x
theorem w8 {n:Int} (h:-4294967296<=n/\n<=4294967296):hH n/\(a0i n).length<=100:=by
 have h1:hH n:=⟨by omega,by omega⟩;refine ⟨h1,?_⟩;have:=a2e n h1.1 h1.2;omega
theorem Q4 {n:Int} (h:n9 n=true):-4294967296<=n/\n<=4294967296:=by have:=q5 h; unfold I3 at this; omega
theorem ee {n:Int} (h:cH n=true):-4294967296<=n/\n<=4294967296:=by have:=K4 h; omega
theorem li {n:Int} (h:fo n=true):-4294967296<=n/\n<=4294967296:=by
 unfold fo at h;simp only [a0g,decide_eq_true_eq] at h;omega
theorem lj {no:Bool} {n:Int} (h:bD no n=true):-4294967296<=n/\n<=4294967296:=by
 unfold bD at h;simp only [a0g,a3w,decide_eq_true_eq,beq_iff_eq] at h;omega
theorem Ma (f:Fl) (K:Kc) (x:In) (A:IA) (hx:x.okL) (ht:f.tok x=true) :
  CallsK a0a f.ids.2.2.2.2.1 (.agg (inV x A)::xL (K.a f) f.caps.2.2.2.2.1) (stP (cdP K::j7::lsP x A)) (λ_:Unit=>True) (λ_=>ov (.str (f.txt x))) (λ_=>stP []):=by
 have hf:f.fineB x=true:=ht;cases f
 case D =>
  have h1:=w8 (ee hf);exact (ogv (ys:=[.agg (inV x A),.one (.val (.pointer (some ⟨K.a .D 1,0,none⟩)))]) (ps:=[bC,a4y .D (K.a .D 1)]) (v:=.v (.one (.str (Fl.txt .D x)))) fun ρ w hp=>oK .D x A (K.a .D 1) h1.1 h1.2 w hp).pers (cdP K::j7::lsP x A) (dv qn (dv (cdi K .D 1) dv0))
 case A =>
  have h1:=w8 (ee hf);exact (ogv (ys:=[.agg (inV x A),.one (.val (.pointer (some ⟨K.a .A 1,0,none⟩)))]) (ps:=[bC,a4y .A (K.a .A 1)]) (v:=.v (.one (.str (Fl.txt .A x)))) fun ρ w hp=>oK .A x A (K.a .A 1) h1.1 h1.2 w hp).pers (cdP K::j7::lsP x A) (dv qn (dv (cdi K .A 1) dv0))
 case B =>
  have h1:=w8 (ee hf);exact (ogv (ys:=[.agg (inV x A),.one (.val (.pointer (some ⟨K.a .B 1,0,none⟩)))]) (ps:=[bC,a4y .B (K.a .B 1)]) (v:=.v (.one (.str (Fl.txt .B x)))) fun ρ w hp=>oK .B x A (K.a .B 1) h1.1 h1.2 w hp).pers (cdP K::j7::lsP x A) (dv qn (dv (cdi K .B 1) dv0))
 case N =>
  have h1:=w8 (Q4 hf);exact (ogv (ys:=[.agg (inV x A),.one (.val (.pointer (some ⟨K.a .N 0,0,none⟩)))]) (ps:=[bC,a4y .N (K.a .N 0)]) (v:=.v (.one (.str (Fl.txt .N x)))) fun ρ w hp=>sN .N x A (K.a .N 0) h1.1 w hp).pers (cdP K::j7::lsP x A) (dv qn (dv (cdi K .N 0) dv0))
 case M =>
  have h1:=w8 (Q4 hf);exact (ogv (ys:=[.agg (inV x A),.one (.val (.pointer (some ⟨K.a .M 0,0,none⟩)))]) (ps:=[bC,a4y .M (K.a .M 0)]) (v:=.v (.one (.str (Fl.txt .M x)))) fun ρ w hp=>sN .M x A (K.a .M 0) h1.1 w hp).pers (cdP K::j7::lsP x A) (dv qn (dv (cdi K .M 0) dv0))
 case P =>
  have h1:=w8 (Q4 hf);exact (ogv (ys:=[.agg (inV x A),.one (.val (.pointer (some ⟨K.a .P 0,0,none⟩)))]) (ps:=[bC,a4y .P (K.a .P 0)]) (v:=.v (.one (.str (Fl.txt .P x)))) fun ρ w hp=>sN .P x A (K.a .P 0) h1.1 w hp).pers (cdP K::j7::lsP x A) (dv qn (dv (cdi K .P 0) dv0))
 case T =>
  exact (tc .T x A (K.a .T 0) hf).pers (cdP K::j7::lsP x A) (dv (cdi K .T 0) (dv Z4 dv0))
 case U =>
  exact (tc .U x A (K.a .U 0) hf).pers (cdP K::j7::lsP x A) (dv (cdi K .U 0) (dv Z4 dv0))
 case W =>
  exact (tc .W x A (K.a .W 0) hf).pers (cdP K::j7::lsP x A) (dv (cdi K .W 0) (dv Z4 dv0))
 case V =>
  exact (LK x A hf).pers (cdP K::j7::lsP x A) (dv Z4 dv0)
 case L =>
  have h1:x.l.all N0=true:=by
   have h0:(x.l.all N0&&decide ((x.l.length:Int)<=16))=true:=hf;rw [a0g] at h0;exact h0.1
  exact (LH x A (K.a .L 0) (K.a .L 4) hx.2.1 h1).pers (cdP K::j7::lsP x A) (dv (cdi K .L 0) (dv (cdi K .L 4) (dv (lsi 3) (dv Z4 dv0))))
 case Y =>
  exact (LY x A (K.a .Y 0) (K.a .Y 4) hx.2.2 hf).pers (cdP K::j7::lsP x A) (dv (cdi K .Y 0) (dv (cdi K .Y 4) (dv (lsi 4) (dv Z4 dv0))))
 case F =>
  exact (LZ x A (K.a .F 0) (K.a .F 4) hx.1 hf).pers (cdP K::j7::lsP x A) (dv (cdi K .F 0) (dv (cdi K .F 4) (dv (lsi 2) (dv Z4 dv0))))
 case Sz =>
  exact (ogv (ys:=[.agg (inV x A),.one (.val (.pointer (some ⟨K.a .Sz 0,0,none⟩)))]) (ps:=[m8.blk .S (K.a .Sz 0)]) (v:=.v (.one (.str (Fl.txt .Sz x)))) fun ρ w hp=>rf .S x A (K.a .Sz 0) w hp).pers (cdP K::j7::lsP x A) (dv (cdi K .Sz 0) dv0)
 case Rg =>
  exact (ogv (ys:=[.agg (inV x A),.one (.val (.pointer (some ⟨K.a .Rg 0,0,none⟩)))]) (ps:=[m8.blk .R (K.a .Rg 0)]) (v:=.v (.one (.str (Fl.txt .Rg x)))) fun ρ w hp=>rf .R x A (K.a .Rg 0) w hp).pers (cdP K::j7::lsP x A) (dv (cdi K .Rg 0) dv0)
 case aN =>
  have h1:=w8 (li hf);exact (ogv (ys:=[.agg (inV x A),.one (.val (.pointer (some ⟨K.a .aN 1,0,none⟩)))]) (ps:=[bC,a4y .N (K.a .aN 1)]) (v:=.v (.one (.str (Fl.txt .aN x)))) fun ρ w hp=>Dt .N x A (K.a .aN 1) h1.1 h1.2 w hp).pers (cdP K::j7::lsP x A) (dv qn (dv (cdi K .aN 1) dv0))
 case aM =>
  have h1:=w8 (li hf);exact (ogv (ys:=[.agg (inV x A),.one (.val (.pointer (some ⟨K.a .aM 1,0,none⟩)))]) (ps:=[bC,a4y .M (K.a .aM 1)]) (v:=.v (.one (.str (Fl.txt .aM x)))) fun ρ w hp=>Dt .M x A (K.a .aM 1) h1.1 h1.2 w hp).pers (cdP K::j7::lsP x A) (dv qn (dv (cdi K .aM 1) dv0))
 case pN =>
  have h1:=w8 (lj (no:=false) hf);exact (ogv (ys:=[.agg (inV x A),.one (.val (.pointer (some ⟨K.a .pN 1,0,none⟩)))]) (ps:=[bC,a4y .N (K.a .pN 1)]) (v:=.v (.one (.str (Fl.txt .pN x)))) fun ρ w hp=>vl .N x A (K.a .pN 1) h1.1 h1.2 w hp).pers (cdP K::j7::lsP x A) (dv qn (dv (cdi K .pN 1) dv0))
 case pM =>
  have h1:=w8 (lj (no:=true) hf);exact (ogv (ys:=[.agg (inV x A),.one (.val (.pointer (some ⟨K.a .pM 1,0,none⟩)))]) (ps:=[bC,a4y .M (K.a .pM 1)]) (v:=.v (.one (.str (Fl.txt .pM x)))) fun ρ w hp=>vl .M x A (K.a .pM 1) h1.1 h1.2 w hp).pers (cdP K::j7::lsP x A) (dv qn (dv (cdi K .pM 1) dv0))
 case far =>
  exact (HE x A hf).pers (cdP K::j7::lsP x A) (dv Z4 dv0)
def Fl.pok (f:Fl) (l:List UInt8):Bool:=decide (l.length<1000000000)
def Fl.prs (f:Fl) (l:List UInt8) (x:In):Bool×In:=match f with
 | .D=>(iC l,a1i .D x (P9 l))
 | .A=>(iC l,a1i .A x (P9 l))
 | .B=>(iC l,a1i .B x (P9 l))
 | .N=>(B7 l,a1i .N x (t8 l))
 | .M=>(B7 l,a1i .M x (t8 l))
 | .P=>(B7 l,a1i .P x (t8 l))
 | .T=>(tyB l,a4q .T x (tyV l))
 | .U=>(tyB l,a4q .U x (tyV l))
 | .W=>(tyB l,a4q .W x (tyV l))
 | .V=>(vlB l,{ x with vn:=t8 (pC l 0),vs:=unN (pC l 1) })
 | .L=>(lB l&&(bE x.l (c8 59 (lS l))).2,{ x with l:=(bE x.l (c8 59 (lS l))).1 })
 | .Y=>(lB l&&(psG tyB tyV x.y (c8 59 (lS l))).2,{ x with y:=(psG tyB tyV x.y (c8 59 (lS l))).1 })
 | .F=>(lB l&&(psG fmB fmV x.f (c8 59 (lS l))).2,{ x with f:=(psG fmB fmV x.f (c8 59 (lS l))).1 })
 | .Sz=>((l==[48])||(l==[49]),a6z .S x (l==[49]))
 | .Rg=>((l==[48])||(l==[49]),a6z .R x (l==[49]))
 | .aN=>(B7 (a0o l [64])&&a2d l [64],a1i .N x (t8 (a0o l [64])))
 | .aM=>(B7 (a0o l [64])&&a2d l [64],a1i .M x (t8 (a0o l [64])))
 | .pN=>(prB l,a1i .N x (prN l))
 | .pM=>(prB l,a1i .M x (prN l))
 | .far=>(frB l,{ x with p:=t8 (ac l).1,n:=t8 (ac l).2.1 })
def prP (f:Fl) (l:List UInt8) (x:In) (y:In×IA):Prop:=(f.prs l x).1=true->y.1=(f.prs l x).2
theorem HW (f:Fl) (K:Kc) (h12:∀ (f:Fl) (j:Nat),j<f.bl.length->12<=K.a f j) (l:List UInt8) (x:In) (A:IA) (hx:x.okL) (ht:f.pok l=true) :
  CallsK a0a f.ids.2.2.2.2.2 (.one (.str l)::.one (.ptr 0 0)::xL (K.a f) f.caps.2.2.2.2.2) (psF (cdP K::j7::[]) x A) (prP f l x) (λ_=>ov (.sb (f.prs l x).1)) (λy=>psF [] y.1 y.2):=by
 unfold Fl.pok at ht;have hl:l.length<1000000000:=of_decide_eq_true ht;have de:l.length<=281474976710656:=by omega
 cases f
 case D =>
  exact (m5 (oO .D l x A (K.a .D 1) de) (λ_ _=>⟨(a1i .D x (P9 l),A),λ_=>rfl,rfl,rfl⟩)).pers (cdP K::j7::[]) (dv (cdi K .D 1) (dv Z4 dv0))
 case A =>
  exact (m5 (oO .A l x A (K.a .A 1) de) (λ_ _=>⟨(a1i .A x (P9 l),A),λ_=>rfl,rfl,rfl⟩)).pers (cdP K::j7::[]) (dv (cdi K .A 1) (dv Z4 dv0))
 case B =>
  exact (m5 (oO .B l x A (K.a .B 1) de) (λ_ _=>⟨(a1i .B x (P9 l),A),λ_=>rfl,rfl,rfl⟩)).pers (cdP K::j7::[]) (dv (cdi K .B 1) (dv Z4 dv0))
 case N =>
  exact (m5 (oN .N l x A (K.a .N 0) de) (λ_ _=>⟨(a1i .N x (t8 l),A),λ_=>rfl,rfl,rfl⟩)).pers (cdP K::j7::[]) (dv (cdi K .N 0) (dv Z4 dv0))
 case M =>
  exact (m5 (oN .M l x A (K.a .M 0) de) (λ_ _=>⟨(a1i .M x (t8 l),A),λ_=>rfl,rfl,rfl⟩)).pers (cdP K::j7::[]) (dv (cdi K .M 0) (dv Z4 dv0))
 case P =>
  exact (m5 (oN .P l x A (K.a .P 0) de) (λ_ _=>⟨(a1i .P x (t8 l),A),λ_=>rfl,rfl,rfl⟩)).pers (cdP K::j7::[]) (dv (cdi K .P 0) (dv Z4 dv0))
 case T =>
  exact (m5 (oX .T l x A (K.a .T 0) hl) (λt ht=>⟨(a4q .T x t,A),λh=>(by rw [ht h]; rfl),rfl,rfl⟩)).pers (cdP K::j7::[]) (dv (cdi K .T 0) (dv Z4 dv0))
 case U =>
  exact (m5 (oX .U l x A (K.a .U 0) hl) (λt ht=>⟨(a4q .U x t,A),λh=>(by rw [ht h]; rfl),rfl,rfl⟩)).pers (cdP K::j7::[]) (dv (cdi K .U 0) (dv Z4 dv0))
 case W =>
  exact (m5 (oX .W l x A (K.a .W 0) hl) (λt ht=>⟨(a4q .W x t,A),λh=>(by rw [ht h]; rfl),rfl,rfl⟩)).pers (cdP K::j7::[]) (dv (cdi K .W 0) (dv Z4 dv0))
 case V =>
  exact (m5 (HF l x A hl) (λy hy=>⟨(y,A),λh=>hy h,rfl,rfl⟩)).pers (cdP K::j7::[]) (dv Z4 dv0)
 case L =>
  refine (m5 (HD l x A (K.a .L 5) (K.a .L 0) (h12 .L 5 (by decide)) (h12 .L 0 (by decide)) hl hx.2.1) (λy hy=>⟨(pxI x y,paI A y),λh=>?_,rfl,rfl⟩)).pers (cdP K::j7::[]) (dv (cdi K .L 0) (dv (cdi K .L 5) (dv Z4 dv0)));have h0:(lB l&&(bE x.l (c8 59 (lS l))).2)=true:=h;rw [a0g] at h0;show ({ x with l:=y.l }:In)=_;rw [hy h0.1];rfl
 case Y =>
  refine (m5 (HT l x A (K.a .Y 5) (K.a .Y 0) (h12 .Y 5 (by decide)) (h12 .Y 0 (by decide)) hl hx.2.2) (λy hy=>⟨(pxT x y,paT A y),λh=>?_,rfl,rfl⟩)).pers (cdP K::j7::[]) (dv (cdi K .Y 0) (dv (cdi K .Y 5) (dv Z4 dv0)));have h0:(lB l&&(psG tyB tyV x.y (c8 59 (lS l))).2)=true:=h;show ({ x with y:=y.l }:In)=_;rw [hy h0];rfl
 case F =>
  refine (m5 (HU l x A (K.a .F 5) (K.a .F 0) (h12 .F 5 (by decide)) (h12 .F 0 (by decide)) hl hx.1) (λy hy=>⟨(pxF x y,paF A y),λh=>?_,rfl,rfl⟩)).pers (cdP K::j7::[]) (dv (cdi K .F 0) (dv (cdi K .F 5) (dv Z4 dv0)));have h0:(lB l&&(psG fmB fmV x.f (c8 59 (lS l))).2)=true:=h;show ({ x with f:=y.l }:In)=_;rw [hy h0];rfl
 case Sz =>
  exact (m5 (d8 (λ_=>rfl) (fun ρ w hF=>rh .S l x A (K.a .Sz 0) ρ w hF)) (λy hy=>⟨y,λ_=>hy,rfl,rfl⟩)).pers (cdP K::j7::[]) (dv (cdi K .Sz 0) dv0)
 case Rg =>
  exact (m5 (d8 (λ_=>rfl) (fun ρ w hF=>rh .R l x A (K.a .Rg 0) ρ w hF)) (λy hy=>⟨y,λ_=>hy,rfl,rfl⟩)).pers (cdP K::j7::[]) (dv (cdi K .Rg 0) dv0)
 case aN =>
  exact (m5 (oP .N l x A (K.a .aN 1) de) (λ_ _=>⟨(a1i .N x (t8 (a0o l [64])),A),λ_=>rfl,rfl,rfl⟩)).pers (cdP K::j7::[]) (dv (cdi K .aN 1) (dv Z4 dv0))
 case aM =>
  exact (m5 (oP .M l x A (K.a .aM 1) de) (λ_ _=>⟨(a1i .M x (t8 (a0o l [64])),A),λ_=>rfl,rfl,rfl⟩)).pers (cdP K::j7::[]) (dv (cdi K .aM 1) (dv Z4 dv0))
 case pN =>
  exact (m5 (rk .N l x A (K.a .pN 1) de) (λ_ _=>⟨(a1i .N x (prN l),A),λ_=>rfl,rfl,rfl⟩)).pers (cdP K::j7::[]) (dv (cdi K .pN 1) (dv Z4 dv0))
 case pM =>
  exact (m5 (rk .M l x A (K.a .pM 1) de) (λ_ _=>⟨(a1i .M x (prN l),A),λ_=>rfl,rfl,rfl⟩)).pers (cdP K::j7::[]) (dv (cdi K .pM 1) (dv Z4 dv0))
 case far =>
  exact (m5 (DT l x A hl) (λ_ _=>⟨({ x with p:=t8 (ac l).1,n:=t8 (ac l).2.1 },A),λ_=>rfl,rfl,rfl⟩)).pers (cdP K::j7::[]) (dv Z4 dv0)
theorem pf {n:Int} (h:-4294967296<=n/\n<=4294967296):(P8 n).length<=101:=by
 have:=(w8 h).2;unfold P8;split
 ·simp
 ·simp; omega
theorem zI {n:Int} (h:-4294967296<=n/\n<=4294967296):(prT n).length<=101:=by
 have:=(w8 h).2;unfold prT;split
 ·simp
 ·simp; omega
theorem vE (v:Bool):(Z2 v).length<=1:=by cases v<;>simp [Z2]
theorem mj (sep:List UInt8) (b:Nat):∀ (l:List (List UInt8)),(∀ x∈l,x.length<=b)->(a4w sep l).length<=(b+sep.length)*l.length
 | [],_=>by simp [a4w]
 | x::l,h=>by
  have ih:=mj sep b l (λy hy=>h y (a0e _ hy));have hx:=h x (a0f ..);have e:a4w sep (x::l)=sep++x++a4w sep l:=rfl;rw [e,a0c,a0c,a0p,Nat.mul_succ];omega
theorem tl (sep:List UInt8) (b:Nat) (l:List (List UInt8)) (h:∀ x∈l,x.length<=b):(a1u l sep).length<=(b+sep.length)*l.length+b:=by
 cases l with
 | nil=>simp [Lib.join_nil]
 | cons x l =>
  have h1:=mj sep b l (λy hy=>h y (a0e _ hy));have hx:=h x (a0f ..);rw [a6y,a0c,a0p,Nat.mul_succ];omega
theorem Ed (v:Bool):(ab v).length=1:=by cases v<;>rfl
theorem pg (s:List UInt8):(J2 s).length=2*s.length+1:=by unfold J2; rw [a0p,fv]
theorem jH {t:Ty} (h:J4 t=true):(y9 t).length<=1000:=by
 have h1:=N1 h;have h4:=ed h;have b:∀ n:Int,I3 n->(a0i n).length<=100:=λn h=>(w8 (by unfold I3 at h; omega)).2;have k:=b _ h1.1;have p:=b _ h1.2.1;have q:=b _ h1.2.2.1;unfold y9;simp only [a0c,a0p,a1r,Ed,pg];omega
theorem Ee {t:Fm} (h:Q9 t=true):(E9 t).length<=1000:=by
 have h4:=DW h;unfold Q9 at h;simp only [a0g] at h;have k:=(w8 (Q4 h.1.1.1)).2;have p:=(w8 (Q4 h.1.1.2)).2;have q:=(w8 (Q4 h.1.2)).2;unfold E9;simp only [a0c,a0p,a1r,pg];omega
theorem lk {α:Type} (tx:α->List UInt8) (p:α->Bool) (l:List α) (ht:∀ a,p a=true->(tx a).length<=1000) (h:(l.all p&&decide ((l.length:Int)<=16))=true):([91]++a1u (l.map tx) [59]++[93]).length<=20000:=by
 rw [a0g,decide_eq_true_eq] at h;have h2:=tl [59] 1000 (l.map tx) (λy hy=>by
  obtain ⟨n,hn,rfl⟩:=a1d.1 hy;exact ht n (jF h.1 n hn))
 rw [a1k] at h2;simp only [a0c,a0p,a1r] at h2 ⊢;omega
theorem tn (f:Fl) (x:In) (h:f.tok x=true):(f.txt x).length<=20000:=by
 have hf:f.fineB x=true:=h;cases f
 case D=>exact a0n (pf (ee hf)) (by decide)
 case A=>exact a0n (pf (ee hf)) (by decide)
 case B=>exact a0n (pf (ee hf)) (by decide)
 case N=>exact a0n (w8 (Q4 hf)).2 (by decide)
 case M=>exact a0n (w8 (Q4 hf)).2 (by decide)
 case P=>exact a0n (w8 (Q4 hf)).2 (by decide)
 case T=>exact a0n (jH hf) (by decide)
 case U=>exact a0n (jH hf) (by decide)
 case W=>exact a0n (jH hf) (by decide)
 case V =>
  have h':cI x=true:=hf;unfold cI at h';rw [a0g,decide_eq_true_eq] at h';have k:=(w8 (Q4 h'.1)).2;show (dO x).length<=_;unfold dO;simp only [a0c,a0p,a1r,pg];omega
 case L=>exact lk rgT N0 x.l (λn hn=>by
   have:=fw hn;exact a0n (sZ (by omega) (by omega)) (by decide)) hf
 case Y=>exact lk y9 J4 x.y (λ_ h=>jH h) hf
 case F=>exact lk E9 Q9 x.f (λ_ h=>Ee h) hf
 case Sz=>exact a0n (vE _) (by decide)
 case Rg=>exact a0n (vE _) (by decide)
 case aN =>
  have:=(w8 (li hf)).2;show (64::a0i _).length<=_;simp only [a0p];omega
 case aM =>
  have:=(w8 (li hf)).2;show (64::a0i _).length<=_;simp only [a0p];omega
 case pN=>exact a0n (zI (lj (no:=false) hf)) (by decide)
 case pM=>exact a0n (zI (lj (no:=true) hf)) (by decide)
 case far =>
  have h':O5 x=true:=hf;unfold O5 at h';simp only [a0g,decide_eq_true_eq] at h';have k:=(w8 (n:=x.p) (by omega)).2;have q:=(w8 (n:=x.n) (by omega)).2;show (T3 x).length<=_;unfold T3;simp only [a0c,a0p,a1r];omega
def R8 (x:In) (l:List Fl):List (List UInt8):=l.map λf=>f.txt x
def aj (x:In) (o:Nat):List UInt8:=a1u (s6 o::R8 x (c6 o)) [32]
structure NI where
 l:List (List UInt8)
 q:Option Addr
 c:Nat
 i:Nat
def Se (K:Kc) (x:In) (A:IA) (o:Nat) (q:Option Addr) (c:Nat) (j:NI):St :=
 { n:=41,slots:=[(3,ov (.ptr 0 0)),(5,ov (.row 0 j.q j.l.length j.c)),(25,ov (.row 1 q (c6 o).length c)),(26,ov (.int .i64 (c6 o).length)),(27,ov (.int .i64 j.i))],gs:=[],
    heap:=[(0,⟨inV x A,30,true⟩)],next:=1,rows:=[(0,d5 z7 [] j.l j.q j.c 9 1 true),(1,d5 (λf=>f.cells (K.a f)) .D (c6 o) q c 165 6 true)],nr:=2,pers:=cdP K::j7::lsP x A,wr:=true,fx:=0 }
theorem Ef (x:List UInt8):(z7 x).length=1:=rfl
theorem xO (x:List UInt8):∀ y∈z7 x,y.plain:=by
 intro y hy;rw [a0d.1 hy];trivial
theorem Ka (K:Kc) (hK:K.ok) (x:In) (A:IA) (hx:x.okL) (o:Nat) (N2:F8 o=true) (ho:x.op=(o:Int)) (aC:(c6 o).all (λf=>f.tok x)=true) :
  CallsK a0a 61 [.agg [.val (.map (some K.gF)),.val (.map (some K.gO))],.agg (inV x A)] (stP (cdP K::j7::lsP x A)) (λ_:Unit=>True) (λ_=>ov (.str (aj x o))) (λ_=>stP []):=by
 have ic:1<=o/\o<=38:=(p6 o).1 N2;have lK:(c6 o).length<=7/\(s6 o).length<=100:=by
  have:=D7 (p:=λo=>decide ((c6 o).length<=7)&&decide ((s6 o).length<=100)) kq N2;simpa using this
 obtain ⟨NC,Rr,done,iS,N4,Cm,Rk⟩:=id hK;refine a0j true Tryz.func61 fun ρ w=>V.q<|V.s 13 (.one (.int .i64 x.op)) (.one (.int .i64 (o:Int))) (λ_=>by rw [ho])<|mS 108 3 118 (.int .i64) K.gO (.one (.int .i64 (o:Int))) false (.int .i64 (o:Int)) (some (fy o (K.q o))) undef (.v (.one (.val (fy o (K.q o))))) kq kq kq kq
  (fun ρ a w hS=>?_) (λ_=>rfl) (λh=>by cases h) (λ_=>rfl) trivial (λg pol b y h=>by cases h) kq ?_
 ·obtain ⟨k,hk⟩:=oZ (q:=K.q) (i:=0) (j:=0) ((N4 o).2 N2);exact ⟨K.esO,K.ckO,_,(dZ hS (a0v (i:=0) kq)).2,by rw [Cm]; exact hk,rfl⟩
 refine w4 0 K.all (eJ ((a2f 38).map (· + 1)) K.q) kq (a1w _ (a0e _ (a0e _ (a0f ..)))) (aQ _ _)<|w4 0 (((a2f 38).map (· + 1)).map λo=>e8 (D8 o (K.q o))) (e8 (D8 o (K.q o))) kq (a1d.2 ⟨o,a1d.2 ⟨o - 1,a3f.2 (by omega),by omega⟩,rfl⟩) (l7 _)<|G4 14 0 (D8 o (K.q o))<|V.t [] [(0:Int)<=0/\(0:Int)<((u5 o).length:Int)] ⟨by omega,by rw [G6]; omega⟩<|oE z7 [] [s6 o] 9 1 2 kq Ef xO (by show 1<=maxLen; decide) (λg=>kq) λg=>rz 5 1 (d5 z7 [] [s6 o] (some ⟨g,0,none⟩) 1 9 1 true) kq kq kq<|V.c [(2,false)] (LU K hK o N2 x.op ho) (λqc _=>?_);obtain ⟨q,c⟩:=qc;refine V.q<|j6 [3,5,25,26,27] [false,false,true,true,true,true,true] (λj:NI=>(c6 o).length - j.i) (Se K x A o q c) (λj=>j.i<=(c6 o).length/\j.l=s6 o::R8 x ((c6 o).take j.i)) ⟨[s6 o],some ⟨g,0,none⟩,1,0⟩ kq ⟨a0s _,rfl⟩ (λj hj ih=>?_);obtain ⟨l,q1,c1,i⟩:=j;obtain ⟨hi,cZ⟩:=hj;simp only at hi cZ;have n8:l.length=i+1:=by rw [cZ,a0p,R8,a1k,a2b]; omega
 refine a1l<|V.q<|f9 28 (decide ((i:Int)<(c6 o).length)) (λhb=>?_) (λhb=>?_)
 ·have e9:i<(c6 o).length:=by simpa using hb
  obtain ⟨f,hf⟩:∃ f,(c6 o).getD i .D=f:=⟨_,rfl⟩;have Rh:f.tok x=true:=by rw [<- hf]; exact V5 e9 .D aC
  have qt:l++[f.txt x]=s6 o::R8 x ((c6 o).take (i+1)):=by
   rw [cZ,a2c,a0b e9];rw [a0r,a0b e9] at hf;simp only [a1e] at hf;rw [hf];simp [R8]
  refine V.t [] [(0:Int)<=i/\(i:Int)<(c6 o).length] ⟨by omega,by omega⟩<|V.s 33 (.one (eH ((c6 o).getD i .D).ids.2.2.2.2.1 (K.a ((c6 o).getD i .D)) ((c6 o).getD i .D).caps.2.2.2.2.1)) (.one (eH f.ids.2.2.2.2.1 (K.a f) f.caps.2.2.2.2.1)) (λ_=>by rw [hf])<|V.callL [(0,false),(1,false),(2,false),(3,false),(4,false)] [] [] (Ma f K x A hx Rh) (by clear hf Rh qt; cases f<;>kernel_rfl) (by clear hf Rh qt; cases f<;>kernel_rfl) (by clear hf Rh qt; cases f<;>kernel_rfl) kq (λ_=>kq) λ_ _=>V.q<|a6q z7 [] l (f.txt x) 0 q1 c1 9 1 [.str (f.txt x)] 16 kq (by omega) rfl (λ_ _=>kq) λq2 c2=>V.q<|a3v 27 i (by omega)<|d9 [3,5,25,26,27] [true,true,true,true,true] (ih ⟨l++[f.txt x],q2,c2,i+1⟩ ⟨e9,qt⟩ (by simp only; omega)) kq kq
 ·have B0:(c6 o).length=i:=by
   have:¬ i<(c6 o).length:=by simpa using hb
   omega
  rw [<- B0,a1o] at cZ;have hj:(a1u l [32]).length<=140737488355328:=by
   have:=tl [32] 20000 l (λy hy=>by
    rw [cZ] at hy;rcases a0k.1 hy with rfl | hy
    ·omega
    ·obtain ⟨f,UW,rfl⟩:=a1d.1 hy;exact tn f x (jF aC f UW))
   rw [n8] at this;simp only [a0p,a1r] at this;omega
  refine V.q<|V.c [] (zu l [32] q1 c1 (by omega) hj) λ_ _=>V.q ?_;subst cZ;exact V.z
end Go.Proofs
end
section
namespace Go.SX
open Go
def ph (n:Nat) (TR:List Nat):List Nat->Bool
 | []=>true
 | r::l=>match p5 TR r,Nat.blt r n with
  | true,true=>ph n TR l
  | _,_=>false
theorem ll {n:Nat} {TR:List Nat}:∀ {l:List Nat},ph n TR l=true->∀ {r:Nat},r∈l->r∈TR/\r<n
 | q::l,h,r,hr=>by
  simp only [ph] at h;split at h
  ·rename_i h1 h2;rcases a0k.1 hr with rfl | hr
   ·exact ⟨(w9 _ _).1 h1,X1 h2⟩
   ·exact ll h hr
  ·cases h
theorem V7 {α:Type} {rs:List Nat}:∀ {l:List (Nat×α)} {i:Nat} {v:α},look l i=some v->i ∉ rs->look (H4 rs l) i=some v
 | (k,u)::l,i,v,h,hn=>by
  simp only [look] at h;simp only [H4];cases hk:p5 rs k with
  | true =>
   simp only;split at h
   ·rename_i e;have:=(d6 _ _).1 e;subst this;exact absurd ((w9 _ _).1 hk) hn
   ·exact V7 h hn
  | false =>
   simp only [look];split at h
   ·exact h
   ·exact V7 h hn
section
variable {C:Ctx} {T TR:List Nat} {L:Nat} {c0:Cfg} {d:u7}
theorem cQ {α:Type} {f:FuncId} {ys:List CV} {F:St} {p:α->Prop} {v:α->RV} {F':α->St} (pi:List (Nat×Bool)) (hk:CallsK C.P f ys F p v F')
  (hb:(D6 C.P f&&((iB c0 d).isSome&&(ph c0.st.nr TR (fe (atX c0 d)).2&&xm c0.st.next T (fe (atX c0 d)).1 F.heap)))=true) (hc:aq (atX c0 d)=some (f,ys,r8 F)) (kw:bi pi d.st.pers=some (bB C.w0.heap.size C.S pi F.pers))
  (hu:∀ x,okK (atX c0 d) (F' x) (v x)=true) (k:∀ x,p x->VX C T TR L c0 (oC C.w0.heap.size C.S c0 d (F' x) (v x))):VX C T TR L c0 d:=by
 intro D hD a1 a2 a3 a4 a5 a6 hL D4 aT aTR e9 A9 ρ a w hS hρ ib N5 U4 C8;simp only [a0g] at hb;obtain ⟨bG,U2,yv,yw⟩:=hb;obtain ⟨⟨i,o⟩,U2⟩:=a2o.1 U2;obtain ⟨C3,⟨n,hf⟩,ho⟩:=dC U2;have Ns:atX c0 d=⟨[.inRegion (G1 c0) [i]],d.st⟩:=by unfold atX; rw [C3]
 rw [Ns] at hc yw hu yv;unfold aq at hc;split at hc
 case h_2=>cases hc
 rename_i f1 xs F6;split at hc;rename_i hs rs wC;split at hc
 case h_2=>cases hc
 rename_i ys1 s' yz G0;simp only [a0l,a1f] at hc;obtain ⟨rfl,rfl,co⟩:=hc;have hh:fe ⟨[.inRegion (G1 c0) [i]],d.st⟩=(hs,rs):=by unfold fe; rw [F6]; exact wC
 rw [hh] at yw yv;have R5:o8 [] hs rs [] d.st=some s':=G0;have Qw:=hS.fragAt R5 co pi kw;have qr:xs.map (CV.den ρ)=ys1.map (CV.den (λi=>ρ (hs.getD i 0))):=by
  have cq:=R5;unfold o8 at cq;split at cq
  case h_2=>cases cq
  rename_i sl eR rows _ _ _ _ r7;have yL:bL rs d.st.W ⟨hs.length,rs.length,rows⟩:=by
   intro r' r R hr hl;obtain ⟨r2,_,h2,h3⟩:=p7 r7 r' R hl;simp only [a3e] at h2;rw [hr] at h2;cases h2;exact h3
  exact ((fV (ρ:=ρ) (W:=d.st.W) (W':=⟨hs.length,rs.length,rows⟩) rfl rfl yL yz).1).symm
 have hi:i∈Region.ready .any (G1 c0) d.listed:=by rw [C3]; simp
 rw [hf];refine E2 C3 (by simp) (λj hj=>?_);have:j=i:=by simpa using hj
 subst this;unfold I4 at F6;simp only [ho] at F6;split at F6
 case h_2=>cases F6
 rename_i cl f7;split at F6
 case h_3=>cases F6
 case h_2=>split at F6<;>cases F6
 rename_i hg;split at F6
 case h_2=>cases F6
 rename_i f' caps zs h1 h2;simp only [a0l,a1f,true_and] at F6;obtain ⟨rfl,rfl⟩:=F6;have F1:=G5 (t:=o.type) hS.toP (j9 d.st) h1 h2 (S3 bG);unfold wpOp;simp only [ho,D5 hS hg,if_true];refine .inl ?_;unfold Oper.wp execOp;rw [f7];simp only;rw [F1,qr];refine (hk _ w Qw).mono ?_;rintro e w2 ⟨x,ρ',hp,rfl,k1,k2,k3,k4,k5,k6,k7,k8,k9,k10⟩;have Gq:=hu x;unfold okK at Gq;rw [hh] at Gq;obtain ⟨u1,u2,u3⟩:=sw Gq;have Gp:(o8 [] hs rs [] d.st).map r8=some (r8 F):=by rw [R5]; exact congrArg some co
 obtain ⟨ρ1,b1,b2,b3,b4⟩:=hS.bringK1 (F':=F' x) Gp u1 k1 k2 k3 k4 k5 k7 k8 k9 k10;have fR:Chg D.TS D.ws w2:=N5.trans k7 (λm hm=>.inr (by
  rcases hm with ⟨b,blk,q1,q2,q3⟩ | ⟨r,R,q1,q2⟩
  ·obtain ⟨t1,t2⟩:=mR yw q1 q2;have:=aT _ t1 t2;rw [<- hρ _ (by rw [a2]; exact t2)] at this;rw [<- q3]; exact this
  ·have Jt:=R5;unfold o8 at Jt;split at Jt
   case h_2=>cases Jt
   rename_i sl eR rows _ _ _ _ r7;have h3:=a2h Jt;have h4:F.rows=rows:=by
    simp only [r8,a1f] at co;rw [<- co.2.2.1,<- h3]
   rw [h4] at q1;obtain ⟨r2,_,h5,h6⟩:=p7 r7 r R q1;simp only [a3e] at h5;obtain ⟨t1,t2⟩:=ll yv (a0v h5);exact aTR r2 t1 R (by rw [<- a6]; exact A9.2.rows r2 (by show r2<D.nr0; rw [a5]; exact t2) R h6) m q2.2))
 have F9:∃ s2,(d.st.bringK hs rs C.w0.heap.size C.S (F' x)).put o.dst ((v x).bring (H5 hs d.st.next (F' x).next) d.st.nr)=some s2:=by
  have h3:=iv d.st hs rs C.w0.heap.size 0 C.S (λ_=>False) (F' x) o.dst ((v x).bring (H5 hs d.st.next (F' x).next) d.st.nr);unfold j5 at u3;simp only [ho] at u3;cases hq:(d.st.bringK hs rs C.w0.heap.size C.S (F' x)).put o.dst ((v x).bring (H5 hs d.st.next (F' x).next) d.st.nr) with
  | some s2=>exact ⟨s2,rfl⟩
  | none =>
   rw [hq] at h3;cases GU:(d.st.bringK hs rs 0 (λ_=>False) (F' x)).put o.dst ((v x).bring (H5 hs d.st.next (F' x).next) d.st.nr) with
   | none=>rw [GU] at u3; cases u3
   | some s2=>rw [GU] at h3; cases h3
 obtain ⟨s2,rU⟩:=F9;have UR:oC C.w0.heap.size C.S c0 d (F' x) (v x)=⟨n,d.listed.setIfInBounds j true,s2⟩:=by
  unfold oC;rw [U2];simp only [hf,a3x];unfold bP;rw [Ns,hh];unfold u0 j5;simp only [ho,rU,a1e]
 have Gn:(v x).den ρ'=((v x).bring (H5 hs d.st.next (F' x).next) d.st.nr).den ρ1:=by
  rw [RV.bring_den,RV.den_congr (W:=(F' x).W) (ρ:=ρ') b2 _ k6]
 have Cb:∀ g pol b y,(v x).bring (H5 hs d.st.next (F' x).next) d.st.nr≠.grd g pol b y:=by
  intro g pol b y e;cases hvx:v x with
  | grd=>rw [hvx] at u2; cases u2
  | v=>rw [hvx] at e; cases e
  | tup=>rw [hvx] at e; cases e
 have B0:d.st.W.le (d.st.bringK hs rs C.w0.heap.size C.S (F' x)).W:=by
  refine ⟨a0m _ _,a0m _ _,λq hq R hR=>?_⟩;have h5:look (G9 d.st.nr (H4 rs d.st.rows) (F' x).rows) q=some R:=hR;have lM:q<d.st.nr:=hq;rw [H7 lM] at h5;exact (o4 h5).2
 have hW:=N8 rU;have J7:D.rows s2:=by
  refine ⟨λq R hR=>?_,by rw [hW]; exact A9.2.trans' B0⟩;rw [show s2.rows=_ from congrArg WF.rows hW];have h5:=A9.1 q R hR;rw [a3] at hR;have WP:=(y5 hR).1;have h6:=e9 q R (y5 hR).2;have h7:q<d.st.nr:=Nat.lt_of_lt_of_le h6 (by rw [<- a5]; exact A9.2.nr);show look (G9 d.st.nr (H4 rs d.st.rows) (F' x).rows) q=some R;rw [H7 h7];exact V7 h5 (λhm=>WP (ll yv hm).1)
 have JD:=k x hp;rw [UR] at JD;rw [Gn];refine ⟨λ_=>fR,JD D hD a1 a2 a3 a4 a5 a6 hL D4 aT aTR e9 J7 ρ1 _ w2 (b1.put rU (b3 _ k6) (λg pol b y e=>absurd e (Cb g pol b y))) (λb hb=>(b4 b (by omega)).trans (hρ b hb)) ?_ fR (U4.set hi) (by simpa using C8)⟩;show D.n0<=s2.next;rw [J9 rU];exact a0n ib (a0m _ _)
def Kb (n0:Nat) (S:Nat->Prop) (c0:Cfg) (d:u7) (hs rs:List Nat) (F':St) (v:RV):u7 :=
 match iB c0 d with
 | some (i,_)=>⟨d.fuel - 1,d.listed.setIfInBounds i true,(u0 (atX c0 d) (d.st.bringK hs rs n0 S F') (v.bring (H5 hs d.st.next F'.next) d.st.nr)).st⟩
 | none=>d
theorem VX.callL {α:Type} {f:FuncId} {ys:List CV} {F:St} {p:α->Prop} {v:α->RV} {F':α->St} (pi:List (Nat×Bool)) (hs rs:List Nat) (hk:CallsK C.P f ys F p v F')
  (hb:(D6 C.P f&&((iB c0 d).isSome&&(ph c0.st.nr TR rs&&xm c0.st.next T hs F.heap)))=true) (hc:aq (atX c0 d)=some (f,ys,r8 F)) (hh:fe (atX c0 d)=(hs,rs)) (kw:bi pi d.st.pers=some (bB C.w0.heap.size C.S pi F.pers))
  (hu:∀ x,(L8 (F' x).heap&&(ngB (v x)&&(j5 (atX c0 d) (d.st.bringK hs rs 0 (λ_=>False) (F' x)) ((v x).bring (H5 hs d.st.next (F' x).next) d.st.nr)).isSome))=true)
  (k:∀ x,p x->VX C T TR L c0 (Kb C.w0.heap.size C.S c0 d hs rs (F' x) (v x))):VX C T TR L c0 d:=by
 refine cQ pi hk (by rw [hh]; exact hb) hc kw (λx=>?_) (λx hx=>?_)
 ·unfold okK; rw [hh]; exact hu x
 ·have h1:=k x hx;unfold Kb at h1;unfold oC bP;rw [hh];exact h1
end
end Go.SX
end
section
namespace Go.Proofs
open Go Go.SX
def K6 (w:List UInt8):Option Nat:=((a2f 38).map (· + 1)).find? λo=>s6 o==w
theorem bW {o:Nat} (ho:F8 o=true):K6 (s6 o)=some o:=by
 have:=D7 (p:=λo=>K6 (s6 o)==some o) kq ho;exact eq_of_beq this
theorem vF {w:List UInt8} (h:∀ o,F8 o=true->s6 o≠w):K6 w=none:=by
 unfold K6;rw [List.find?_eq_none];intro o ho;obtain ⟨i,hi,rfl⟩:=a1d.1 ho;have:=h (i+1) ((p6 _).2 ⟨by omega,by have:=a3f.1 hi; omega⟩);simpa using this
def ax:List Fl->List (List UInt8)->In->Option In
 | [],_,x=>some x
 | f::l,ws,x=>if (f.prs (ws.getD 0 []) x).1=true then ax l (ws.drop 1) (f.prs (ws.getD 0 []) x).2 else none
def A8 (ws:List (List UInt8)):Option In:=match K6 (ws.getD 0 []) with
 | none=>none
 | some o=>if ws.length=(c6 o).length+1 then (match ax (c6 o) (ws.drop 1) (f0 (o:Int)) with
  | some x=>if j2 x=true then some x else none
  | none=>none) else none
def rdP (ws:List (List UInt8)) (y:In×IA×Bool):Prop:=match A8 ws with
 | some x=>y.1=x/\y.2.2=true
 | none=>y.2.2=false
def rdV (y:In×IA×Bool):RV:=.tup [.agg (inV y.1 y.2.1),.one (.sb y.2.2)]
theorem fA {es:Array MapEntry} {seen:Array Nat} {e:MapEntry} (he:e∈(leftOf es seen).toList):(leftOf es (seen.push e.born)).size<(leftOf es seen).size:=by
 have h1:(leftOf es (seen.push e.born)).toList=(leftOf es seen).toList.filter λx=>!(x.born==e.born):=by
  unfold leftOf;simp only [Array.toList_filter,List.filter_filter];apply List.filter_congr;intro x _;simp only [Array.contains_push];cases h:(x.born==e.born)<;>cases h2:seen.contains x.born<;>simp_all
 have h2:(leftOf es (seen.push e.born)).toList.length<(leftOf es seen).toList.length:=by
  rw [h1];exact List.length_filter_lt_length_iff_exists.2 ⟨e,he,by simp⟩
 simpa using h2
theorem pj {es:Array MapEntry} {seen:Array Nat} {e:MapEntry} (h:e∈(leftOf es seen).toList):e∈es.toList:=by
 unfold leftOf at h;simp only [Array.toList_filter,List.mem_filter] at h;exact h.1
theorem Eg {es:Array MapEntry} {seen:Array Nat} (h:(leftOf es seen).size=0) {e:MapEntry} (he:e∈es.toList):seen.contains e.born=true:=by
 have h3:leftOf es seen=#[]:=Array.eq_empty_of_size_eq_zero h;unfold leftOf at h3;rw [Array.filter_eq_empty_iff] at h3;have h4:=h3 _ (Array.mem_toList_iff.1 he);simpa using h4
theorem xP {l:List MapEntry} (hn:(l.map (·.born)).Nodup) {a b:MapEntry} (ha:a∈l) (hb:b∈l) (h:a.born=b.born):a=b:=by
 induction l with
 | nil=>cases ha
 | cons x l ih =>
  rw [a3h,List.nodup_cons] at hn;rcases a0k.1 ha with h1 | h1<;>rcases a0k.1 hb with h2 | h2
  ·rw [h1,h2]
  ·exact absurd (a1d.2 ⟨b,h2,by rw [<- h,h1]⟩) hn.1
  ·exact absurd (a1d.2 ⟨a,h1,by rw [h,h2]⟩) hn.1
  ·exact ih hn.2 h1 h2
theorem zJ {q:Nat->Nat} {o:Nat}:∀ {l:List Nat} {i:Nat},o∈l->∃ k,({ key:=.int .i64 (o:Int),val:=fy o (q o),born:=k }:MapEntry)∈esL q i l
 | x::l,i,h=>by
  rcases a0k.1 h with rfl | h
  ·exact ⟨i,a0f ..⟩
  ·obtain ⟨k,hk⟩:=zJ (q:=q) (i:=i+1) h;exact ⟨k,a0e _ hk⟩
theorem aS (f:Fl) (l:List Fl) (ws:List (List UInt8)) (x:In):ax (f::l) ws x=if (f.prs (ws.getD 0 []) x).1=true then ax l (ws.drop 1) (f.prs (ws.getD 0 []) x).2 else none:=rfl
def C2:In:=⟨0,0,0,0,ty0,ty0,ty0,0,0,0,0,[],[],[],[],false,false⟩
def Sf (K:Kc) (ws:List (List UInt8)) (q:Option Addr) (c it:Nat) (seen:Array Nat):St :=
 { n:=69,slots:=[(2,ov (.ptr 0 0)),(4,ov (.ptr 1 0)),(6,ov (.row 0 q ws.length c)),(18,ov (.val (.pointer (some ⟨it,0,none⟩))))],gs:=[],
    heap:=[(0,⟨[.val (.map (some K.gF)),.val (.map (some K.gO))],110,true⟩),(1,⟨inZ,30,true⟩)],next:=2,
    rows:=[(0,d5 z7 [] ws q c 9 1 true),(1,G3 it (.mapIter (some K.gO) K.ckO seen K.ckO))],nr:=2,pers:=[cdP K,j7],wr:=true,fx:=0 }
structure RI where
 x:In
 A:IA
 i:Nat
def Mb (K:Kc) (ws:List (List UInt8)) (qw:Option Addr) (cw:Nat) (o:Nat) (q:Option Addr) (c:Nat) (j:RI):St :=
 { n:=69,slots:=[(2,ov (.ptr 0 0)),(4,ov (.ptr 1 0)),(6,ov (.row 3 qw ws.length cw)),(9,ov (.ptr 2 0)),(46,ov (.row 4 q (c6 o).length c)),(47,ov (.int .i64 (c6 o).length)),(48,ov (.int .i64 j.i))],gs:=[],
    heap:=[(0,⟨[.val (.map (some K.gF)),.val (.map (some K.gO))],110,true⟩),(1,⟨inZ,30,true⟩),(2,⟨inO j.x j.A,30,true⟩)],next:=3,
    rows:=[(0,d5 a5f fm0 j.x.f j.A.qf j.A.cf 93 4 true),(1,d5 C6 0 j.x.l j.A.ql j.A.cl 3 1 true),(2,d5 a5g ty0 j.x.y j.A.qy j.A.cy 23 5 true),(3,d5 z7 [] ws qw cw 9 1 true),(4,d5 (λf=>f.cells (K.a f)) .D (c6 o) q c 165 6 true)],nr:=5,pers:=[cdP K,j7],wr:=true,fx:=0 }
theorem vG:∀ (ps:List (List UInt8)) (l:List Int),l.length<=16->(bE l ps).1.length<=16
 | [],l,h=>h
 | p::ps,l,h=>by
  unfold bE;split
  ·exact h
  ·rename_i hn;refine vG ps _ ?_;simp at hn;rw [a0c,a1j];omega
def In.okS (x:In):Prop:=x.f.length<=16/\x.l.length<=16/\x.y.length<=16
theorem tq {α:Type} (B:List UInt8->Bool) (N:List UInt8->α):∀ (ps:List (List UInt8)) (l:List α),l.length<=16->(psG B N l ps).1.length<=16
 | [],l,h=>h
 | p::ps,l,h=>by
  unfold psG;split
  ·exact h
  ·rename_i hn;refine tq B N ps _ ?_;simp at hn;rw [a0c,a1j];omega
theorem zK (f:Fl) (l:List UInt8) (x:In) (h:x.okS):(f.prs l x).2.okS:=by
 cases f
 case L=>exact ⟨h.1,vG _ _ h.2.1,h.2.2⟩
 case Y=>exact ⟨h.1,h.2.1,tq _ _ _ _ h.2.2⟩
 case F=>exact ⟨tq _ _ _ _ h.1,h.2.1,h.2.2⟩
 all_goals exact h
theorem In.okS.okL {x:In} (h:x.okS):x.okL:=⟨a0n h.1 (by decide),a0n h.2.1 (by decide),a0n h.2.2 (by decide)⟩
def ak:Nat->List Item->List Item
 | 0,k=>k
 | n+1,k=>match k with
  | .code (.seq a b)::k=>ak n (.code a::.code b::k)
  | .code (.block id body)::k=>ak n (.code body::.inBlock id::k)
  | .code (.scope body)::k=>ak n (.code body::.inScope body::k)
  | .code (.region _ _ _)::k=>ak n k
  | .code (.cond _ _ _)::k=>ak n k
  | .code .skip::k=>ak n k
  | .code (.label _)::k=>ak n k
  | .inBlock _::k=>ak n k
  | .inScope _::k=>ak n k
  | .code (.loop b)::k=>.code b::.inLoop b::k
  | k=>k
def Kd:List Item:=ak 100 (ak 100 [.code (I5 Tryz.f64)])
theorem Eh {ws:List (List UInt8)} {o:Nat} (gN:A8 ws=(match ax (c6 o) (ws.drop 1) (f0 (o:Int)) with | some x=>if j2 x=true then some x else none | none=>none)) (h:ax (c6 o) (ws.drop 1) (f0 (o:Int))=none) {x:In} {A:IA}:rdP ws (x,A,false):=by
 unfold rdP;rw [gN,h]
theorem Ei {ws:List (List UInt8)} {o:Nat} (gN:A8 ws=(match ax (c6 o) (ws.drop 1) (f0 (o:Int)) with | some x=>if j2 x=true then some x else none | none=>none)) {x:In} {A:IA} (h:ax (c6 o) (ws.drop 1) (f0 (o:Int))=some x):rdP ws (x,A,j2 x):=by
 unfold rdP;rw [gN,h];simp only;cases hc:j2 x with
 | true=>exact ⟨rfl,rfl⟩
 | false=>rfl
theorem xQ (K:Kc) (hK:K.ok) (ws:List (List UInt8)) (hm:ws.length<=2000000) (o:Nat) (N2:F8 o=true) (Ce:ws.length=(c6 o).length+1)
  (gN:A8 ws=(match ax (c6 o) (ws.drop 1) (f0 (o:Int)) with | some x=>if j2 x=true then some x else none | none=>none))
  (G0:∀ i,i<(c6 o).length->((c6 o).getD i .D).pok (ws.getD (i+1) [])=true) (ρ:Nat->Nat) (w:World) (qw:Option Addr) (cw:Nat) (q:Option Addr) (c:Nat) (j0:RI)
  (hj0:j0.i<=(c6 o).length/\j0.x.okS/\ax ((c6 o).drop j0.i) (ws.drop (j0.i+1)) j0.x=ax (c6 o) (ws.drop 1) (f0 (o:Int))) :
  V ⟨a0a,64,N9 ρ (stP [cdP K,j7]) (rdP ws) rdV (λy=>z8 (lsP y.1 y.2.1)) w,n6 ρ (stP [cdP K,j7]),w,ρ,none⟩ ⟨Kd,Mb K ws qw cw o q c j0⟩:=by
 have lK:(c6 o).length<=7:=by
  have:=D7 (p:=λo=>decide ((c6 o).length<=7)) kq N2;simpa using this
 refine C0 (c:=⟨Kd,Mb K ws qw cw o q c j0⟩) [2,4,6,9,46,47,48] [0,1,2] [0,1,2,3,4] [true,true] (λj:RI=>(c6 o).length - j.i) (Mb K ws qw cw o q c) (λj=>j.i<=(c6 o).length/\j.x.okS/\ax ((c6 o).drop j.i) (ws.drop (j.i+1)) j.x=ax (c6 o) (ws.drop 1) (f0 (o:Int))) j0 kq hj0 (λj hj ih=>?_);obtain ⟨x,A,i⟩:=j;obtain ⟨hi,Cq,Ju⟩:=hj;simp only at hi Cq Ju;refine V.q<|f9 49 (decide ((i:Int)<(c6 o).length)) (λhb=>?_) (λhb=>?_)
 ·have Jr:i<(c6 o).length:=by simpa using hb
  obtain ⟨f,hf⟩:∃ f,(c6 o).getD i .D=f:=⟨_,rfl⟩;have Jl:a0h.wrap ((i:Int)+1)=((i+1:Nat):Int):=av (by omega);obtain ⟨wd,QN⟩:∃ wd,ws.getD (a0h.wrap ((i:Int)+1)).toNat []=wd:=⟨_,rfl⟩;have Qq:ws.getD (i+1) []=wd:=by rw [<- QN,Jl]; rfl
  have yD:=G0 i Jr;rw [hf,Qq] at yD;have C4:ax ((c6 o).drop i) (ws.drop (i+1)) x=if (f.prs wd x).1=true then ax ((c6 o).drop (i+1)) (ws.drop (i+1+1)) (f.prs wd x).2 else none:=by
   rw [a2k Jr];rw [a0r,a0b Jr] at hf;simp only [a1e] at hf;rw [hf,aS];rw [show (ws.drop (i+1)).getD 0 []=wd by rw [<- Qq]; simp [a0r],List.drop_drop]
  refine V.t [] [(0:Int)<=i/\(i:Int)<(c6 o).length] ⟨by omega,by omega⟩<|j3 3 5 ⟨Fl.cells ((c6 o).getD i .D) (K.a ((c6 o).getD i .D)),165,true⟩ (eH ((c6 o).getD i .D).ids.2.2.2.2.2 (K.a ((c6 o).getD i .D)) ((c6 o).getD i .D).caps.2.2.2.2.2) (eH f.ids.2.2.2.2.2 (K.a f) f.caps.2.2.2.2.2) kq rfl kq (λ_=>by rw [hf])<|p9 [2] [0,1,2] 9 kq<|@a1z _ [2] [0,1,2] 9 _ _ ([]:List (Ent a0a)) [(0:Int)<=a0h.wrap ((i:Int)+1)/\a0h.wrap ((i:Int)+1)<((ws.length:Nat):Int)] kq kq ⟨by rw [Jl]; omega,by rw [Jl]; omega⟩ ?_;have Jp:f.pok (ws.getD (a0h.wrap ((i:Int)+1)).toNat [])=true:=by rw [QN]; exact yD
  refine @VX.callL _ [2] [0,1,2] 9 _ _ (In×IA) f.ids.2.2.2.2.2 (.one (.str (ws.getD (a0h.wrap ((i:Int)+1)).toNat []))::.one (.ptr 0 0)::xL (K.a f) f.caps.2.2.2.2.2) (psF (cdP K::j7::[]) x A) (prP f (ws.getD (a0h.wrap ((i:Int)+1)).toNat []) x) (λ_=>ov (.sb (f.prs (ws.getD (a0h.wrap ((i:Int)+1)).toNat []) x).1)) (λy=>psF [] y.1 y.2) [(0,false),(1,false)] [2] [0,1,2] (HW f K hK.1 (ws.getD (a0h.wrap ((i:Int)+1)).toNat []) x A Cq.okL Jp)
   (by clear hf yD Jp C4; cases f<;>kernel_rfl) (by clear hf yD Jp C4; cases f<;>kernel_rfl) (by clear hf yD Jp C4; cases f<;>kernel_rfl) kq (λ_=>kq) (λy hy=>?_)
  refine @a1z _ [2] [0,1,2] 9 _ _ ([]:List (Ent a0a)) [] kq kq trivial<|@o7 _ [2] [0,1,2] 9 _ _ kq<|V.q<|f9 61 (!(f.prs (ws.getD (a0h.wrap ((i:Int)+1)).toNat []) x).1) (λlN=>?_) (λlN=>?_)
  ·have J8:ax (c6 o) (ws.drop 1) (f0 (o:Int))=none:=by
    rw [QN] at lN;rw [<- Ju,C4,if_neg (by simpa using lN)]
   exact a3a 5 (d5 a5f fm0 y.1.f y.2.qf y.2.cf 93 4 true) kq kq<|a3a 6 (d5 C6 0 y.1.l y.2.ql y.2.cl 3 1 true) kq kq<|a3a 7 (d5 a5g ty0 y.1.y y.2.qy y.2.cy 23 5 true) kq kq<|V.q<|a4o 5 false<|V.e ((y.1,y.2,false):In×IA×Bool) [(2,true),(1,true),(0,true)] (Eh gN J8)
  ·have Jm:(f.prs (ws.getD (a0h.wrap ((i:Int)+1)).toNat []) x).1=true:=by simpa using lN
   have VN:=hy Jm;refine V.q<|V.s 48 (.one (.int .i64 (a0h.wrap ((i:Int)+1)))) (.one (.int .i64 ((i+1:Nat):Int))) (λ_=>by rw [Jl])<|a1l<|s5 [2,4,6,9,46,47,48] [0,1,2] [5,6,7,3,4] [true,true] (ih ⟨y.1,y.2,i+1⟩ ⟨Jr,by rw [VN]; exact zK f _ x Cq,?_⟩ (by simp only; omega)) kq kq;simp only;rw [VN,<- Ju,C4,QN,if_pos (by rw [<- QN]; exact Jm)]
 ·have B0:(c6 o).length=i:=by
   have:¬ i<(c6 o).length:=by simpa using hb
   omega
  have Xg:ax (c6 o) (ws.drop 1) (f0 (o:Int))=some x:=by
   rw [<- Ju,<- B0,List.drop_length];rfl
  exact V.q<|a3a 0 (d5 a5f fm0 x.f A.qf A.cf 93 4 true) kq kq<|a3a 1 (d5 C6 0 x.l A.ql A.cl 3 1 true) kq kq<|a3a 2 (d5 a5g ty0 x.y A.qy A.cy 23 5 true) kq kq<|p9 [1] [] 6 kq<|@a1z _ [1] [] 6 _ _ ([]:List (Ent a0a)) [] kq kq trivial<|@a5u _ [1] [] 6 _ _ Unit 59 [.agg [.val (.map (some K.gF)),.val (.map (some K.gO))],.agg (inV x A)] (stP (cdP K::lsP x A)) _ _ _ [(3,false),(2,true),(1,true),(0,true)] (lg K hK x A Cq.okL) kq kq kq (λ_=>kq) λ_ _=>@a1z _ [1] [] 6 _ _ ([]:List (Ent a0a)) [] kq kq trivial<|@VX.store _ [1] [] 6 _ _ 4 kq kq kq<|@a1z _ [1] [] 6 _ _ ([]:List (Ent a0a)) [] kq kq trivial<|@o7 _ [1] [] 6 _ _ kq<|V.q<|V.e ((x,A,j2 x):In×IA×Bool) [(2,true),(1,true),(0,true)] (Ei gN Xg)
theorem vH (K:Kc) (hK:K.ok) (s:List UInt8) (ws:List (List UInt8)) (hws:kW s [32]=ws) (hs:s.length<4294967281) (hn:ws.length=Lib.countB ⟨s.toArray⟩ ⟨[32].toArray⟩+1) (hm:ws.length<=2000000)
  (hpok:∀ o,K6 (ws.getD 0 [])=some o->ws.length=(c6 o).length+1->∀ i,i<(c6 o).length->((c6 o).getD i .D).pok (ws.getD (i+1) [])=true) :
  CallsK a0a 64 [.agg [.val (.map (some K.gF)),.val (.map (some K.gO))],.one (.str s)] (stP [cdP K,j7]) (rdP ws) rdV (λy=>z8 (lsP y.1 y.2.1)):=by
 obtain ⟨NC,Rr,done,iS,N4,Cm,Rk⟩:=id hK;have VZ:=Lo s [32] hs (by decide) (by rw [hws]; exact hn) (by rw [hws]; omega);rw [hws] at VZ;have Qz:∀ e∈K.esO.toList,e.born<K.ckO:=λe he=>by
  rw [Cm] at he;obtain ⟨o,_,_,_,_,h5⟩:=th he;rw [Rk]; omega
 have GN:(K.esO.toList.map (·.born)).Nodup:=by
  rw [Cm,vz];simp only [Nat.zero_add,List.map_id'];exact List.nodup_range
 refine a0j true Tryz.func64 fun ρ w=>V.q<|V.c [(1,false)] VZ λgw _=>V.q<|V.range 108 3 118 K.gO K.esO K.ckO kq kq (fun ρ a w hS=>(dZ hS (a0v (i:=0) kq)).2) (λ_=>kq) λit=>V.q<|a1l<|C0 [2,4,6,18] [0,1] [0,1] [true,true] (λseen:Array Nat=>(leftOf K.esO seen).size) (Sf K ws (some ⟨gw,0,none⟩) ws.length it) (λseen=>∀ e∈K.esO.toList,seen.contains e.born=true->∀ o:Nat,e.key=.int .i64 (o:Int)->s6 o≠ws.getD 0 []) #[] kq (λe he h=>by simp at h) λseen GD ih=>V.q<|V.next it 1 K.gO K.ckO K.ckO K.ckO seen K.esO kq kq (fun ρ a w hS=>(dZ hS (a0v (i:=0) kq)).2) Qz (a0q _) kq (λe he=>kq) (λC8=>?_) (λe he=>?_)
 ·have kx:A8 ws=none:=by
   unfold A8;rw [vF (λo ho he=>?_)];have VF:=(N4 o).2 ho;obtain ⟨k,hk⟩:=zJ (q:=K.q) (i:=0) VF;rw [<- Cm] at hk;exact GD _ hk (Eg C8 hk) o rfl he
  exact V.q<|a6f 1<|vpn (C7 C2 IA0)<|vpn (C1 C2 IA0)<|vpn (E7 C2 IA0)<|a4o 5 false<|V.e ((C2,IA0,false):In×IA×Bool) [(2,true),(1,true),(0,true)] (by unfold rdP; rw [kx])
 ·obtain ⟨o,VF,Ca,gU,_,_⟩:=th (l:=done) (i:=0) (q:=K.q) (by rw [<- Cm]; exact pj he);have N2:F8 o=true:=(N4 o).1 VF;have e9:=fA he;have iU:=pj he;obtain ⟨ek,ev,eb⟩:=e;simp only at Ca gU e9;subst Ca gU;refine V.q<|V.entry it 1 K.gO K.ckO K.ckO seen K.esO _ kq kq (fun ρ a w hS=>(dZ hS (a0v (i:=0) kq)).2) iU GN kq<|w4 0 K.all (eJ ((a2f 38).map (· + 1)) K.q) kq (a1w _ (a0e _ (a0e _ (a0f ..)))) (aQ _ _)<|w4 0 (((a2f 38).map (· + 1)).map λo=>e8 (D8 o (K.q o))) (e8 (D8 o (K.q o))) kq (a1d.2 ⟨o,a1d.2 ⟨o - 1,a3f.2 (by have:=(p6 o).1 N2; omega),by have:=(p6 o).1 N2; omega⟩,rfl⟩) (l7 _)<|V.q<|G4 8 0 (D8 o (K.q o))<|V.s 7 (.one (.val (.int .i64 (o:Int)))) (.one (.int .i64 (o:Int))) (λ_=>rfl)<|V.t [] [(0:Int)<=0/\(0:Int)<((u5 o).length:Int),(0:Int)<=0/\(0:Int)<(ws.length:Int)] ⟨⟨by omega,by rw [G6]; omega⟩,by omega,by omega⟩<|f9 30 (!(s6 o==ws.getD 0 [])) (λE0=>?_) (λE0=>?_)
  ·have Vc:s6 o≠ws.getD 0 []:=by simpa using E0
   refine V.q<|a1l<|s5 [2,4,6,18] [0,1] [0,1] [false,false,true,true] (ih (seen.push eb) ?_ e9) kq kq;intro e Wa hc o' eD;rw [Array.contains_push,a3w] at hc;rcases hc with hc | hc
   ·exact GD e Wa hc o' eD
   ·have Wo:e.born=eb:=by simpa using hc
    have Ri:=xP GN Wa iU Wo;rw [Ri] at eD;simp only [Value.int.injEq,true_and] at eD;rw [<- show o=o' by omega];exact Vc
  ·have wz:s6 o=ws.getD 0 []:=by simpa using E0
   have F5:K6 (ws.getD 0 [])=some o:=by rw [<- wz]; exact bW N2
   have Ra:=hpok o F5;have gN:A8 ws=if ws.length=(c6 o).length+1 then (match ax (c6 o) (ws.drop 1) (f0 (o:Int)) with
     | some x=>if j2 x=true then some x else none
     | none=>none) else none:=by unfold A8; rw [F5]
   clear ih GD;have lK:(c6 o).length<=7:=by
    have:=D7 (p:=λo=>decide ((c6 o).length<=7)) kq N2;simpa using this
   refine V.t T5f [] trivial<|V.c [(2,false)] (cOf K hK o N2) λqc _=>a6f 2<|H6 a5f fm0 2 24 ⟨inC (f0 (o:Int)) (.val (.slice none 0 0)) (.val (.slice none 0 0)) (.val (.slice none 0 0)),30,true⟩ 93 4 kq rfl<|H6 C6 0 2 25 ⟨inC (f0 (o:Int)) (.row 4 none 0 0) (.val (.slice none 0 0)) (.val (.slice none 0 0)),30,true⟩ 3 1 kq rfl<|H6 a5g ty0 2 26 ⟨inC (f0 (o:Int)) (.row 4 none 0 0) (.row 5 none 0 0) (.val (.slice none 0 0)),30,true⟩ 23 5 kq rfl<|V.q ?_;have Cn:a0h.wrap (((c6 o).length:Int)+1)=(((c6 o).length+1:Nat):Int):=av (by omega);refine f9 44 (((ws.length:Nat):Int) != a0h.wrap (((c6 o).length:Int)+1)) (λwO=>?_) (λwO=>?_)
   ·have Ce:ws.length≠(c6 o).length+1:=by
     rw [Cn] at wO;intro e;rw [e] at wO;simp at wO
    exact a3a 4 (d5 a5f fm0 [] none 0 93 4 true) kq kq<|a3a 5 (d5 C6 0 [] none 0 3 1 true) kq kq<|a3a 6 (d5 a5g ty0 [] none 0 23 5 true) kq kq<|V.q<|a4o 5 false<|V.e ((f0 (o:Int),IA0,false):In×IA×Bool) [(2,true),(1,true),(0,true)] (by unfold rdP; rw [gN,if_neg Ce])
   ·have Ce:ws.length=(c6 o).length+1:=by
     rw [Cn] at wO;simp at wO;omega
    rw [if_pos Ce] at gN;have G0:=Ra Ce;exact V.q<|a1l<|jn [2,4,6,9,46,47,48] [false,false,true,true] (xQ K hK ws hm o N2 Ce gN G0 ρ w (some ⟨gw,0,none⟩) ws.length qc.1 qc.2 ⟨f0 (o:Int),IA0,0⟩ ⟨a0s _,⟨a0s _,a0s _,a0s _⟩,rfl⟩) kq kq
def ixV (e:In×IA):List SV:=inV e.1 e.2
def ixD:In×IA:=(C2,IA0)
def G7 (l:List (In×IA)) (q:Option Addr) (c:Nat) (own:Bool):Row:=d5 ixV ixD l q c 30 29 own
def M6 (l:List (In×IA)):m6:=L0 (l.map λe=>L0 (lsP e.1 e.2))
theorem bx (x:In) (A:IA):∀ p∈lsP x A,dE p:=by
 intro p hp;simp only [lsP,a0k,a1a,or_false] at hp;rcases hp with rfl|rfl|rfl<;>exact l7 _
theorem I8 (l:List (In×IA)):dE (M6 l):=H9 λp hp=>by
 obtain ⟨e,_,rfl⟩:=a1d.1 hp;exact H9 (bx e.1 e.2)
theorem M1 (l:List (In×IA)) (x:In) (A:IA) :
  (∀ k,(M6 (l++[(x,A)])).D k->∃ p∈M6 l::lsP x A,p.D k)/\(∀ w,(∀ p∈M6 l::lsP x A,p.φ w)->(M6 (l++[(x,A)])).φ w):=by
 refine ⟨λk hk=>?_,λw hw p hp=>?_⟩
 ·obtain ⟨p,hp,G0⟩:=hk;rw [a2x] at hp;rcases a2s.1 hp with hp | hp
  ·exact ⟨M6 l,a0f ..,p,hp,G0⟩
  ·rw [List.map_singleton,a0d] at hp;subst hp;obtain ⟨p',ko,R5⟩:=G0;exact ⟨p',a0e _ ko,R5⟩
 ·rw [a2x] at hp;rcases a2s.1 hp with hp | hp
  ·exact hw _ (a0f ..) p hp
  ·rw [List.map_singleton,a0d] at hp;subst hp;exact λp' ko=>hw p' (a0e _ ko)
theorem X9 (X:RIn) (r:RSt):r.at_<=(f6 X r).2.at_:=by
 unfold f6;split
 ·exact Nat.le_succ _
 ·exact a0q _
theorem ml (X:RIn):∀ (k:Nat) (r:RSt) (z m n:Nat),r.at_<=(A7 X k r z m n).2.at_
 | 0,r,_,_,_=>a0q _
 | k+1,r,z,m,n=>by
  have h1:=X9 X r;simp only [A7];split
  ·exact a0n h1 (ml X k _ _ _ _)
  ·split<;>exact h1
theorem A4 (X:RIn) (r:RSt):r.at_<=(c7 X r).2.at_:=ml X 6 r 0 1 0
theorem iI (X:RIn) (r:RSt):r.at_<=(B4 X r).2.at_:=by
 have:=A4 X r;unfold B4;simp only;split
 ·exact this
 ·exact a0n this (a0m _ _)
theorem fB (X:RIn) (r:RSt):r.at_<=(E5 X r).2.at_:=X9 X r
theorem gz (X:RIn) (r:RSt):r.at_<=(E8 X r).2.at_ :=
 a0n (A4 X r) (a0n (A4 X _) (a0n (A4 X _) (a0n (fB X _) (iI X _))))
theorem Bl (X:RIn) (r:RSt):r.at_<=(Q3 X r).2.at_ :=
 a0n (A4 X r) (a0n (A4 X _) (a0n (A4 X _) (iI X _)))
theorem bX (X:RIn) (r:RSt):r.at_<=(m3 X r).2.at_ :=
 a0n (X9 X r) (a0n (X9 X _) (a0n (X9 X _) (X9 X _)))
theorem pk (rl:List (Int×Int)) (v:Int) (r:RSt):r.at_<=(m4 rl v r).2.at_:=by
 unfold m4;split<;>exact a0q _
theorem rD (no:Bool) (rl:List (Int×Int)) (X:RIn) (r:RSt) (old:Int):r.at_<=(M5 no rl X r old).2.at_:=by
 have:=bX X r;unfold M5;split
 ·exact this
 ·split
  ·exact a0n this (pk rl _ _)
  ·exact this
theorem mm {α:Type} {g:RSt->α×RSt} (hg:∀ r,r.at_<=(g r).2.at_):∀ (n:Nat) (r:RSt),r.at_<=(o6 g n r).2.at_
 | 0,r=>a0q _
 | n+1,r=>a0n (hg r) (mm hg n _)
theorem iJ {α:Type} {X:RIn} {g:RSt->α×RSt} (hg:∀ r,r.at_<=(g r).2.at_) (l:List α) (r:RSt):r.at_<=(s4 X g l r).2.at_:=by
 have:=A4 X r;unfold s4;split
 ·exact this
 ·exact a0n this (mm hg _ _)
theorem HX (f:Fl) (rl:List (Int×Int)) (X:RIn) (r:RSt) (x:In):r.at_<=(f.rd rl X r x).1.at_:=by
 cases f
 case D=>exact A4 X r
 case A=>exact A4 X r
 case B=>exact A4 X r
 case N=>exact A4 X r
 case M=>exact A4 X r
 case P=>exact A4 X r
 case T=>exact gz X r
 case U=>exact gz X r
 case W=>exact gz X r
 case V=>exact a0n (A4 X r) (iI X _)
 case L=>exact iJ (g:=gI X) (λr=>A4 X r) x.l r
 case Y=>exact iJ (g:=E8 X) (gz X) x.y r
 case F=>exact iJ (g:=Q3 X) (Bl X) x.f r
 case Sz=>exact fB X r
 case Rg=>exact fB X r
 case aN=>exact bX X r
 case aM=>exact bX X r
 case pN=>exact rD _ _ _ _ _
 case pM=>exact rD _ _ _ _ _
 case far=>exact a0n (pk rl _ r) (bX X _)
theorem pn (rl:List (Int×Int)) (X:RIn):∀ (l:List Fl) (s:RSt×In),j8 X s.1->s.1.at_<=(rdL rl X l s).1.at_/\j8 X (rdL rl X l s).1
 | [],s,h=>⟨a0q _,h⟩
 | f::l,s,h=>by
  have e:rdL rl X (f::l) s=rdL rl X l (if s.1.bad=true then s else f.rd rl X s.1 s.2):=rfl;rw [e];split
  ·exact pn rl X l s h
  ·have:=pn rl X l (f.rd rl X s.1 s.2) (vB f h).1;exact ⟨a0n (HX f rl X s.1 s.2) this.1,this.2⟩
theorem eh (rl:List (Int×Int)) (X:RIn) (n:Nat) (x7:j8 X ⟨n,false⟩) (h:n<X.s.length):n<(t7 rl X n).1.at_/\j8 X (t7 rl X n).1:=by
 have h1:(f6 X ⟨n,false⟩).2.at_=n+1:=by unfold f6; rw [if_pos h]
 have:=pn rl X ((n7 ((f6 X ⟨n,false⟩).1.toNat:Int)).getD []) ((f6 X ⟨n,false⟩).2,f0 ((f6 X ⟨n,false⟩).1.toNat:Int)) (F4 x7);simp only [h1] at this;exact ⟨this.1,this.2⟩
def tkS (rl:List (Int×Int)) (X:RIn):Nat->Nat->Option (List In×List Int)
 | 0,_=>none
 | k+1,n=>if n<X.s.length then (if B1 rl X n=true then (tkS rl X k (t7 rl X n).1.at_).map (λs=>((t7 rl X n).2::s.1,((t7 rl X n).1.at_:Int)::s.2)) else none) else some ([],[])
def B2 (rl:List (Int×Int)) (X:RIn):Option (List In×List Int):=(tkS rl X (X.s.length+1) 0).map λs=>(s.1,0::s.2)
structure TK where
 l:List (In×IA)
 q:Option Addr
 c:Nat
 p:List Int
 q':Option Addr
 c':Nat
def tkV (t:Option TK):RV:=match t with
 | none=>.tup [.one (.val (.slice none 0 0)),.one (.val (.slice none 0 0)),.one (.sb false)]
 | some t=>.tup [.one (.row 0 t.q t.l.length t.c),.one (.row 1 t.q' t.p.length t.c'),.one (.sb true)]
def tkF (t:Option TK):St:=match t with
 | none=>noF
 | some t=>{ noF with rows:=[(0,G7 t.l t.q t.c true),(1,d5 C6 0 t.p t.q' t.c' 3 1 true)],nr:=2,pers:=[M6 t.l] }
def tkP (r:Option (List In×List Int)) (t:Option TK):Prop:=match r with
 | none=>t=none
 | some s=>∃ t',t=some t'/\t'.l.map (·.1)=s.1/\t'.p=s.2
theorem cR (rl:List (Int×Int)) (X:RIn) (k n:Nat):tkS rl X (k+1) n=if n<X.s.length then (if B1 rl X n=true then (tkS rl X k (t7 rl X n).1.at_).map (λs=>((t7 rl X n).2::s.1,((t7 rl X n).1.at_:Int)::s.2)) else none) else some ([],[]):=rfl
theorem zL {rl:List (Int×Int)} {X:RIn} {n k:Nat} {a:List In} {p:List Int} (hk:X.s.length<n+k) (e9:n<X.s.length) (hT:B2 rl X=(tkS rl X k n).map λs=>(a++s.1,p++s.2)) (hf:B1 rl X n=false):tkP (B2 rl X) none:=by
 cases k with
 | zero=>omega
 | succ k =>
  rw [hT,cR,if_pos e9,if_neg (by rw [hf]; decide)];rfl
theorem zM {rl:List (Int×Int)} {X:RIn} {n k:Nat} {l:List (In×IA)} {p:List Int} {y:In×IA} (hk:X.s.length<n+k) (e9:n<X.s.length) (hT:B2 rl X=(tkS rl X k n).map λs=>(l.map (·.1)++s.1,p++s.2)) (hf:B1 rl X n=true) (hy:y.1=(t7 rl X n).2) :
  B2 rl X=(tkS rl X (k - 1) (t7 rl X n).1.at_).map λs=>((l++[y]).map (·.1)++s.1,(p++[((t7 rl X n).1.at_:Int)])++s.2):=by
 cases k with
 | zero=>omega
 | succ k =>
  rw [hT,cR,if_pos e9,if_pos hf,Option.map_map,a3x];congr 1;funext s;simp [hy]
theorem Ej {rl:List (Int×Int)} {X:RIn} {n k:Nat} {t:TK} (hk:X.s.length<n+k) (hn:n<=X.s.length) (bA:¬ n<X.s.length) (hT:B2 rl X=(tkS rl X k n).map λs=>(t.l.map (·.1)++s.1,t.p++s.2)):tkP (B2 rl X) (some t):=by
 cases k with
 | zero=>omega
 | succ k =>
  rw [hT,cR,if_neg bA];exact ⟨t,rfl,by simp,by simp⟩
structure TI where
 t:TK
 n:Nat
 k:Nat
def Sg (K:Kc) (rl:List (Int×Int)) (X:RIn) (pr rg:Int) (n0:Nat) (S:Nat->Prop) (j:TI):St :=
 { n:=43,slots:=[(2,ov (.ptr 0 0)),(3,ov (.ptr 1 0)),(7,ov (.row 0 j.t.q j.t.l.length j.t.c)),(8,ov (.row 1 j.t.q' j.t.p.length j.t.c')),(9,ov (.int .i64 (j.n:Int)))],gs:=[],
    heap:=[(0,⟨[.val (.map (some K.gF)),.val (.map (some K.gO))],110,true⟩),(1,⟨[.int .i64 pr,.int .i64 rg,.str X.s,.val (.slice X.q X.n X.c)],49,true⟩)],next:=2,
    rows:=[(0,G7 j.t.l j.t.q j.t.c true),(1,d5 C6 0 j.t.p j.t.q' j.t.c' 3 1 true)],nr:=2,pers:=[P7 n0 S (M6 j.t.l),cdP K,e8 (j1 rl X.q X.c)],wr:=true,fx:=0 }
theorem Ek (x:Int):(C6 x).length=1:=rfl
theorem iK (x:Int):∀ y∈C6 x,y.plain:=by
 intro y hy;rw [a0d.1 hy];trivial
theorem Mc (K:Kc) (hK:K.ok) (rl:List (Int×Int)) (X:RIn) (hX:X.n=rl.length) (hl:rl.length<=1000000000) (hs:X.s.length<=100000000) (pr rg:Int) :
  CallsK a0a 135 [.agg [.val (.map (some K.gF)),.val (.map (some K.gO))],.agg [.int .i64 pr,.int .i64 rg,.str X.s,.val (.slice X.q X.n X.c)]] (z8 [cdP K,e8 (j1 rl X.q X.c)]) (tkP (B2 rl X)) tkV tkF:=by
 refine a0j true Tryz.func135 fun ρ w=>V.q<|oE C6 0 [0] 3 1 2 kq Ek iK (by decide) (λg=>kq) λg=>rz 8 0 (d5 C6 0 [0] (some ⟨g,0,none⟩) 1 3 1 true) kq kq kq<|U9 ixV ixD 7 30 29 kq kq<|B3 [] [] (M6 []) kq kq (λk hk=>by obtain ⟨q,hq,_⟩:=hk; exact absurd hq (a1a)) (λw hw q hq=>absurd hq (a1a)) (I8 _)<|j6 [2,3,7,8,9] [true,true,true] (λj:TI=>X.s.length - j.n) (Sg K rl X pr rg w.heap.size (n6 ρ (z8 [cdP K,e8 (j1 rl X.q X.c)]))) (λj=>j8 X ⟨j.n,false⟩/\X.s.length<j.n+j.k/\j.t.l.length<=j.n/\j.t.p.length<=j.n+1/\B2 rl X=(tkS rl X j.k j.n).map λs=>(j.t.l.map (·.1)++s.1,j.t.p++s.2)) ⟨⟨[],none,0,[0],some ⟨g,0,none⟩,1⟩,0,X.s.length+1⟩ kq
  ⟨⟨by show X.s.length<=_; omega,a0s _⟩,by simp only; omega,a0s _,a0q _,rfl⟩ (λj hj ih=>?_)
 obtain ⟨⟨l,q,c,p,q',c'⟩,n,k⟩:=j;obtain ⟨x7,hk,nt,um,hT⟩:=hj;simp only at x7 hk nt um hT;refine a1l<|V.q<|f9 18 (decide ((n:Int)<(X.s.length:Int))) (λhb=>?_) (λhb=>?_)
 ·have e9:n<X.s.length:=by simpa using hb
  have qt:=eh rl X n x7 e9;refine V.q<|V.c [(1,false),(2,false)] (zH K hK rl X hX hl n x7) λy hy=>V.q<|f9 31 (!(B1 rl X n)) (λlN=>?_) (λlN=>?_)
  ·exact V.q<|a4o 6 false<|V.e (none:Option TK) [] (zL hk e9 hT (by simpa using lN))
  ·have Jm:B1 rl X n=true:=by simpa using lN
   refine V.q<|a6q ixV ixD l y 0 q c 30 29 (inV y.1 y.2) 304 kq (by have:=x7.2; simp only at this; omega) rfl (λ_ _=>kq) λq2 c2=>V.q<|a6q C6 0 p ((t7 rl X n).1.at_:Int) 1 q' c' 3 1 [.int .i64 ((t7 rl X n).1.at_:Int)] 8 kq (by have:=x7.2; simp only at this; omega) rfl (λ_ _=>kq) λq3 c3=>V.q<|B3 [(3,true),(0,true),(1,true),(2,true)] (M6 l::lsP y.1 y.2) (M6 (l++[(y.1,y.2)])) kq kq (M1 l y.1 y.2).1 (M1 l y.1 y.2).2 (I8 _)<|d9 [2,3,7,8,9] [true,false,false,false,false,true,true] (ih ⟨⟨l++[y],q2,c2,p++[((t7 rl X n).1.at_:Int)],q3,c3⟩,(t7 rl X n).1.at_,k - 1⟩ ⟨⟨qt.2.1,qt.2.2⟩,by simp only; omega,by simp only [a0c,a1j]; omega,by simp only [a0c,a1j]; omega,zM hk e9 hT Jm hy⟩ (by simp only; omega)) kq kq
 ·have bA:¬ n<X.s.length:=by simpa using hb
  exact V.q<|a4o 6 true<|V.e (some ⟨l,q,c,p,q',c'⟩:Option TK) [(0,true)] (Ej hk x7.2 bA hT)
theorem Bm (l:List UInt8) (q:Option Addr) (cap:Nat):CallsK a0a 149 [.one (.ptr 0 0)] (bdF l q cap) (λ_:Unit=>True) (λ_=>ov (.int .i64 (l.length:Int))) (λ_=>bdF l q cap):=by
 exact a0j true Tryz.func149 fun ρ w=>V.q<|V.z
theorem El:CallsK a0a 149 [.one (.ptr 0 0)] bdN (λ_:Unit=>True) (λ_=>ov (.int .i64 (([]:List UInt8).length:Int))) (λ_=>bdN):=by
 exact a0j true Tryz.func149 fun ρ w=>V.q<|V.z
def shR (n:Nat) (r:List (Int×Int)):List (Int×Int):=r.map λe=>((n:Int)+e.1,e.2)
def mdS (l:List In):List UInt8×List (Int×Int):=l.foldl (λs x=>(s.1++(J6 x).1,s.2++shR s.1.length (J6 x).2)) ([],[])
theorem vI (l:List In) (x:In):mdS (l++[x])=((mdS l).1++(J6 x).1,(mdS l).2++shR (mdS l).1.length (J6 x).2):=by
 unfold mdS;rw [a4r];rfl
theorem Md (f:Fl) (x:In) (n:Nat):∀ e∈f.rel x n,e.1=(n:Int):=by
 cases f
 case pN=>show ∀ e∈X5 _ n,_; unfold X5; split<;>simp
 case pM=>show ∀ e∈X5 _ n,_; unfold X5; split<;>simp
 case far=>show ∀ e∈[((n:Int),x.p)],_; simp
 all_goals exact λe he=>absurd he (a1a)
theorem zN (x:In):∀ (l:List Fl) (s:List UInt8×List (Int×Int)),l.all (λf=>f.fineB x)=true->(∀ e∈s.2,0<=e.1/\e.1<=(s.1.length:Int))->∀ e∈(putL x l s).2,0<=e.1/\e.1<=((putL x l s).1.length:Int)
 | [],s,_,h=>h
 | f::l,s,ha,h=>by
  rw [List.all_cons,a0g] at ha;refine zN x l (s.1++f.enc x,s.2++f.rel x s.1.length) ha.2 (λe he=>?_);rw [a0c];rcases a2s.1 he with he | he
  ·have:=h e he; omega
  ·have:=Md f x s.1.length e he; omega
theorem V8 {x:In} (h:j2 x=true):(1<=x.op/\x.op<=38)/\((n7 x.op).getD []).all (λf=>f.fineB x)=true:=by
 by_cases f7:1<=x.op/\x.op<=38
 ·refine ⟨f7,?_⟩;unfold j2 at h;have hf:n7 x.op=some (c6 x.op.toNat):=by unfold n7; rw [if_pos f7]
  rw [hf] at h ⊢;simp only [a0g] at h;exact h.1
 ·unfold j2 n7 at h;rw [if_neg f7] at h;cases h
theorem tr {x:In} (h:j2 x=true):(J6 x).1.length<=100000/\(J6 x).2.length<=100/\∀ e∈(J6 x).2,0<=e.1/\e.1<=100000:=by
 obtain ⟨f7,qe⟩:=V8 h;have hf:n7 x.op=some (c6 x.op.toNat):=by unfold n7; rw [if_pos f7]
 have lK:(c6 x.op.toNat).length<=7:=by
  have:=D7 (p:=λo=>decide ((c6 o).length<=7)) kq (o:=x.op.toNat) ((p6 _).2 (by omega));simpa using this
 have h1:=jG x ((n7 x.op).getD []) ([a1c x.op.toNat],[]) qe;have h2:=zN x ((n7 x.op).getD []) ([a1c x.op.toNat],[]) qe (λe he=>absurd he (a1a));have hl:((n7 x.op).getD []).length<=7:=by rw [hf]; exact lK
 simp only [a1j,a1r] at h1;have h3:(J6 x).1.length<=100000/\(J6 x).2.length<=100:=by
  show (putL x _ _).1.length<=_/\(putL x _ _).2.length<=_;omega
 exact ⟨h3.1,h3.2,λe he=>by have:=h2 e he; have h4:(putL x ((n7 x.op).getD []) ([a1c x.op.toNat],[])).1.length<=100000:=h3.1; omega⟩
theorem zO:∀ (l:List In) (s:List UInt8×List (Int×Int)),(∀ x∈l,j2 x=true)->(l.foldl (λs x=>(s.1++(J6 x).1,s.2++shR s.1.length (J6 x).2)) s).1.length<=s.1.length+100000*l.length/\(l.foldl (λs x=>(s.1++(J6 x).1,s.2++shR s.1.length (J6 x).2)) s).2.length<=s.2.length+100*l.length
 | [],s,_=>⟨by simp,by simp⟩
 | x::l,s,h=>by
  have h1:=zO l (s.1++(J6 x).1,s.2++shR s.1.length (J6 x).2) (λy hy=>h y (a0e _ hy));have h2:=tr (h x (a0f ..));simp only [a0c,shR,a1k] at h1;rw [List.foldl_cons,a0p];simp only [shR];omega
theorem gA (l:List In) (h:∀ x∈l,j2 x=true):(mdS l).1.length<=100000*l.length/\(mdS l).2.length<=100*l.length:=by
 have:=zO l ([],[]) h;simp only [a1r,Nat.zero_add] at this;exact this
def Em:List Item:=ak 100 [.code (I5 Tryz.f80)]
def vJ:List Item:=ak 100 (ak 100 [.code (I5 Tryz.f80)])
structure MI where
 r:List (Int×Int)
 q:Option Addr
 c:Nat
 i:Nat
structure MB where
 bs:List UInt8
 q:Option Addr
 c:Nat
structure ME where
 s:List UInt8
 re:List (Int×Int)
 q:Option Addr
 c:Nat
section
variable (K:Kc) (l:List (In×IA)) (ql:Option Addr) (cl:Nat) (pr rg:Int)
def mdF:St:=z8 [cdP K,M6 l,e8 (G7 l ql cl false)]
def mdV (qc:Option Addr×Nat):RV:=.v (.agg [.int .i64 pr,.int .i64 rg,.str (mdS (l.map (·.1))).1,.row 0 qc.1 (mdS (l.map (·.1))).2.length qc.2])
def mdC (ρ:Nat->Nat) (w:World):Ctx:=⟨a0a,80,N9 ρ (mdF K l ql cl) (λ_:Option Addr×Nat=>True) (mdV l pr rg) (rsF (mdS (l.map (·.1))).2) w,n6 ρ (mdF K l ql cl),w,ρ,none⟩
def Sh (j:MI):St :=
 { n:=57,slots:=[(4,ov (.ptr 0 0)),(8,ov (.ptr 1 0)),(9,ov (.ptr 2 0)),(10,ov (.ptr 3 0)),(20,ov (.row 1 ql l.length cl)),(21,ov (.int .i64 l.length)),(22,ov (.int .i64 (j.i:Int)))],gs:=[],heap:=[(0,⟨[.val (.map (some K.gF)),.val (.map (some K.gO))],110,true⟩),(1,⟨[.int .i64 0,.int .i64 0,.str [],.val (.slice none 0 0)],49,true⟩),(2,⟨[.int .i64 pr,.int .i64 rg,.str [],.row 0 j.q j.r.length j.c],49,true⟩),(3,⟨[.val (.pointer none),.val (.slice none 0 0)],137,true⟩)],next:=4,
    rows:=[(0,d5 rlv (0,0) j.r j.q j.c 62 2 true),(1,G7 l ql cl false)],nr:=2,pers:=[cdP K,M6 l,e8 (G7 l ql cl false)],wr:=true,fx:=0 }
def En (E:ME) (i:Nat) (j:MI):St :=
 { n:=57,slots:=[(4,ov (.ptr 0 0)),(8,ov (.ptr 1 0)),(9,ov (.ptr 2 0)),(10,ov (.ptr 3 0)),(13,ov (.str E.s)),(20,ov (.row 1 ql l.length cl)),(21,ov (.int .i64 l.length)),(22,ov (.int .i64 (i:Int))),(32,ov (.row 2 E.q E.re.length E.c)),(33,ov (.int .i64 E.re.length)),(34,ov (.int .i64 (j.i:Int)))],gs:=[],heap:=[(0,⟨[.val (.map (some K.gF)),.val (.map (some K.gO))],110,true⟩),(1,⟨[.int .i64 0,.int .i64 0,.str [],.val (.slice none 0 0)],49,true⟩),(2,⟨[.int .i64 pr,.int .i64 rg,.str [],.row 0 j.q j.r.length j.c],49,true⟩),(3,⟨[.val (.pointer none),.val (.slice none 0 0)],137,true⟩)],next:=4,
    rows:=[(0,d5 rlv (0,0) j.r j.q j.c 62 2 true),(1,G7 l ql cl false),(2,d5 rlv (0,0) E.re E.q E.c 62 2 true)],nr:=3,pers:=[cdP K,M6 l,e8 (G7 l ql cl false)],wr:=true,fx:=0 }
def Eo (B:MB) (j:MI):St :=
 { n:=57,slots:=[(4,ov (.ptr 0 0)),(8,ov (.ptr 1 0)),(9,ov (.ptr 2 0)),(10,ov (.ptr 3 0)),(20,ov (.row 2 ql l.length cl)),(21,ov (.int .i64 l.length)),(22,ov (.int .i64 (j.i:Int)))],gs:=[],heap:=[(0,⟨[.val (.map (some K.gF)),.val (.map (some K.gO))],110,true⟩),(1,⟨[.int .i64 0,.int .i64 0,.str [],.val (.slice none 0 0)],49,true⟩),(2,⟨[.int .i64 pr,.int .i64 rg,.str [],.row 0 j.q j.r.length j.c],49,true⟩),(3,⟨[.ptr 3 0,.row 1 B.q B.bs.length B.c],137,true⟩)],next:=4,
    rows:=[(0,d5 rlv (0,0) j.r j.q j.c 62 2 true),(1,d5 bsv 0 B.bs B.q B.c 5 1 true),(2,G7 l ql cl false)],nr:=3,pers:=[cdP K,M6 l,e8 (G7 l ql cl false)],wr:=true,fx:=0 }
def Ep (B:MB) (E:ME) (i:Nat) (j:MI):St :=
 { n:=57,slots:=[(4,ov (.ptr 0 0)),(8,ov (.ptr 1 0)),(9,ov (.ptr 2 0)),(10,ov (.ptr 3 0)),(13,ov (.str E.s)),(20,ov (.row 2 ql l.length cl)),(21,ov (.int .i64 l.length)),(22,ov (.int .i64 (i:Int))),(32,ov (.row 3 E.q E.re.length E.c)),(33,ov (.int .i64 E.re.length)),(34,ov (.int .i64 (j.i:Int)))],gs:=[],heap:=[(0,⟨[.val (.map (some K.gF)),.val (.map (some K.gO))],110,true⟩),(1,⟨[.int .i64 0,.int .i64 0,.str [],.val (.slice none 0 0)],49,true⟩),(2,⟨[.int .i64 pr,.int .i64 rg,.str [],.row 0 j.q j.r.length j.c],49,true⟩),(3,⟨[.ptr 3 0,.row 1 B.q B.bs.length B.c],137,true⟩)],next:=4,
    rows:=[(0,d5 rlv (0,0) j.r j.q j.c 62 2 true),(1,d5 bsv 0 B.bs B.q B.c 5 1 true),(2,G7 l ql cl false),(3,d5 rlv (0,0) E.re E.q E.c 62 2 true)],nr:=4,pers:=[cdP K,M6 l,e8 (G7 l ql cl false)],wr:=true,fx:=0 }
end
theorem Me (K:Kc) (l:List (In×IA)) (ql:Option Addr) (cl:Nat) (pr rg:Int) (ρ:Nat->Nat) (w:World) (E:ME) (hE:E.re.length<=100/\∀ e∈E.re,0<=e.1/\e.1<=100000) (i:Nat) (r0:List (Int×Int)) (Ch:r0.length<=1000000000)
  (aB:∀ q c,V (mdC K l ql cl pr rg ρ w) ⟨vJ,En K l ql cl pr rg E i ⟨r0++shR 0 E.re,q,c,E.re.length⟩⟩) (j0:MI) (hj0:j0.i<=E.re.length/\j0.r=r0++shR 0 (E.re.take j0.i)) :
  V (mdC K l ql cl pr rg ρ w) ⟨vJ,En K l ql cl pr rg E i j0⟩:=by
 refine C0 (c:=⟨vJ,En K l ql cl pr rg E i j0⟩) [4,8,9,10,13,20,21,22,32,33,34] [0,1,2,3] [0,1,2] [true,true,true] (λj:MI=>E.re.length - j.i) (En K l ql cl pr rg E i) (λj=>j.i<=E.re.length/\j.r=r0++shR 0 (E.re.take j.i)) j0 kq hj0 (λj hj ih=>?_);obtain ⟨r,q,c,k⟩:=j;obtain ⟨hk,hr⟩:=hj;simp only at hk hr ih;by_cases e9:k<E.re.length
 case neg =>
  have QO:k=E.re.length:=by omega
  subst QO;rw [a1o] at hr;subst hr;exact aB q c
 refine V.q<|m0 35 (decide ((k:Int)<E.re.length)) true (by simpa using e9) ?_;have KQ:r.length<=2000000000:=by rw [hr,a0c,shR,a1k,a2b]; omega
 obtain ⟨e,he⟩:∃ e,E.re.getD k (0,0)=e:=⟨_,rfl⟩;have WH:0<=e.1/\e.1<=100000:=by
  refine hE.2 e ?_;rw [<- he,a0r,a0b e9];exact a5b e9
 have hw:a0h.wrap ((([]:List UInt8).length:Int)+(E.re.getD k (0,0)).1)=((0:Nat):Int)+e.1:=by
  rw [he];simp [a1s,a1t,a1p];omega
 have C4:r++[(a0h.wrap ((([]:List UInt8).length:Int)+(E.re.getD k (0,0)).1),(E.re.getD k (0,0)).2)]=r0++shR 0 (E.re.take (k+1)):=by
  rw [hw,he,hr,a2c,a0b e9];rw [a0r,a0b e9] at he;simp only [a1e] at he;rw [he];simp [shR]
 exact V.t [] [(0:Int)<=k/\(k:Int)<E.re.length] ⟨by omega,by omega⟩<|p9 [3] [0] 12 kq<|@a1z _ [3] [0] 12 _ _ ([]:List (Ent a0a)) [] kq kq trivial<|@cQ _ [3] [0] 12 _ _ Unit 149 [.one (.ptr 0 0)] bdN _ _ _ [] (El) kq kq kq (λ_=>kq) λ_ _=>@a1z _ [3] [0] 12 _ _ ([]:List (Ent a0a)) [] kq kq trivial<|@a6s _ [3] [0] 12 _ _ _ rlv (0,0) r (a0h.wrap ((([]:List UInt8).length:Int)+(E.re.getD k (0,0)).1),(E.re.getD k (0,0)).2) 0 q c 62 2 [.int .i64 (a0h.wrap ((([]:List UInt8).length:Int)+(E.re.getD k (0,0)).1)),.int .i64 (E.re.getD k (0,0)).2] 16 kq kq kq (by omega) rfl (λ_ _=>kq) λq2 c2=>@a1z _ [3] [0] 12 _ _ ([]:List (Ent a0a)) [] kq kq trivial<|@o7 _ [3] [0] 12 _ _ kq<|V.q<|a3v 34 k (by omega)<|a1l<|s5 [4,8,9,10,13,20,21,22,32,33,34] [0,1,2,3] [3,1,2] [true,true,true] (ih ⟨r++[(a0h.wrap ((([]:List UInt8).length:Int)+(E.re.getD k (0,0)).1),(E.re.getD k (0,0)).2)],q2,c2,k+1⟩ ⟨e9,C4⟩ (by simp only; omega)) kq kq
theorem Mf (K:Kc) (l:List (In×IA)) (ql:Option Addr) (cl:Nat) (pr rg:Int) (ρ:Nat->Nat) (w:World) (B:MB) (hB:B.bs.length<=10000000000000) (E:ME) (hE:E.re.length<=100/\∀ e∈E.re,0<=e.1/\e.1<=100000) (i:Nat) (r0:List (Int×Int)) (Ch:r0.length<=1000000000)
  (aB:∀ q c,V (mdC K l ql cl pr rg ρ w) ⟨vJ,Ep K l ql cl pr rg B E i ⟨r0++shR B.bs.length E.re,q,c,E.re.length⟩⟩) (j0:MI) (hj0:j0.i<=E.re.length/\j0.r=r0++shR B.bs.length (E.re.take j0.i)) :
  V (mdC K l ql cl pr rg ρ w) ⟨vJ,Ep K l ql cl pr rg B E i j0⟩:=by
 refine C0 (c:=⟨vJ,Ep K l ql cl pr rg B E i j0⟩) [4,8,9,10,13,20,21,22,32,33,34] [0,1,2,3] [0,1,2,3] [true,true,true] (λj:MI=>E.re.length - j.i) (Ep K l ql cl pr rg B E i) (λj=>j.i<=E.re.length/\j.r=r0++shR B.bs.length (E.re.take j.i)) j0 kq hj0 (λj hj ih=>?_);obtain ⟨r,q,c,k⟩:=j;obtain ⟨hk,hr⟩:=hj;simp only at hk hr ih;by_cases e9:k<E.re.length
 case neg =>
  have QO:k=E.re.length:=by omega
  subst QO;rw [a1o] at hr;subst hr;exact aB q c
 refine V.q<|m0 35 (decide ((k:Int)<E.re.length)) true (by simpa using e9) ?_;have KQ:r.length<=2000000000:=by rw [hr,a0c,shR,a1k,a2b]; omega
 obtain ⟨e,he⟩:∃ e,E.re.getD k (0,0)=e:=⟨_,rfl⟩;have WH:0<=e.1/\e.1<=100000:=by
  refine hE.2 e ?_;rw [<- he,a0r,a0b e9];exact a5b e9
 have hw:a0h.wrap ((B.bs.length:Int)+(E.re.getD k (0,0)).1)=((B.bs.length:Nat):Int)+e.1:=by
  rw [he];simp [a1s,a1t,a1p];omega
 have C4:r++[(a0h.wrap ((B.bs.length:Int)+(E.re.getD k (0,0)).1),(E.re.getD k (0,0)).2)]=r0++shR B.bs.length (E.re.take (k+1)):=by
  rw [hw,he,hr,a2c,a0b e9];rw [a0r,a0b e9] at he;simp only [a1e] at he;rw [he];simp [shR]
 exact V.t [] [(0:Int)<=k/\(k:Int)<E.re.length] ⟨by omega,by omega⟩<|p9 [3] [0,1] 12 kq<|@a1z _ [3] [0,1] 12 _ _ ([]:List (Ent a0a)) [] kq kq trivial<|@cQ _ [3] [0,1] 12 _ _ Unit 149 [.one (.ptr 0 0)] (bdF B.bs B.q B.c) _ _ _ [] (Bm B.bs B.q B.c) kq kq kq (λ_=>kq) λ_ _=>@a1z _ [3] [0,1] 12 _ _ ([]:List (Ent a0a)) [] kq kq trivial<|@a6s _ [3] [0,1] 12 _ _ _ rlv (0,0) r (a0h.wrap ((B.bs.length:Int)+(E.re.getD k (0,0)).1),(E.re.getD k (0,0)).2) 0 q c 62 2 [.int .i64 (a0h.wrap ((B.bs.length:Int)+(E.re.getD k (0,0)).1)),.int .i64 (E.re.getD k (0,0)).2] 16 kq kq kq (by omega) rfl (λ_ _=>kq) λq2 c2=>@a1z _ [3] [0,1] 12 _ _ ([]:List (Ent a0a)) [] kq kq trivial<|@o7 _ [3] [0,1] 12 _ _ kq<|V.q<|a3v 34 k (by omega)<|a1l<|s5 [4,8,9,10,13,20,21,22,32,33,34] [0,1,2,3] [5,4,2,3] [true,true,true] (ih ⟨r++[(a0h.wrap ((B.bs.length:Int)+(E.re.getD k (0,0)).1),(E.re.getD k (0,0)).2)],q2,c2,k+1⟩ ⟨e9,C4⟩ (by simp only; omega)) kq kq
theorem Bn (K:Kc) (l:List (In×IA)) (ql:Option Addr) (cl:Nat) (pr rg:Int) (ρ:Nat->Nat) (w:World) (E:ME) (hE:E.s.length<=100000) (i:Nat) (hi:i<3000000) (r:List (Int×Int)) (q:Option Addr) (c:Nat)
  (C4:∀ B':MB,B'.bs=E.s->V (mdC K l ql cl pr rg ρ w) ⟨Em,Eo K l ql cl pr rg B' ⟨r,q,c,i+1⟩⟩) :
  V (mdC K l ql cl pr rg ρ w) ⟨vJ,En K l ql cl pr rg E i ⟨r,q,c,E.re.length⟩⟩:=by
 exact V.q<|m0 35 (decide ((E.re.length:Int)<E.re.length)) false (by simp)<|V.q<|V.c [] (ve E.s (by omega)) λx _=>V.q<|a3v 22 i (by omega)<|a1l<|s5 [4,8,9,10,20,21,22] [0,1,2,3] [0,3,1] [true,true,true] (C4 ⟨E.s,x.1,x.2⟩ rfl) kq kq
theorem Bo (K:Kc) (l:List (In×IA)) (ql:Option Addr) (cl:Nat) (pr rg:Int) (ρ:Nat->Nat) (w:World) (B:MB) (hB:B.bs.length<=10000000000000) (E:ME) (hE:E.s.length<=100000) (i:Nat) (hi:i<3000000) (r:List (Int×Int)) (q:Option Addr) (c:Nat)
  (C4:∀ B':MB,B'.bs=B.bs++E.s->V (mdC K l ql cl pr rg ρ w) ⟨Em,Eo K l ql cl pr rg B' ⟨r,q,c,i+1⟩⟩) :
  V (mdC K l ql cl pr rg ρ w) ⟨vJ,Ep K l ql cl pr rg B E i ⟨r,q,c,E.re.length⟩⟩:=by
 exact V.q<|m0 35 (decide ((E.re.length:Int)<E.re.length)) false (by simp)<|V.q<|V.c [] (kT B.bs B.q B.c E.s (by omega)) λx _=>V.q<|a3v 22 i (by omega)<|a1l<|s5 [4,8,9,10,20,21,22] [0,1,2,3] [0,4,2] [true,true,true] (C4 ⟨B.bs++E.s,x.1,x.2⟩ rfl) kq kq
def vK (l:List (In×IA)):Prop:=l.length<=2000000/\∀ e∈l,j2 e.1=true/\e.1.okL
theorem Ke {l:List (In×IA)} (h:vK l) {i:Nat} (hi:i<l.length):l.getD i ixD∈l/\j2 (l.getD i ixD).1=true/\(l.getD i ixD).1.okL:=by
 have hm:l.getD i ixD∈l:=by
  rw [a0r,a0b hi];exact a5b hi
 exact ⟨hm,h.2 _ hm⟩
theorem jI {l:List (In×IA)} {i:Nat} (hi:i<l.length):mdS ((l.take (i+1)).map (·.1))=((mdS ((l.take i).map (·.1))).1++(J6 (l.getD i ixD).1).1,(mdS ((l.take i).map (·.1))).2++shR (mdS ((l.take i).map (·.1))).1.length (J6 (l.getD i ixD).1).2):=by
 rw [a2c,a0b hi,a2x,a0r,a0b hi];exact vI _ _
theorem lm {l:List (In×IA)} (h:vK l) (i:Nat):(mdS ((l.take i).map (·.1))).1.length<=10000000000000/\(mdS ((l.take i).map (·.1))).2.length<=1000000000:=by
 have h1:=gA ((l.take i).map (·.1)) (λx hx=>by
  obtain ⟨e,he,rfl⟩:=a1d.1 hx;exact (h.2 e (a5l he)).1)
 rw [a1k,a2b] at h1;have h2:=h.1;omega
theorem Er (K:Kc) (hK:K.ok) (l:List (In×IA)) (x7:vK l) (ql:Option Addr) (cl:Nat) (pr rg:Int) (ρ:Nat->Nat) (w:World) (j0:MB×MI)
  (hj0:j0.2.i<=l.length/\j0.1.bs=(mdS ((l.take j0.2.i).map (·.1))).1/\j0.2.r=(mdS ((l.take j0.2.i).map (·.1))).2):V (mdC K l ql cl pr rg ρ w) ⟨Em,Eo K l ql cl pr rg j0.1 j0.2⟩:=by
 refine C0 (c:=⟨Em,Eo K l ql cl pr rg j0.1 j0.2⟩) [4,8,9,10,20,21,22] [0,1,2,3] [0,1,2] [true,true,true] (λj:MB×MI=>l.length - j.2.i) (λj=>Eo K l ql cl pr rg j.1 j.2) (λj=>j.2.i<=l.length/\j.1.bs=(mdS ((l.take j.2.i).map (·.1))).1/\j.2.r=(mdS ((l.take j.2.i).map (·.1))).2) j0 kq hj0 (λj hj ih=>?_);obtain ⟨B,r,q,c,i⟩:=j;obtain ⟨hi,hB,hr⟩:=hj;simp only at hi hB hr ih;by_cases e9:i<l.length
 ·refine V.q<|m0 23 (decide ((i:Int)<l.length)) true (by simpa using e9) ?_;have lL:=Ke x7 e9;have M7:=V8 lL.2.1;have Jv:=tr lL.2.1;have No:=lm x7 i;refine V.t [] [(0:Int)<=i/\(i:Int)<l.length] ⟨by omega,by omega⟩<|w4 1 (l.map λe=>L0 (lsP e.1 e.2)) (L0 (lsP (l.getD i ixD).1 (l.getD i ixD).2)) kq (a1d.2 ⟨_,lL.1,rfl⟩) (H9 (bx _ _))<|w4 0 (lsP (l.getD i ixD).1 (l.getD i ixD).2) (e8 (C7 (l.getD i ixD).1 (l.getD i ixD).2)) kq (a0f ..) (l7 _)<|w4 1 (lsP (l.getD i ixD).1 (l.getD i ixD).2) (e8 (C1 (l.getD i ixD).1 (l.getD i ixD).2)) kq (a0e _ (a0f ..)) (l7 _)<|w4 2 (lsP (l.getD i ixD).1 (l.getD i ixD).2) (e8 (E7 (l.getD i ixD).1 (l.getD i ixD).2)) kq (a0e _ (a0e _ (a0f ..))) (l7 _)<|V.c [(4,false),(2,false),(1,false),(0,false)] (tj K hK (l.getD i ixD).1 (l.getD i ixD).2 lL.2.2 M7.1 M7.2) λqc _=>V.q<|a1l<|jn [4,8,9,10,13,20,21,22,32,33,34] [false,false,false,false,true,true,true] (Mf K l ql cl pr rg ρ w B (by rw [hB]; exact No.1) ⟨(J6 (l.getD i ixD).1).1,(J6 (l.getD i ixD).1).2,qc.1,qc.2⟩ ⟨Jv.2.1,Jv.2.2⟩ i r (by rw [hr]; exact No.2) (λq2 c2=>?_) ⟨r,q,c,0⟩ ⟨a0s _,by simp [shR]⟩) kq kq;refine Bo K l ql cl pr rg ρ w B (by rw [hB]; exact No.1) _ Jv.1 i (by have:=x7.1; omega) _ q2 c2 λB' Vd=>ih (B',⟨_,q2,c2,i+1⟩) ⟨e9,?_,?_⟩ (by simp only; omega)
  ·simp only;rw [Vd,jI e9,hB]
  ·simp only;rw [jI e9,hr,hB]
 ·have B0:i=l.length:=by omega
  have No:=lm x7 i;rw [<- hB] at No;subst B0;rw [a1o] at hB hr;obtain ⟨bs,q1,c1⟩:=B;simp only at hB No;subst hB hr;refine V.q<|m0 23 (decide ((l.length:Int)<l.length)) false (by simp)<|V.q<|V.c [] (gj (mdS (l.map (·.1))).1 q1 c1 (by omega)) λ_ _=>V.q ?_;unfold mdC;exact V.e ((q,c):Option Addr×Nat) [] trivial
theorem Es (K:Kc) (hK:K.ok) (l:List (In×IA)) (x7:vK l) (ql:Option Addr) (cl:Nat) (pr rg:Int) (ρ:Nat->Nat) (w:World):V (mdC K l ql cl pr rg ρ w) ⟨Em,Sh K l ql cl pr rg ⟨[],none,0,0⟩⟩:=by
 by_cases e9:0<l.length
 ·obtain ⟨i,yC⟩:∃ i:Nat,i=0:=⟨0,rfl⟩;rw [<- yC] at e9;refine V.q<|m0 23 (decide (((0:Nat):Int)<l.length)) true (by rw [yC] at e9; simpa using e9) ?_;subst yC;have lL:=Ke x7 e9;have M7:=V8 lL.2.1;have Jv:=tr lL.2.1;have No:=lm x7 0;refine V.t [] [(0:Int)<=((0:Nat):Int)/\((0:Nat):Int)<l.length] ⟨by omega,by omega⟩<|w4 1 (l.map λe=>L0 (lsP e.1 e.2)) (L0 (lsP (l.getD 0 ixD).1 (l.getD 0 ixD).2)) kq (a1d.2 ⟨_,lL.1,rfl⟩) (H9 (bx _ _))<|w4 0 (lsP (l.getD 0 ixD).1 (l.getD 0 ixD).2) (e8 (C7 (l.getD 0 ixD).1 (l.getD 0 ixD).2)) kq (a0f ..) (l7 _)<|w4 1 (lsP (l.getD 0 ixD).1 (l.getD 0 ixD).2) (e8 (C1 (l.getD 0 ixD).1 (l.getD 0 ixD).2)) kq (a0e _ (a0f ..)) (l7 _)<|w4 2 (lsP (l.getD 0 ixD).1 (l.getD 0 ixD).2) (e8 (E7 (l.getD 0 ixD).1 (l.getD 0 ixD).2)) kq (a0e _ (a0e _ (a0f ..))) (l7 _)<|V.c [(4,false),(2,false),(1,false),(0,false)] (tj K hK (l.getD 0 ixD).1 (l.getD 0 ixD).2 lL.2.2 M7.1 M7.2) λqc _=>V.q<|a1l<|jn [4,8,9,10,13,20,21,22,32,33,34] [false,false,false,false,true,true,true] (Me K l ql cl pr rg ρ w ⟨(J6 (l.getD 0 ixD).1).1,(J6 (l.getD 0 ixD).1).2,qc.1,qc.2⟩ ⟨Jv.2.1,Jv.2.2⟩ 0 [] (a0s _) (λq2 c2=>?_) ⟨[],none,0,0⟩ ⟨a0s _,by simp [shR]⟩) kq kq;refine Bn K l ql cl pr rg ρ w _ Jv.1 0 (by have:=x7.1; omega) _ q2 c2 λB' Vd=>Er K hK l x7 ql cl pr rg ρ w (B',⟨_,q2,c2,0+1⟩) ⟨e9,?_,?_⟩
  ·simp only;rw [Vd,jI e9];rfl
  ·simp only;rw [jI e9];rfl
 ·have hl:l=[]:=List.eq_nil_of_length_eq_zero (by omega);subst hl;refine V.q<|m0 23 (decide (((0:Nat):Int)<(([]:List (In×IA)).length:Int))) false (by simp)<|V.q<|V.c [] oI λ_ _=>V.q ?_;unfold mdC;exact V.e ((none,0):Option Addr×Nat) [] trivial
theorem tt (K:Kc) (hK:K.ok) (l:List (In×IA)) (x7:vK l) (ql:Option Addr) (cl:Nat) (pr rg:Int) :
  CallsK a0a 80 [.agg [.val (.map (some K.gF)),.val (.map (some K.gO))],.one (.int .i64 pr),.one (.int .i64 rg),.one (.val (.slice ql l.length cl))] (mdF K l ql cl) (λ_:Option Addr×Nat=>True) (mdV l pr rg) (rsF (mdS (l.map (·.1))).2):=by
 exact a0j true Tryz.func80 fun ρ w=>V.q<|G4 20 2 (G7 l ql cl false)<|H6 rlv (0,0) 2 3 ⟨[.int .i64 pr,.int .i64 rg,.str [],.val (.slice none 0 0)],49,true⟩ 62 2 kq rfl<|a1l<|jn [4,8,9,10,20,21,22] [true,true,true] (Es K hK l x7 ql cl pr rg ρ w) kq kq
end Go.Proofs
end
section
namespace Go.SX
open Go
section
variable {C:Ctx} {T TR:List Nat} {L:Nat} {c0:Cfg} {d:u7}
theorem Sat.freeze {ρ:Nat->Nat} {s:St} {a:Act} {w:World} (hS:Sat C ρ s a w) (r:Nat) (R:Row) (hR:look s.rows r=some R) (ho:(R.own&&R.obj.isNone)=true):Sat C ρ (s.froze r (P7 C.w0.heap.size C.S (e8 R.lent))) a w:=by
 rw [a0g] at ho;obtain ⟨ho,q8⟩:=ho;have q8:R.obj=none:=by simpa using q8
 obtain ⟨r1,r2,r3⟩:=hS.rows r R hR;have U3:∀ k,R.lent.uses k->R.uses k:=by
  rintro k ⟨ad,h1,h2,h3⟩;refine ⟨ad,h1,h2,.inl ho⟩
 have x7:R.lent.ok w:=⟨r2.len,r2.addr,(λe=>by cases e),(λo e=>by rw [show R.lent.obj=R.obj from rfl,q8] at e; cases e)⟩;have B0:s.W.le (s.froze r (P7 C.w0.heap.size C.S (e8 R.lent))).W:=⟨a0q _,a0q _,λq _ Q hQ=>(j4 hQ).2⟩;refine ⟨hS.n,?_,?_,?_,hS.inj,hS.lt,hS.defers,hS.chg,?_,?_,?_,hS.fix⟩
 ·intro i v hv;simp only [St.froze,M0] at hv;obtain ⟨u,hu,rfl⟩:=a1y.1 hv;obtain ⟨k1,k2⟩:=hS.slots i u hu;exact ⟨by rw [RV.froze_den]; exact k1,RV.froze_wf B0 u k2⟩
 ·intro i g pol b x hv;simp only [St.froze,M0] at hv ⊢;obtain ⟨u,hu,kz⟩:=a1y.1 hv;cases u with
  | grd g' pol' b' x' =>
   simp only [RV.froze,RV.grd.injEq] at kz;obtain ⟨rfl,rfl,rfl,rfl⟩:=kz;obtain ⟨k1,k2⟩:=hS.grds i _ _ _ _ hu;exact ⟨k1,by rw [k2]; rfl⟩
  | v x=>cases kz
  | tup x=>cases kz
 ·intro b blk hb;simp only [St.froze,M0] at hb;obtain ⟨u,hu,rfl⟩:=a1y.1 hb;obtain ⟨k1,k2,k3,k4⟩:=hS.heap b u hu;refine ⟨k1,?_,?_,k4⟩
  ·have:(u.cells.map (SV.froze r)).map (a4m ρ)=u.cells.map (a4m ρ):=by rw [a3q]; exact a2g λx _=>SV.froze_den x
   simp only [this]; exact k2
  ·intro x hx; obtain ⟨y,hy,rfl⟩:=a1d.1 hx; exact SV.froze_wf B0 y (k3 y hy)
 ·intro q Q hQ;obtain ⟨_,h2⟩:=j4 hQ;exact hS.rows q Q h2
 ·intro q q' Q Q' h1 h2;exact hS.rowsD q q' Q Q' (j4 h1).2 (j4 h2).2
 ·intro p hp;rcases a0k.1 hp with rfl | hp
  ·have Z8:∀ k,(e8 R.lent).D k->C.w0.heap.size<=k∨C.S k:=λk hk=>(r3 k (U3 k hk)).2.2 ho;refine ⟨⟨x7,Z8⟩,λw2 bY=>⟨x7.congr bY,Z8⟩,λk hk=>?_⟩;obtain ⟨q1,q2,q3⟩:=r3 k (U3 k hk);refine ⟨q1,q2,λq Q hQ NU hu=>?_⟩;obtain ⟨E0,h2⟩:=j4 hQ;exact hS.rowsD r q R Q hR h2 (λe=>E0 e.symm) ho k (U3 k hk) hu
  ·obtain ⟨p1,p2,p3⟩:=hS.pers p hp;exact ⟨p1,p2,λk hk=>⟨(p3 k hk).1,(p3 k hk).2.1,λq Q hQ=>(p3 k hk).2.2 q Q (j4 hQ).2⟩⟩
theorem VX.freeze (r:Nat) (R:Row) (hR:look d.st.rows r=some R) (ho:(R.own&&R.obj.isNone)=true) (hr:Nat.ble c0.st.nr r=true)
  (h:VX C T TR L c0 ⟨d.fuel,d.listed,d.st.froze r (P7 C.w0.heap.size C.S (e8 R.lent))⟩):VX C T TR L c0 d:=by
 intro D hD a1 a2 a3 a4 a5 a6 hL D4 aT aTR e9 A9 ρ a w hS hρ ib N5 U4 C8;have eQ:c0.st.nr<=r:=Nat.le_of_ble_eq_true hr;refine h D hD a1 a2 a3 a4 a5 a6 hL D4 aT aTR e9 ⟨λq Q hQ=>?_,A9.2.trans' ⟨a0q _,a0q _,λq _ Q hQ=>(j4 hQ).2⟩⟩ ρ a w (hS.freeze r R hR ho) hρ ib N5 U4 C8;have h1:=A9.1 q Q hQ;rw [a3] at hQ;have h2:=e9 q Q (y5 hQ).2;show look (Q6 r d.st.rows) q=some Q;rw [O4 (by omega)];exact h1
end
end Go.SX
end
section
namespace Go.Proofs
open Go Go.SX
def tgS (x:In):List Int:=if x.op=14∨x.op=15 then [x.n] else if x.op=28∨x.op=29 then [x.m] else []
def OJ (n:Int):St:={ noF with heap:=[(0,⟨[.int .i64 n],3,true⟩)],next:=1 }
theorem OK (x:In) (A:IA) (h:x.op=14∨x.op=15):CallsK a0a 136 [.agg (inV x A)] noF (λ_:Unit=>True) (λ_=>ov (.sli 0 1 1)) (λ_=>OJ x.n):=by
 refine a0j true Tryz.func136 fun ρ w=>V.q ?_;by_cases h1:x.op=14
 ·exact m0 5 (x.op==14) true (by simp [h1])<|V.q<|V.z
 ·have h2:x.op=15:=by omega
  exact m0 5 (x.op==14) false (by simp [h2])<|V.q<|m0 5 (x.op==15) true (by simp [h2])<|V.q<|V.z
theorem OL (x:In) (A:IA) (h:x.op=28∨x.op=29):CallsK a0a 136 [.agg (inV x A)] noF (λ_:Unit=>True) (λ_=>ov (.sli 0 1 1)) (λ_=>OJ x.m):=by
 refine a0j true Tryz.func136 fun ρ w=>V.q<|m0 5 (x.op==14) false (by rcases h with h | h<;>simp [h])<|V.q<|m0 5 (x.op==15) false (by rcases h with h | h<;>simp [h])<|V.q ?_;by_cases h1:x.op=28
 ·exact m0 11 (x.op==28) true (by simp [h1])<|V.q<|V.z
 ·have h2:x.op=29:=by omega
  exact m0 11 (x.op==28) false (by simp [h2])<|V.q<|m0 11 (x.op==29) true (by simp [h2])<|V.q<|V.z
theorem OM (x:In) (A:IA) (h:¬ (x.op=14∨x.op=15)) (h':¬ (x.op=28∨x.op=29)):CallsK a0a 136 [.agg (inV x A)] noF (λ_:Unit=>True) (λ_=>ov (.val (.slice none 0 0))) (λ_=>noF):=by
 exact a0j true Tryz.func136 fun ρ w=>V.q<|m0 5 (x.op==14) false (by simp; omega)<|V.q<|m0 5 (x.op==15) false (by simp; omega)<|V.q<|m0 11 (x.op==28) false (by simp; omega)<|V.q<|m0 11 (x.op==29) false (by simp; omega)<|V.q<|V.z
theorem cBs (p:List Int) (q:Option Addr) (c:Nat) (x:Int) (hp:0<p.length) (hl:p.length<4611686018427387904) (hs:p.Pairwise (· <= ·)) :
  CallsK a0a 137 [.one (.val (.slice q p.length c)),.one (.int .i64 x)] (stP [e8 (d5 C6 0 p q c 3 1 false)]) (λ_:Unit=>True) (λ_=>.tup [.one (.int .i64 (p.countP (· < x):Nat)),.one (.sb (p.contains x))]) (λ_=>stP []):=by
 refine fk rfl (fun ρ w S0=>?_);have x7:(d5 C6 0 p q c 3 1 false).ok w:=(S0 _ (a0d.2 rfl)).1;obtain ⟨b,off,h1,h2⟩:=x7.addr hp;have mE:q=some ⟨b,off,none⟩:=h1;subst mE;have h3:=Tryz.slices_BinarySearch_int b off p.length c p x w (a0q _) hl (λj hj=>by
  have h4:w.cell? ⟨b,off+(j*1+0),none⟩=some (SV.den0 (.int .i64 (p.getD j 0))):=h2 j 0 _ hj rfl;rw [Nat.mul_one,Nat.add_zero] at h4;exact h4) (by rw [a1o]; exact hs)
 rw [a1o] at h3;exact h3.mono λe w' ⟨e1,k,e2⟩=>⟨e1,by rw [e2]; exact ri w k⟩
theorem po (rl:List (Int×Int)) (X:RIn):∀ (l:List Fl) (s:RSt×In),j8 X s.1->(rdL rl X l s).2.f.length<=s.2.f.length+16*l.length/\(rdL rl X l s).2.l.length<=s.2.l.length+16*l.length/\(rdL rl X l s).2.y.length<=s.2.y.length+16*l.length
 | [],s,h=>⟨a0q _,a0q _,a0q _⟩
 | f::l,s,h=>by
  have e:rdL rl X (f::l) s=rdL rl X l (if s.1.bad=true then s else f.rd rl X s.1 s.2):=rfl;rw [e,a0p];split
  ·have:=po rl X l s h;omega
  ·have h1:=vB f (rl:=rl) (x:=s.2) h;have:=po rl X l (f.rd rl X s.1 s.2) h1.1;omega
theorem Y0 (n:Int):((n7 n).getD []).length<=7:=by
 unfold n7;split
 ·rename_i h;have:=D7 (p:=λo=>decide ((c6 o).length<=7)) kq (o:=n.toNat) ((p6 _).2 (by omega));simpa using this
 ·exact a0s _
theorem Bp (rl:List (Int×Int)) (X:RIn) (n:Nat) (x7:j8 X ⟨n,false⟩):(t7 rl X n).2.okL:=by
 have h1:=po rl X ((n7 ((f6 X ⟨n,false⟩).1.toNat:Int)).getD []) ((f6 X ⟨n,false⟩).2,f0 ((f6 X ⟨n,false⟩).1.toNat:Int)) (F4 x7);have h2:=Y0 ((f6 X ⟨n,false⟩).1.toNat:Int);have h3:(t7 rl X n).2.f.length<=0+16*_/\(t7 rl X n).2.l.length<=0+16*_/\(t7 rl X n).2.y.length<=0+16*_:=h1;exact ⟨by omega,by omega,by omega⟩
theorem vL {rl:List (Int×Int)} {X:RIn} {n:Nat} (h:B1 rl X n=true):j2 (t7 rl X n).2=true:=by
 unfold B1 at h;rw [a0g] at h;exact h.2
structure Si (X:RIn) (n:Nat) (s:List In×List Int):Prop where
 fine:∀ x∈s.1,j2 x=true/\x.okL
 up:s.2.Pairwise (· <= ·)
 gt:∀ m∈s.2,(n:Int)<m
 len:s.1.length+n<=X.s.length
 same:s.2.length=s.1.length
theorem Et (rl:List (Int×Int)) (X:RIn):∀ (k n:Nat) (s:List In×List Int),j8 X ⟨n,false⟩->tkS rl X k n=some s->Si X n s
 | 0,n,s,_,h=>by cases h
 | k+1,n,s,x7,h=>by
  rw [cR] at h;split at h
  ·rename_i e9;split at h
   ·rename_i hd;obtain ⟨s',N6,rfl⟩:=a1y.1 h;have qt:=eh rl X n x7 e9;have ih:=Et rl X k (t7 rl X n).1.at_ s' ⟨qt.2.1,qt.2.2⟩ N6;refine ⟨λx hx=>?_,List.pairwise_cons.2 ⟨λm hm=>by have:=ih.gt m hm; omega,ih.up⟩,λm hm=>?_,?_,?_⟩
    ·rcases a0k.1 hx with rfl | hx
     ·exact ⟨vL hd,Bp rl X n x7⟩
     ·exact ih.fine x hx
    ·rcases a0k.1 hm with rfl | hm
     ·have:=qt.1; omega
     ·have h1:=ih.gt m hm;have h2:=qt.1;omega
    ·have h1:=ih.len;have h2:=qt.1;simp only [a0p];omega
    ·simp only [a0p,ih.same]
   ·cases h
  ·cases h;refine ⟨λx hx=>absurd hx (a1a),List.Pairwise.nil,λm hm=>absurd hm (a1a),?_,rfl⟩;have:=x7.2;simp only at this;simp only [a1r];omega
theorem ln {rl:List (Int×Int)} {X:RIn} (hs:X.s.length<=1000000000) {s:List In×List Int} (h:B2 rl X=some s):(∀ x∈s.1,j2 x=true/\x.okL)/\s.2.Pairwise (· <= ·)/\0<s.2.length/\s.1.length<=X.s.length/\s.2.length=s.1.length+1:=by
 unfold B2 at h;obtain ⟨s',N6,rfl⟩:=a1y.1 h;have ih:=Et rl X _ 0 s' ⟨hs,a0s _⟩ N6;exact ⟨ih.fine,List.pairwise_cons.2 ⟨λm hm=>by have:=ih.gt m hm; omega,ih.up⟩,Nat.succ_pos _,ih.len,by simp only [a0p,ih.same]⟩
def vdB (X:RIn) (pr rg:Int):Bool:=decide (pr<0)||decide (pr>63)||decide (rg<0)||decide (rg>4000)||decide ((X.s.length:Int)>1048576)
def vdS (rl:List (Int×Int)) (X:RIn) (pr rg:Int):Option (List In×List Int) :=
 if vdB X pr rg=true then none else match B2 rl X with
  | none=>none
  | some s=>if (eqL eqR (mdS s.1).2 rl&&s.1.all (λx=>(tgS x).all (λn=>s.2.contains n)))=true then some s else none
def vdV (t:Option TK):RV:=match t with
 | none=>.tup [.one (.val (.slice none 0 0)),.one (.val (.slice none 0 0)),.one (.sb false)]
 | some t=>.tup [.one (.val (.slice t.q t.l.length t.c)),.one (.val (.slice t.q' t.p.length t.c')),.one (.sb true)]
def vdF (t:Option TK):St:=match t with
 | none=>noF
 | some t=>z8 [M6 t.l,e8 (G7 t.l t.q t.c false),e8 (d5 C6 0 t.p t.q' t.c' 3 1 false)]
def Sj (n0:Nat) (S:Nat->Prop) (t:TK) (i:Nat):St :=
 { n:=88,slots:=[(7,ov (.val (.slice t.q t.l.length t.c))),(8,ov (.val (.slice t.q' t.p.length t.c'))),(63,ov (.row 0 t.q t.l.length t.c)),(64,ov (.int .i64 t.l.length)),(65,ov (.int .i64 (i:Int)))],gs:=[],heap:=[],next:=0,
    rows:=[(0,G7 t.l t.q t.c false)],nr:=1,pers:=[P7 n0 S (e8 (d5 C6 0 t.p t.q' t.c' 3 1 false)),P7 n0 S (e8 (G7 t.l t.q t.c false)),P7 n0 S (M6 t.l)],wr:=true,fx:=0 }
theorem Eu {l:List (In×IA)} {p:List Int} {r:Option (List In×List Int)} {i:Nat} (h:r=if (l.map (·.1)).all (λx=>(tgS x).all (λn=>p.contains n))=true then some (l.map (·.1),p) else none) (hi:i<l.length)
  (hb:(tgS (l.getD i ixD).1).all (λn=>p.contains n)=false):tkP r none:=by
 rw [h,if_neg]
 ·rfl
 ·rw [Bool.not_eq_true,List.all_map];exact dQ hi ixD hb
theorem HY {t:TK} {r:Option (List In×List Int)} (h:r=if (t.l.map (·.1)).all (λx=>(tgS x).all (λn=>t.p.contains n))=true then some (t.l.map (·.1),t.p) else none)
  (hb:t.l.all (λe=>(tgS e.1).all (λn=>t.p.contains n))=true):tkP r (some t):=by
 rw [h,if_pos]
 ·exact ⟨t,rfl,rfl,rfl⟩
 ·rw [List.all_map];exact hb
theorem _root_.Go.SX.V.capLe {C:Ctx} (r:Nat) (R:Row) {c:Cfg} (hR:SX.look c.st.rows r=some R) (ho:R.own=true) (hb:R.obj=none) (h:R.n<=R.cap->V C c):V C c:=by
 intro ρ a w hS;have x7:R.ok w:=(hS.rows r R hR).2.1;obtain ⟨_,h1 | ⟨g,cap,cur,e,_,_,B0,_⟩⟩:=x7.own ho hb
 ·refine h ?_ ρ a w hS;rw [h1.2];exact a0s _
 ·refine h ?_ ρ a w hS;have:R.cap=cap:=(Value.slice.inj e).2.2;rw [this];exact B0
def vM (r:Option (List In×List Int)) (t:Option TK):Prop:=tkP r t/\∀ t',t=some t'->t'.p.length<=t'.c'
theorem cS {r:Option (List In×List Int)} (h:tkP r none):vM r none:=⟨h,λt' e=>by cases e⟩
theorem Bq {r:Option (List In×List Int)} {t:TK} (h:tkP r (some t)) (hc:t.p.length<=t.c'):vM r (some t):=⟨h,λt' e=>by cases e; exact hc⟩
theorem zP (K:Kc) (hK:K.ok) (rl:List (Int×Int)) (X:RIn) (hX:X.n=rl.length) (hl:rl.length<=1000000000) (pr rg:Int) :
  CallsK a0a 71 [.agg [.val (.map (some K.gF)),.val (.map (some K.gO))],.agg [.int .i64 pr,.int .i64 rg,.str X.s,.val (.slice X.q X.n X.c)]] (z8 [cdP K,e8 (j1 rl X.q X.c)]) (vM (vdS rl X pr rg)) vdV vdF:=by
 refine a0j true Tryz.func71 fun ρ w=>V.q<|f9 39 (vdB X pr rg) (λhb=>?_) (λhb=>?_)
 ·exact V.q<|a4o 6 false<|V.e (none:Option TK) [] (cS (by unfold vdS; rw [if_pos hb]; rfl))
 have KP:vdS rl X pr rg=match B2 rl X with
  | none=>none
  | some s=>if (eqL eqR (mdS s.1).2 rl&&s.1.all (λx=>(tgS x).all (λn=>s.2.contains n)))=true then some s else none:=by
  unfold vdS; rw [if_neg (by rw [hb]; decide)]
 have rU:X.s.length<=1048576:=by
  unfold vdB at hb;simp at hb;omega
 refine V.q<|V.callK [(0,false),(1,false)] (Mc K hK rl X hX hl (by omega) pr rg) kq kq kq (λt=>by cases t<;>kernel_rfl) (λt ht=>?_);cases t with
 | none =>
  have J8:B2 rl X=none:=by
   cases h:B2 rl X with
   | none=>rfl
   | some s=>rw [h] at ht; obtain ⟨t',e,_⟩:=ht; cases e
  exact V.q<|V.s 9 (.one (.sb false)) (.one (.bool false)) (λ_=>rfl)<|V.q<|a4o 6 false<|V.e (none:Option TK) [] (cS (by rw [KP,J8]; rfl))
 | some t =>
  obtain ⟨s,ku,NR,Jo⟩:∃ s,B2 rl X=some s/\t.l.map (·.1)=s.1/\t.p=s.2:=by
   cases h:B2 rl X with
   | none=>rw [h] at ht; cases ht
   | some s=>rw [h] at ht; obtain ⟨t',e,h1,h2⟩:=ht; cases e; exact ⟨s,rfl,h1,h2⟩
  obtain ⟨g1,g2,g3,g4,g5⟩:=ln (by omega) ku;rw [<- NR] at g1 g4 g5;rw [<- Jo] at g2 g3 g5;rw [a1k] at g4 g5;have x7:vK t.l:=⟨by omega,λe he=>g1 e.1 (a1d.2 ⟨e,he,rfl⟩)⟩;rw [ku] at KP;obtain ⟨s1,s2⟩:=s;simp only at KP NR Jo;subst NR Jo;refine V.q<|V.s 9 (.one (.sb true)) (.one (.bool true)) (λ_=>rfl)<|V.capLe 1 (d5 C6 0 t.p t.q' t.c' 3 1 true) kq rfl rfl λeN=>a3a 0 (G7 t.l t.q t.c true) kq kq<|a3a 1 (d5 C6 0 t.p t.q' t.c' 3 1 true) kq kq<|p9 [] [] 16 kq<|@a1z _ [] [] 16 _ _ ([]:List (Ent a0a)) [] kq kq trivial<|@a5u _ [] [] 16 _ _ (Option Addr×Nat) 80 [.agg [.val (.map (some K.gF)),.val (.map (some K.gO))],.one (.int .i64 pr),.one (.int .i64 rg),.one (.val (.slice t.q t.l.length t.c))] (mdF K t.l t.q t.c) _ _ _ [(3,false),(2,true),(1,true)] (tt K hK t.l x7 t.q t.c pr rg) kq kq kq (λ_=>kq) λqc _=>@a1z _ [] [] 16 _ _ ([]:List (Ent a0a)) [] kq kq trivial ?_;have yy:=gA (t.l.map (·.1)) (λx hx=>(g1 x hx).1);rw [a1k] at yy;refine @VX.freeze _ [] [] 16 _ _ 2 (d5 rlv (0,0) (mdS (t.l.map (·.1))).2 qc.1 qc.2 62 2 true) kq kq kq<|@a5u _ [] [] 16 _ _ Unit 36 [.one (.val (.slice qc.1 (mdS (t.l.map (·.1))).2.length qc.2)),.one (.val (.slice X.q X.n X.c))] (z8 [e8 (d5 rlv (0,0) (mdS (t.l.map (·.1))).2 qc.1 qc.2 62 2 false),e8 (d5 rlv (0,0) rl X.q X.c 62 2 false)]) _ _ _ [(0,true),(5,false)] ((LG (mdS (t.l.map (·.1))).2 rl qc.1 X.q qc.2 X.c (by omega)).args _ (fun ρ=>by rw [hX])) kq kq kq (λ_=>kq) λ_ _=>@a1z _ [] [] 16 _ _ ([]:List (Ent a0a)) [] kq kq trivial<|@o7 _ [] [] 16 _ _ kq<|V.q<|f9 62 (!(eqL eqR (mdS (t.l.map (·.1))).2 rl)) (λhe=>?_) (λhe=>?_)
  ·exact V.q<|a4o 6 false<|V.e (none:Option TK) [] (cS (by
    have Gw:eqL eqR (mdS (t.l.map (·.1))).2 rl=false:=by simpa using he
    rw [KP,Gw,a6r]; rfl))
  have Gw:eqL eqR (mdS (t.l.map (·.1))).2 rl=true:=by simpa using he
  rw [Gw,a5a] at KP;refine V.q<|G2 2 true (G7 t.l t.q t.c false)<|G4 63 0 (G7 t.l t.q t.c false)<|j6 [7,8,63,64,65] [false,false,true,true,true] (λi:Nat=>t.l.length - i) (Sj w.heap.size (n6 ρ (z8 [cdP K,e8 (j1 rl X.q X.c)])) t) (λi=>i<=t.l.length/\(t.l.take i).all (λe=>(tgS e.1).all (λn=>t.p.contains n))=true) 0 kq ⟨a0s _,rfl⟩ (λi hi ih=>?_);obtain ⟨hi,q7⟩:=hi;refine a1l ?_;by_cases e9:i<t.l.length
  ·refine V.q<|m0 66 (decide ((i:Int)<t.l.length)) true (by simpa using e9)<|V.t [] [(0:Int)<=i/\(i:Int)<t.l.length] ⟨by omega,by omega⟩ ?_;by_cases hA:(t.l.getD i ixD).1.op=14∨(t.l.getD i ixD).1.op=15
   ·have Ck:tgS (t.l.getD i ixD).1=[(t.l.getD i ixD).1.n]:=by unfold tgS; rw [if_pos hA]
    refine V.c [] (OK (t.l.getD i ixD).1 (t.l.getD i ixD).2 hA) λ_ _=>V.q<|a1l<|V.q<|m0 73 (decide ((0:Int)<((1:Nat):Int))) true (by decide)<|V.t [] [(0:Int)<=0/\(0:Int)<((1:Nat):Int)] ⟨by decide,by decide⟩<|V.c [(0,true)] (cBs t.p t.q' t.c' (t.l.getD i ixD).1.n g3 (by omega) g2) λ_ _=>V.q<|f9 83 (!(t.p.contains (t.l.getD i ixD).1.n)) (λhc=>?_) (λhc=>?_)
    ·exact V.q<|a4o 6 false<|V.e (none:Option TK) [] (cS (Eu KP e9 (by rw [Ck]; simpa using hc)))
    ·exact V.q<|a1l<|V.q<|m0 73 (decide (a0h.wrap ((0:Int)+1)<((1:Nat):Int))) false (by decide)<|V.q<|a3v 65 i (by omega)<|d9 [7,8,63,64,65] [true,true,true] (ih (i+1) ⟨e9,K3 e9 ixD q7 (by rw [Ck]; simpa using hc)⟩ (by omega)) kq kq
   by_cases hB:(t.l.getD i ixD).1.op=28∨(t.l.getD i ixD).1.op=29
   ·have Ck:tgS (t.l.getD i ixD).1=[(t.l.getD i ixD).1.m]:=by unfold tgS; rw [if_neg hA,if_pos hB]
    refine V.c [] (OL (t.l.getD i ixD).1 (t.l.getD i ixD).2 hB) λ_ _=>V.q<|a1l<|V.q<|m0 73 (decide ((0:Int)<((1:Nat):Int))) true (by decide)<|V.t [] [(0:Int)<=0/\(0:Int)<((1:Nat):Int)] ⟨by decide,by decide⟩<|V.c [(0,true)] (cBs t.p t.q' t.c' (t.l.getD i ixD).1.m g3 (by omega) g2) λ_ _=>V.q<|f9 83 (!(t.p.contains (t.l.getD i ixD).1.m)) (λhc=>?_) (λhc=>?_)
    ·exact V.q<|a4o 6 false<|V.e (none:Option TK) [] (cS (Eu KP e9 (by rw [Ck]; simpa using hc)))
    ·exact V.q<|a1l<|V.q<|m0 73 (decide (a0h.wrap ((0:Int)+1)<((1:Nat):Int))) false (by decide)<|V.q<|a3v 65 i (by omega)<|d9 [7,8,63,64,65] [true,true,true] (ih (i+1) ⟨e9,K3 e9 ixD q7 (by rw [Ck]; simpa using hc)⟩ (by omega)) kq kq
   ·have Ck:tgS (t.l.getD i ixD).1=[]:=by unfold tgS; rw [if_neg hA,if_neg hB]
    exact V.c [] (OM (t.l.getD i ixD).1 (t.l.getD i ixD).2 hA hB) λ_ _=>V.q<|a1l<|V.q<|m0 73 (decide ((0:Int)<((0:Nat):Int))) false (by decide)<|V.q<|a3v 65 i (by omega)<|d9 [7,8,63,64,65] [true,true,true] (ih (i+1) ⟨e9,K3 e9 ixD q7 (by rw [Ck]; rfl)⟩ (by omega)) kq kq
  ·have B0:t.l.length=i:=by omega
   exact V.q<|m0 66 (decide ((i:Int)<t.l.length)) false (by simpa using e9)<|V.q<|a4o 6 true<|V.e (some t:Option TK) [(2,true),(1,true),(0,true)] (Bq (HY KP (by rw [<- B0,a1o] at q7; exact q7)) eN)
theorem xR (K:Kc) (hK:K.ok) (rl:List (Int×Int)) (X:RIn) (hX:X.n=rl.length) (hl:rl.length<=1000000000) (hs:X.s.length<=100000000) (pr rg:Int) :
  CallsK a0a 71 [.agg [.val (.map (some K.gF)),.val (.map (some K.gO))],.agg [.int .i64 pr,.int .i64 rg,.str X.s,.val (.slice X.q X.n X.c)]] (z8 [cdP K,e8 (j1 rl X.q X.c)]) (vM (vdS rl X pr rg)) vdV vdF:=zP K hK rl X hX hl pr rg
def aOf (g1 g2 g3 g4 g5 g6 g7 g8 g9 g10 g11 g12 g13 g14 g15 g16 g17 g18 g19 g20:Nat->Nat) (f:Fl):Nat->Nat:=match f with
 | .D=>g1
 | .A=>g2
 | .B=>g3
 | .N=>g4
 | .M=>g5
 | .P=>g6
 | .T=>g7
 | .U=>g8
 | .W=>g9
 | .V=>g10
 | .L=>g11
 | .Y=>g12
 | .F=>g13
 | .Sz=>g14
 | .Rg=>g15
 | .aN=>g16
 | .aM=>g17
 | .pN=>g18
 | .pM=>g19
 | .far=>g20
def feL (a:Fl->Nat->Nat):Nat->List Fl->List MapEntry
 | _,[]=>[]
 | i,f::l=>{ key:=.string ⟨f.name.toArray⟩,val:=HN f (a f),born:=i }::feL a (i+1) l
def lnL:Nat->Nat->List MapEntry
 | 0,_=>[]
 | n+1,i=>{ key:=.int .i64 ((i+1:Nat):Int),val:=.string ⟨(O7 (i+1)).toArray⟩,born:=i }::lnL n (i+1)
def lq:Array MapEntry:=(lnL 38 0).toArray
theorem tu:∀ {n i:Nat} {e:MapEntry},e∈lnL n i->∃ o,i+1<=o/\o<=i+n/\e={ key:=.int .i64 ((o:Nat):Int),val:=.string ⟨(O7 o).toArray⟩,born:=o - 1 }
 | 0,i,e,h=>by simp [lnL] at h
 | n+1,i,e,h=>by
  simp only [lnL,a0k] at h;rcases h with rfl | h
  ·exact ⟨i+1,a0q _,by omega,rfl⟩
  ·obtain ⟨o,h1,h2,h3⟩:=tu h;exact ⟨o,by omega,by omega,h3⟩
theorem zQ:∀ {n i o:Nat},i+1<=o->o<=i+n->({ key:=.int .i64 ((o:Nat):Int),val:=.string ⟨(O7 o).toArray⟩,born:=o - 1 }:MapEntry)∈lnL n i
 | 0,i,o,h1,h2=>by omega
 | n+1,i,o,h1,h2=>by
  simp only [lnL,a0k];by_cases e:o=i+1
  ·subst e; exact .inl rfl
  ·exact .inr (zQ (by omega) (by omega))
theorem Br {o:Nat} (ho:F8 o=true):CallsK a0a 114 [.one (.str (O7 o))] H0 (λ_:Nat=>True)
  (λg=>ov (.row 0 (some ⟨g,0,none⟩) (u5 o).length (u5 o).length)) (λg=>{ n:=0,slots:=[],gs:=[],heap:=[],next:=0,rows:=[(0,d5 z7 [] (u5 o) (some ⟨g,0,none⟩) (u5 o).length 9 1 true)],nr:=1,pers:=[],wr:=false }):=by
 obtain ⟨h1,h2,h3⟩:=Bi ho;have:=Hw (O7 o) h1 h2 h3
 rwa [vx ho] at this
def Kf (a:Fl->Nat->Nat):List m6:=Fl.all.flatMap λf=>ck (a f) f.bl 0
def tv (g:Nat) (a:Fl->Nat->Nat):m6:=L0 (jr g (.map (feL a 0 Fl.all).toArray 20)::Kf a)
theorem Bs (g:Nat) (a:Fl->Nat->Nat):dE (tv g a):=H9 λp hp=>by
 rcases a0k.1 hp with rfl | hp
 ·exact gi _ _
 ·obtain ⟨f,_,hp⟩:=List.mem_flatMap.1 hp;exact kQ p hp
theorem _root_.Go.SX.Sat.objN {C:Ctx} {ρ:Nat->Nat} {s:St} {a:Act} {w:World} {n0:Nat} {S:Nat->Prop} {g:Nat} {o:Obj} (h:Sat C ρ s a w) (i:Nat) (hp:s.pers[i]?=some (P7 n0 S (jr g o))):w.heap[g]?=some o :=
 (h.pers _ (a0v hp)).1.1
theorem Bt:(lq.toList.map (·.born)).Nodup:=by
 have:lq.toList.map (·.born)=a2f 38:=kq;rw [this];exact List.nodup_range
theorem Ev:∀ x∈lq.toList,x.born<38:=by
 intro x hx;obtain ⟨o,h1,h2,rfl⟩:=tu (n:=38) (i:=0) hx;show o - 1<38;omega
def pp (done:List Nat):List Nat:=(a2f 38).filter λi=>!(done.contains (i+1))
theorem Ew {done:List Nat} {o:Nat} (ho:F8 o=true) (hn:o ∉ done):(pp (done++[o])).length<(pp done).length:=by
 have h1:=(p6 o).1 ho;have e:pp (done++[o])=(pp done).filter λi=>!(i+1==o):=by
  unfold pp;rw [List.filter_filter];apply List.filter_congr;intro i _;cases h:(i+1==o)<;>simp_all
 rw [e];refine List.length_filter_lt_length_iff_exists.2 ⟨o - 1,?_,?_⟩
 ·unfold pp;rw [List.mem_filter];refine ⟨a3f.2 (by omega),?_⟩;rw [show o - 1+1=o by omega];simpa using hn
 ·rw [show o - 1+1=o by omega];simp
theorem zR {seen:Array Nat} {e:MapEntry} (h:e∈(leftOf lq seen).toList):e∈lq.toList:=by
 unfold leftOf at h;simp only [Array.toList_filter,List.mem_filter] at h;exact h.1
theorem Ex {done:List Nat} {e:MapEntry} (h:e∈(leftOf lq (done.map (· - 1)).toArray).toList):∃ o,F8 o=true/\o ∉ done/\e={ key:=.int .i64 ((o:Nat):Int),val:=.string ⟨(O7 o).toArray⟩,born:=o - 1 }:=by
 have h2:=zR h;unfold leftOf at h;simp only [Array.toList_filter,List.mem_filter] at h;obtain ⟨o,h3,h4,rfl⟩:=tu (n:=38) (i:=0) h2;refine ⟨o,(p6 o).2 ⟨by omega,by omega⟩,λhm=>?_,rfl⟩;have h5:=h.2;have h6:(done.map (· - 1)).toArray.contains (o - 1)=true:=by
  simp only [List.contains_toArray,List.contains_iff_mem,a1d];exact ⟨o,hm,rfl⟩
 rw [h6] at h5;cases h5
theorem Bu {done:List Nat} (lQ:done.Nodup) (NT:∀ o∈done,F8 o=true) (h:(leftOf lq (done.map (· - 1)).toArray).size=0) (o:Nat):o∈done↔F8 o=true:=by
 refine ⟨NT o,λho=>?_⟩;have h1:=(p6 o).1 ho;have h2:=zQ (n:=38) (i:=0) (o:=o) (by omega) (by omega);have h3:leftOf lq (done.map (· - 1)).toArray=#[]:=Array.eq_empty_of_size_eq_zero h;unfold leftOf at h3;rw [Array.filter_eq_empty_iff] at h3;have h4:=h3 _ (Array.mem_toList_iff.1 h2);simp only [List.contains_toArray,Bool.not_eq_true,Bool.not_eq_false',List.contains_iff_mem,a1d] at h4;obtain ⟨o',h5,h6⟩:=h4;have h7:=(p6 o').1 (NT o' h5)
 rwa [show o=o' by omega]
theorem Ey (a:Fl->Nat->Nat) (f:Fl):∃ i,Instr.findNow .string (.string ⟨f.name.toArray⟩) (feL a 0 Fl.all).toArray.toList 0=some (some (i,HN f (a f))):=by
 cases f
 ·exact ⟨0,kq⟩
 ·exact ⟨1,kq⟩
 ·exact ⟨2,kq⟩
 ·exact ⟨3,kq⟩
 ·exact ⟨4,kq⟩
 ·exact ⟨5,kq⟩
 ·exact ⟨6,kq⟩
 ·exact ⟨7,kq⟩
 ·exact ⟨8,kq⟩
 ·exact ⟨9,kq⟩
 ·exact ⟨10,kq⟩
 ·exact ⟨11,kq⟩
 ·exact ⟨12,kq⟩
 ·exact ⟨13,kq⟩
 ·exact ⟨14,kq⟩
 ·exact ⟨15,kq⟩
 ·exact ⟨16,kq⟩
 ·exact ⟨17,kq⟩
 ·exact ⟨18,kq⟩
 ·exact ⟨19,kq⟩
theorem Bv (gF gO:Nat) (a:Fl->Nat->Nat) (q:Nat->Nat) (done:List Nat) (q7:∀ o,o∈done↔F8 o=true) :
  (∀ k,(cdP ⟨gF,gO,a,q,(feL a 0 Fl.all).toArray,20,(esL q 0 done).toArray,done.length⟩).D k->∃ p∈[jr gO (.map (esL q 0 done).toArray done.length),eJ done q,tv gF a],p.D k) /\
  (∀ w,(∀ p∈[jr gO (.map (esL q 0 done).toArray done.length),eJ done q,tv gF a],p.φ w)->(cdP ⟨gF,gO,a,q,(feL a 0 Fl.all).toArray,20,(esL q 0 done).toArray,done.length⟩).φ w):=by
 have QJ:∀ p∈((a2f 38).map (· + 1)).map (λo=>e8 (D8 o (q o))),p∈done.map (λo=>e8 (D8 o (q o))):=by
  intro p hp;obtain ⟨o,ho,rfl⟩:=a1d.1 hp;obtain ⟨i,hi,rfl⟩:=a1d.1 ho;exact a1d.2 ⟨i+1,(q7 _).2 ((p6 _).2 ⟨by omega,by have:=a3f.1 hi; omega⟩),rfl⟩
 refine ⟨λk hk=>?_,λw hw p hp=>?_⟩
 ·obtain ⟨p,hp,G0⟩:=hk;rcases a2s.1 hp with hp | hp
  ·simp only [a0k,a1a,or_false] at hp;rcases hp with rfl|rfl|rfl
   ·exact ⟨tv gF a,by simp,_,a0f ..,G0⟩
   ·exact ⟨_,a0f ..,G0⟩
   ·obtain ⟨p',ko,R5⟩:=G0;exact ⟨eJ done q,by simp,p',QJ p' ko,R5⟩
  ·exact ⟨tv gF a,by simp,p,a0e _ hp,G0⟩
 ·have w1:=hw _ (a0f ..);have w2:=hw _ (a0e _ (a0f ..));have w3:=hw _ (a0e _ (a0e _ (a0f ..)));rcases a2s.1 hp with hp | hp
  ·simp only [a0k,a1a,or_false] at hp;rcases hp with rfl|rfl|rfl
   ·exact w3 _ (a0f ..)
   ·exact w1
   ·exact λp' ko=>w2 p' (QJ p' ko)
  ·exact w3 p (a0e _ hp)
structure LI where
 done:List Nat
 q:Nat->Nat
def Mg (n0:Nat) (S:Nat->Prop) (gF gO gL it:Nat) (a:Fl->Nat->Nat) (j:LI):St :=
 { n:=58,slots:=[(0,ov (.ptr 0 0)),(7,ov (.ptr 1 0)),(46,ov (.val (.pointer (some ⟨it,0,none⟩))))],gs:=[],
    heap:=[(0,⟨[.val (.map none),.val (.map none)],110,true⟩),(1,⟨[.val (.map (some gF)),.val (.map (some gO))],110,true⟩)],next:=2,
    rows:=[(0,G3 gO (.map (esL j.q 0 j.done).toArray j.done.length)),(1,G3 it (.mapIter (some gL) 38 (j.done.map (· - 1)).toArray 38))],nr:=2,
    pers:=[P7 n0 S (eJ j.done j.q),P7 n0 S (tv gF a),P7 n0 S (jr gL (.map lq 38)),j7],wr:=true,fx:=0 }
theorem Ez (q:Nat->Nat) (o gw:Nat) (done:List Nat) (J8:o ∉ done):(esL q 0 done).toArray.push { key:=.int .i64 (o:Int),val:=fy o gw,born:=done.length }=(esL (λx=>if x=o then gw else q x) 0 (done++[o])).toArray:=by
 rw [vy,ry (q:=λx=>if x=o then gw else q x) (q':=q) (λx hx=>if_neg (λe:x=o=>J8 (e▸hx)))];simp
theorem Bw (q:Nat->Nat) (o gw:Nat) (done:List Nat) (J8:o ∉ done) :
  (∀ k,(eJ (done++[o]) (λx=>if x=o then gw else q x)).D k->∃ p∈[e8 (D8 o gw),eJ done q],p.D k) /\
  (∀ w,(∀ p∈[e8 (D8 o gw),eJ done q],p.φ w)->(eJ (done++[o]) (λx=>if x=o then gw else q x)).φ w):=by
 have key:∀ p∈(done++[o]).map (λx=>e8 (D8 x (if x=o then gw else q x))),p=e8 (D8 o gw)∨p∈done.map (λx=>e8 (D8 x (q x))):=by
  intro p hp;obtain ⟨x,hx,rfl⟩:=a1d.1 hp;rcases a2s.1 hx with hx | hx
  ·right
   rw [if_neg (λe:x=o=>J8 (e▸hx))];exact a1d.2 ⟨x,hx,rfl⟩
  ·left
   rw [a0d.1 hx,if_pos rfl]
 refine ⟨λk hk=>?_,λw hw p hp=>?_⟩
 ·obtain ⟨p,hp,G0⟩:=hk;rcases key p hp with rfl | h
  ·exact ⟨_,a0f ..,G0⟩
  ·exact ⟨eJ done q,by simp,p,h,G0⟩
 ·rcases key p hp with rfl | h
  ·exact hw _ (a0f ..)
  ·exact hw _ (a0e _ (a0f ..)) p h
theorem zS {g:Nat->Nat}:∀ {l:List (List SV×TypeId)} {i j:Nat},j<l.length->∃ cells e,r9 (g (i+j)) cells e∈ck g l i
 | (cells,e)::l,i,0,_=>⟨cells,e,a0f ..⟩
 | (cells,e)::l,i,j+1,h=>by
  obtain ⟨c',e',hm⟩:=zS (g:=g) (l:=l) (i:=i+1) (j:=j) (by simpa using h);refine ⟨c',e',a0e _ ?_⟩
  rwa [show i+1+j=i+(j+1) by omega] at hm
theorem ON {C:Ctx} {ρ ρ0:Nat->Nat} {s:St} {a':Act} {w w0:World} {gF:Nat} {a:Fl->Nat->Nat} (h12:12<=w0.heap.size) (hS:Sat C ρ s a' w) (hp:P7 w0.heap.size (n6 ρ0 H0) (tv gF a)∈s.pers) (f:Fl) (j:Nat) (hj:j<f.bl.length):12<=a f j:=by
 obtain ⟨cells,e,hm⟩:=zS (g:=a f) (i:=0) hj;rw [Nat.zero_add] at hm;have h1:=(hS.pers _ hp).1.2 (a f j) ⟨_,a0e _ (List.mem_flatMap.2 ⟨f,f.mem_all,hm⟩),rfl⟩;rcases h1 with h1 | ⟨b,blk,hb,_⟩ | ⟨r,R,hR,_⟩
 ·omega
 ·cases hb
 ·cases hR
def hU:Nat->List Item->List Item
 | 0,k=>k
 | n+1,k=>match k with
  | .code (.seq a b)::k=>hU n (.code a::.code b::k)
  | .code (.block id body)::k=>hU n (.code body::.inBlock id::k)
  | .code (.scope body)::k=>hU n (.code body::.inScope body::k)
  | .code (.region _ _ _)::k=>hU n k
  | .code .skip::k=>hU n k
  | .code (.label _)::k=>hU n k
  | .inBlock _::k=>hU n k
  | .inScope _::k=>hU n k
  | .code (.loop b)::k=>.code b::.inLoop b::k
  | k=>k
def OO:List Item:=hU 100 [.code (I5 Tryz.f58)]
theorem Bx (ρ0:Nat->Nat) (w0:World) (gF gO gL it:Nat) (a:Fl->Nat->Nat) (h12:12<=w0.heap.size) (j0:LI) (hj0:j0.done.Nodup/\∀ o∈j0.done,F8 o=true) :
  V ⟨a0a,58,N9 ρ0 H0 Kc.ok Kc.val (λK=>z8 [cdP K]) w0,n6 ρ0 H0,w0,ρ0,none⟩ ⟨OO,Mg w0.heap.size (n6 ρ0 H0) gF gO gL it a j0⟩:=by
 refine C0 (c:=⟨OO,Mg w0.heap.size (n6 ρ0 H0) gF gO gL it a j0⟩) [0,7,46] [0,1] [0,1] [true,true,true,true] (λj:LI=>(pp j.done).length) (Mg w0.heap.size (n6 ρ0 H0) gF gO gL it a) (λj=>j.done.Nodup/\∀ o∈j.done,F8 o=true) j0 kq hj0 (λj hj ih=>?_);obtain ⟨done,q⟩:=j;obtain ⟨lQ,NT⟩:=hj;simp only at lQ NT ih;refine V.q<|V.next it 1 gL 38 38 38 (done.map (· - 1)).toArray lq kq kq (fun ρ a w hS=>hS.objN (n0:=w0.heap.size) (S:=n6 ρ0 H0) 2 kq) Ev (a0q _) kq (λe he=>kq) (λC8=>?_) (λe he=>?_)
 ·have q7:=Bu lQ NT C8;refine V.q<|bR 0 gO (.map (esL q 0 done).toArray done.length) kq ?_;obtain ⟨b1,b2⟩:=Bv gF gO a q done q7;exact B3 [(0,true),(1,true),(2,true)] [jr gO (.map (esL q 0 done).toArray done.length),eJ done q,tv gF a] (cdP ⟨gF,gO,a,q,(feL a 0 Fl.all).toArray,20,(esL q 0 done).toArray,done.length⟩) kq kq b1 b2 (oY _)<|Ld (fun ρ a' w hS=>ON (ρ0:=ρ0) (w0:=w0) (gF:=gF) (a:=a) h12 hS (a0v (i:=3) kq)) λVf=>V.e (⟨gF,gO,a,q,(feL a 0 Fl.all).toArray,20,(esL q 0 done).toArray,done.length⟩:Kc) [(0,true)] ⟨Vf,Ey _,done,lQ,q7,rfl,rfl⟩
 ·obtain ⟨o,f7,J8,Ri⟩:=Ex he;have Wx:(done.map (· - 1)).toArray.push e.born=((done++[o]).map (· - 1)).toArray:=by rw [Ri]; simp
  refine V.q<|V.entry it 1 gL 38 38 (done.map (· - 1)).toArray lq e kq kq (fun ρ a w hS=>hS.objN (n0:=w0.heap.size) (S:=n6 ρ0 H0) 2 kq) (zR he) Bt kq ?_;rw [Wx];subst Ri;refine V.q<|V.s 8 (.one (.val (.int .i64 (o:Int)))) (.one (.int .i64 (o:Int))) (λ_=>rfl)<|V.s 9 (.one (.val (.string ⟨(O7 o).toArray⟩))) (.one (.str (O7 o))) (λ_=>rfl)<|p9 [] [0] 5 kq<|@a1z _ [] [0] 5 _ _ ([]:List (Ent a0a)) [] kq kq trivial<|@a5u _ [] [0] 5 _ _ Nat 114 [.one (.str (O7 o))] H0 _ _ _ [(3,false)] (Br f7) kq kq kq (λ_=>kq) λgw _=>@a1z _ [] [0] 5 _ _ ([]:List (Ent a0a)) [] kq kq trivial<|@VX.insert _ [] [0] 5 _ _ 108 3 118 (.int .i64) gO 0 (.one (.int .i64 (o:Int))) (.one (.row 2 (some ⟨gw,0,none⟩) (u5 o).length (u5 o).length)) (.int .i64 (o:Int)) (fy o gw) (esL q 0 done).toArray done.length kq kq kq kq kq kq (λ_=>rfl) (λ_=>rfl)
   (cm (λo' ky=>by have:o'≠o:=(λe=>J8 (e▸ky)); omega)) kq ?_
  rw [Ez q o gw done J8,show done.length+1=(done++[o]).length by simp];refine a3a 2 (d5 z7 [] (u5 o) (some ⟨gw,0,none⟩) (u5 o).length 9 1 true) kq kq ?_;obtain ⟨b1,b2⟩:=Bw q o gw done J8;refine B3 [(0,true),(1,true)] [e8 (D8 o gw),eJ done q] (eJ (done++[o]) (λx=>if x=o then gw else q x)) kq kq b1 b2 (aQ _ _)<|V.q<|a1l<|s5 [0,7,46] [0,1] [0,1] [true,false,false,true,true,true] (ih ⟨done++[o],λx=>if x=o then gw else q x⟩ ⟨?_,?_⟩ (Ew f7 J8)) kq kq
  ·exact List.nodup_append.2 ⟨lQ,by simp,λx hx y hy=>by rw [a0d.1 hy]; exact λe=>J8 (e▸hx)⟩
  ·intro x hx;rcases a2s.1 hx with hx | hx
   ·exact NT x hx
   ·rw [a0d.1 hx]; exact f7
theorem fC:CallsK a0a 58 [] H0 Kc.ok Kc.val (λK=>z8 [cdP K]):=by
 refine xN true Tryz.func58 kq kq fun ρ0 w0 WX=>V.q<|mK 107 kq (λ_=>kq) λgF=>V.q<|V.c [] ((lf 92).args [.one (.fn 92 [])] (λ_=>rfl)) λg1 _=>a5w [] 0 1 [] [(gF,gF)] kq kq trivial (λp hp=>by rw [a0d.1 hp])<|V.q<|V.c [] ((lf 93).args [.one (.fn 93 [])] (λ_=>rfl)) λg2 _=>a5w [] 0 1 [] [(gF,gF)] kq kq trivial (λp hp=>by rw [a0d.1 hp])<|V.q<|V.c [] ((lf 94).args [.one (.fn 94 [])] (λ_=>rfl)) λg3 _=>a5w [] 0 1 [] [(gF,gF)] kq kq trivial (λp hp=>by rw [a0d.1 hp])<|V.q<|V.c [] ((tf 95).args [.one (.fn 95 [])] (λ_=>rfl)) λg4 _=>a5w [] 0 1 [] [(gF,gF)] kq kq trivial (λp hp=>by rw [a0d.1 hp])<|V.q<|V.c [] ((tf 96).args [.one (.fn 96 [])] (λ_=>rfl)) λg5 _=>a5w [] 0 1 [] [(gF,gF)] kq kq trivial (λp hp=>by rw [a0d.1 hp])<|V.q<|V.c [] ((tf 97).args [.one (.fn 97 [])] (λ_=>rfl)) λg6 _=>a5w [] 0 1 [] [(gF,gF)] kq kq trivial (λp hp=>by rw [a0d.1 hp])<|V.q<|V.c [] ((xK 101).args [.one (.fn 101 [])] (λ_=>rfl)) λg7 _=>a5w [] 0 1 [] [(gF,gF)] kq kq trivial (λp hp=>by rw [a0d.1 hp])<|V.q<|V.c [] ((xK 102).args [.one (.fn 102 [])] (λ_=>rfl)) λg8 _=>a5w [] 0 1 [] [(gF,gF)] kq kq trivial (λp hp=>by rw [a0d.1 hp])<|V.q<|V.c [] ((xK 103).args [.one (.fn 103 [])] (λ_=>rfl)) λg9 _=>a5w [] 0 1 [] [(gF,gF)] kq kq trivial (λp hp=>by rw [a0d.1 hp])<|V.q<|V.c [] (LN) λg10 _=>a5w [] 0 1 [] [(gF,gF)] kq kq trivial (λp hp=>by rw [a0d.1 hp])<|V.q<|V.c [] (OE) λg11 _=>a5w [] 0 1 [] [(gF,gF)] kq kq trivial (λp hp=>by rw [a0d.1 hp])<|V.q<|V.c [] (LP) λg12 _=>a5w [] 0 1 [] [(gF,gF)] kq kq trivial (λp hp=>by rw [a0d.1 hp])<|V.q<|V.c [] (DV) λg13 _=>a5w [] 0 1 [] [(gF,gF)] kq kq trivial (λp hp=>by rw [a0d.1 hp])<|V.q<|V.c [] ((JW 109).args [.one (.fn 109 [])] (λ_=>rfl)) λg14 _=>a5w [] 0 1 [] [(gF,gF)] kq kq trivial (λp hp=>by rw [a0d.1 hp])<|V.q<|V.c [] ((JW 110).args [.one (.fn 110 [])] (λ_=>rfl)) λg15 _=>a5w [] 0 1 [] [(gF,gF)] kq kq trivial (λp hp=>by rw [a0d.1 hp])<|V.q<|V.c [] ((DU 95).args [.one (.fn 95 [])] (λ_=>rfl)) λg16 _=>a5w [] 0 1 [] [(gF,gF)] kq kq trivial (λp hp=>by rw [a0d.1 hp])<|V.q<|V.c [] ((DU 96).args [.one (.fn 96 [])] (λ_=>rfl)) λg17 _=>a5w [] 0 1 [] [(gF,gF)] kq kq trivial (λp hp=>by rw [a0d.1 hp])<|V.q<|V.c [] ((JX 95 false).args [.one (.fn 95 []),.one (.bool false)] (λ_=>rfl)) λg18 _=>a5w [] 0 1 [] [(gF,gF)] kq kq trivial (λp hp=>by rw [a0d.1 hp])<|V.q<|V.c [] ((JX 96 true).args [.one (.fn 96 []),.one (.bool true)] (λ_=>rfl)) λg19 _=>a5w [] 0 1 [] [(gF,gF)] kq kq trivial (λp hp=>by rw [a0d.1 hp])<|V.q<|V.c [] (RZ) λg20 _=>a5w [] 0 1 [] [(gF,gF)] kq kq trivial (λp hp=>by rw [a0d.1 hp])<|V.q<|mK 108 kq (λ_=>kq) λgO=>V.q<|mK 86 kq (λ_=>kq) λgL=>a5w [] 2 38 [] (List.replicate 38 (gL,gL)) kq kq trivial (λp hp=>by rw [List.eq_of_mem_replicate hp])<|V.q<|bR 2 gL (.map lq 38) kq<|bR 0 gF (.map (feL (aOf g1 g2 g3 g4 g5 g6 g7 g8 g9 g10 g11 g12 g13 g14 g15 g16 g17 g18 g19 g20) 0 Fl.all).toArray 20) kq<|B3 [(0,true),(42,true),(43,true),(40,true),(41,true),(38,true),(39,true),(37,true),(36,true),(35,true),(34,true),(33,true),(32,true),(26,true),(27,true),(28,true),(29,true),(30,true),(31,true),(20,true),(21,true),(22,true),(23,true),(24,true),(25,true),(14,true),(15,true),(16,true),(17,true),(18,true),(19,true),(13,true),(12,true),(10,true),(11,true),(8,true),(9,true),(5,true),(6,true),(7,true),(2,true),(3,true),(4,true)] (jr gF (.map (feL (aOf g1 g2 g3 g4 g5 g6 g7 g8 g9 g10 g11 g12 g13 g14 g15 g16 g17 g18 g19 g20) 0 Fl.all).toArray 20)::Kf (aOf g1 g2 g3 g4 g5 g6 g7 g8 g9 g10 g11 g12 g13 g14 g15 g16 g17 g18 g19 g20)) (tv gF (aOf g1 g2 g3 g4 g5 g6 g7 g8 g9 g10 g11 g12 g13 g14 g15 g16 g17 g18 g19 g20)) kq kq (λk hk=>hk) (λw hw=>hw) (Bs _ _)<|B3 [] [] (eJ [] (λ_=>0)) kq kq (λk hk=>by obtain ⟨q,hq,_⟩:=hk; exact absurd hq (a1a)) (λw hw q hq=>absurd hq (a1a)) (aQ _ _)<|V.range 86 3 9 gL lq 38 kq kq (fun ρ a w hS=>hS.objN (n0:=w0.heap.size) (S:=n6 ρ0 H0) 3 kq) (λ_=>kq) λit=>V.q<|a1l<|s5 [0,7,46] [0,1] [1,3] ([true,true,false,true]++List.replicate 42 false++[true]) (Bx ρ0 w0 gF gO gL it (aOf g1 g2 g3 g4 g5 g6 g7 g8 g9 g10 g11 g12 g13 g14 g15 g16 g17 g18 g19 g20) ((WX.pers j7 (a0d.2 rfl)).2.2 11 (by show 11<12; decide)).1 ⟨[],λ_=>0⟩ ⟨List.nodup_nil,λo ho=>absurd ho (a1a)⟩) kq kq
def OP:WSt:=⟨[],none,0,[],none,0⟩
theorem HZ (n:Int):CallsK a0a 16 [.one (.int .i64 n)] noF (λ_:Unit=>True) (λ_=>.tup [.one (.str (bif n9 n then N3 n else [])),.one (.int .i64 (bif n9 n then 0 else 1))]) (λ_=>noF):=by
 refine a0j true Tryz.func16 fun ρ w=>V.t [sQ.e] [] trivial ?_;by_cases h:n9 n=true
 ·rw [h];refine m0 7 (!(n9 n)) false (by rw [h]; rfl)<|V.q<|H6 bsv 0 0 0 ⟨[.val (.slice none 0 0),.val (.slice none 0 0)],99,true⟩ 5 1 kq rfl<|H6 rlv (0,0) 0 1 ⟨[.row 0 none 0 0,.val (.slice none 0 0)],99,true⟩ 62 2 kq rfl ?_;have VV:=q5 h;refine V.c [] (vw n OP VV.1 VV.2 (by decide)) λb hb=>V.q ?_;obtain ⟨bs,q,c,rs,q2,c2⟩:=b;obtain ⟨h1,h2⟩:=hb;simp only [OP,List.nil_append] at h1;subst h1;exact V.bytes 2 (d5 bsv 0 (q9 9 (zz n)) q c 5 1 true) (q9 9 (zz n)) kq rfl (λ_ _=>rfl) kq<|V.q<|V.z
 ·have h:n9 n=false:=by simpa using h
  rw [h];exact m0 7 (!(n9 n)) true (by rw [h]; rfl)<|V.q<|V.z
def xIn (b:List UInt8):RIn:=⟨b,none,0,0⟩
def rnB (b:List UInt8) (n:Int):Bool:=decide (n<0)||decide (n>(b.length:Int))
def rnR (b:List UInt8) (n:Int):Int×RSt:=c7 (xIn b) ⟨n.toNat,false⟩
def rnV (b:List UInt8) (n:Int):RV:=.tup [.one (.int .i64 (bif rnB b n||(rnR b n).2.bad then 0 else (rnR b n).1)),.one (.int .i64 (bif rnB b n||(rnR b n).2.bad then 0 else ((rnR b n).2.at_:Int))),.one (.int .i64 (bif rnB b n then 1 else bif (rnR b n).2.bad then 220 else 0))]
theorem mn (b:List UInt8) (n:Int) (hb:b.length<=1000000000):CallsK a0a 18 [.one (.str b),.one (.int .i64 n)] noF (λ_:Unit=>True) (λ_=>rnV b n) (λ_=>noF):=by
 refine a0j false Tryz.func18 fun ρ w=>V.q ?_;by_cases hB:rnB b n=true
 ·unfold rnV;rw [hB];exact m0 16 (rnB b n) true hB<|V.q<|V.z
 ·have hB:rnB b n=false:=by simpa using hB
  obtain ⟨k,hk⟩:∃ k:Nat,n=(k:Int):=⟨n.toNat,by unfold rnB at hB; simp at hB; omega⟩;have GO:k<=b.length:=by unfold rnB at hB; simp at hB; omega
  have x7:j8 (xIn b) ⟨k,false⟩:=⟨hb,GO⟩;have hR:rnR b n=c7 (xIn b) ⟨k,false⟩:=by unfold rnR; rw [hk]; rfl
  unfold rnV;rw [hB,hR];refine m0 16 (rnB b n) false hB<|V.q<|a6f 0<|j3 0 1 ⟨[.str b,.int .i64 n,.val (.slice none 0 0),.sb false],104,true⟩ (.int .i64 n) (.int .i64 (k:Int)) kq rfl kq (λ_=>by rw [hk])<|V.c [] (mi (xIn b) ⟨k,false⟩ x7) (λr hr=>?_);subst hr;refine V.q ?_;by_cases ic:(c7 (xIn b) ⟨k,false⟩).2.bad=true
  ·rw [ic];exact m0 26 ((c7 (xIn b) ⟨k,false⟩).2.bad) true ic<|V.q<|V.z
  ·have ic:(c7 (xIn b) ⟨k,false⟩).2.bad=false:=by simpa using ic
   rw [ic];exact m0 26 ((c7 (xIn b) ⟨k,false⟩).2.bad) false ic<|V.q<|V.z
theorem EA (x:In) (A:IA) (hx:x.okL):CallsK a0a 20 [.agg (inV x A)] (stP (j7::lsP x A)) (λ_:Unit=>True) (λ_=>ov (.int .i64 (bif j2 x then 0 else 170))) (λ_=>noF):=by
 by_cases h:j2 x=true
 ·rw [h];exact a0j true Tryz.func20 fun ρ w=>V.q<|p9 [] [] 4 kq<|@a1z _ [] [] 4 _ _ ([]:List (Ent a0a)) [] kq kq trivial<|@a5u _ [] [] 4 _ _ Kc 58 [] H0 _ _ _ [(0,false)] fC kq kq kq (λ_=>kq) λK hK=>@a1z _ [] [] 4 _ _ ([]:List (Ent a0a)) [] kq kq trivial<|@a5u _ [] [] 4 _ _ Unit 59 [.agg [.val (.map (some K.gF)),.val (.map (some K.gO))],.agg (inV x A)] (stP (cdP K::lsP x A)) _ _ _ [(0,true),(2,false),(3,false),(4,false)] (lg K hK x A hx) kq kq kq (λ_=>kq) λ_ _=>@a1z _ [] [] 4 _ _ ([]:List (Ent a0a)) [] kq kq trivial<|@o7 _ [] [] 4 _ _ kq<|V.q<|m0 6 (!(j2 x)) false (by rw [h]; rfl)<|V.q<|V.z
 ·have h:j2 x=false:=by simpa using h
  rw [h];exact a0j true Tryz.func20 fun ρ w=>V.q<|p9 [] [] 4 kq<|@a1z _ [] [] 4 _ _ ([]:List (Ent a0a)) [] kq kq trivial<|@a5u _ [] [] 4 _ _ Kc 58 [] H0 _ _ _ [(0,false)] fC kq kq kq (λ_=>kq) λK hK=>@a1z _ [] [] 4 _ _ ([]:List (Ent a0a)) [] kq kq trivial<|@a5u _ [] [] 4 _ _ Unit 59 [.agg [.val (.map (some K.gF)),.val (.map (some K.gO))],.agg (inV x A)] (stP (cdP K::lsP x A)) _ _ _ [(0,true),(2,false),(3,false),(4,false)] (lg K hK x A hx) kq kq kq (λ_=>kq) λ_ _=>@a1z _ [] [] 4 _ _ ([]:List (Ent a0a)) [] kq kq trivial<|@o7 _ [] [] 4 _ _ kq<|V.q<|m0 6 (!(j2 x)) true (by rw [h]; rfl)<|V.q<|V.z
theorem jJ (x:In) (A:IA) (hx:x.okL) (h:j2 x=true):CallsK a0a 29 [.agg (inV x A)] (stP (j7::lsP x A)) (λ_:Option Addr×Nat=>True) (λqc=>.tup [.one (.str (J6 x).1),.one (.row 0 qc.1 (J6 x).2.length qc.2),.one (.int .i64 0)]) (rsF (J6 x).2):=by
 have hf:=V8 h;exact a0j true Tryz.func29 fun ρ w=>V.q<|V.c [(0,false)] fC λK hK=>V.q<|V.c [(0,true),(2,false),(3,false),(4,false)] (lg K hK x A hx) λ_ _=>V.q<|m0 12 (!(j2 x)) false (by rw [h]; rfl)<|V.q<|V.c [(0,true),(2,false),(3,false),(4,false)] (tj K hK x A hx hf.1 hf.2) λqc _=>V.q<|V.e (qc:Option Addr×Nat) [] trivial
theorem zT (x:In) (A:IA) (hx:x.okL) (o:Nat) (N2:F8 o=true) (ho:x.op=(o:Int)) (aC:(c6 o).all (λf=>f.tok x)=true) (h:j2 x=true):CallsK a0a 22 [.agg (inV x A)] (stP (j7::lsP x A)) (λ_:Unit=>True) (λ_=>.tup [.one (.str (aj x o)),.one (.int .i64 0)]) (λ_=>noF):=by
 exact a0j true Tryz.func22 fun ρ w=>V.q<|V.c [(0,false)] fC λK hK=>V.q<|V.c [(0,true),(2,false),(3,false),(4,false)] (lg K hK x A hx) λ_ _=>V.q<|m0 9 (!(j2 x)) false (by rw [h]; rfl)<|V.q<|V.c [(0,true),(1,false),(2,false),(3,false),(4,false)] (Ka K hK x A hx o N2 ho aC) λ_ _=>V.q<|V.z
def Sk:CV:=.agg inZ
theorem tw (s:List UInt8) (ws:List (List UInt8)) (x:In) (hws:kW s [32]=ws) (hs:s.length<4294967281) (hn:ws.length=Lib.countB ⟨s.toArray⟩ ⟨[32].toArray⟩+1) (hm:ws.length<=2000000)
  (hpok:∀ o,K6 (ws.getD 0 [])=some o->ws.length=(c6 o).length+1->∀ i,i<(c6 o).length->((c6 o).getD i .D).pok (ws.getD (i+1) [])=true) (hx:A8 ws=some x) :
  CallsK a0a 24 [.one (.str s)] H0 (λy:In×IA=>y.1=x) (λy=>.tup [.agg (inV y.1 y.2),.one (.int .i64 0)]) (λy=>z8 (lsP y.1 y.2)):=by
 refine a0j true Tryz.func24 fun ρ w=>V.q<|V.c [(0,false)] fC λK hK=>V.q<|V.c [(0,true),(1,false)] (vH K hK s ws hws hs hn hm hpok) (λy hy=>?_);have AA:y.1=x/\y.2.2=true:=by unfold rdP at hy; rw [hx] at hy; exact hy
 exact V.q<|m0 13 (!y.2.2) false (by rw [AA.2]; rfl)<|V.q<|V.e ((y.1,y.2.1):In×IA) [(0,true),(1,true),(2,true)] AA.1
theorem EB (s:List UInt8) (ws:List (List UInt8)) (hws:kW s [32]=ws) (hs:s.length<4294967281) (hn:ws.length=Lib.countB ⟨s.toArray⟩ ⟨[32].toArray⟩+1) (hm:ws.length<=2000000)
  (hpok:∀ o,K6 (ws.getD 0 [])=some o->ws.length=(c6 o).length+1->∀ i,i<(c6 o).length->((c6 o).getD i .D).pok (ws.getD (i+1) [])=true) (hx:A8 ws=none) :
  CallsK a0a 24 [.one (.str s)] H0 (λ_:Unit=>True) (λ_=>.tup [Sk,.one (.int .i64 222)]) (λ_=>noF):=by
 refine a0j true Tryz.func24 fun ρ w=>V.q<|V.c [(0,false)] fC λK hK=>V.q<|V.c [(0,true),(1,false)] (vH K hK s ws hws hs hn hm hpok) (λy hy=>?_);have AA:y.2.2=false:=by unfold rdP at hy; rw [hx] at hy; exact hy
 exact V.q<|m0 13 (!y.2.2) true (by rw [AA]; rfl)<|V.q<|V.z
end Go.Proofs
end
