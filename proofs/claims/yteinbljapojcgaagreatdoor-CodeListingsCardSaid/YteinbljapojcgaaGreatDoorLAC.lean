/- A symbolic run of the program that Lean checks, and what the functions of the program come to by it: part 3 of 6. -/
import Derived.Test.YteinbljapojcgaaGreatDoorProg
import Derived.Lib.AtoiTie
import Derived.Lib.ItoaLen
import Derived.Lib.Join
import Derived.Shelf.Lays
import Derived.Shelf.LaysC
import Derived.Ground.Names2Prog
import Derived.Shelf.Strings.OnBuilder
import Derived.Shelf.Strconv.ToError
import Derived.Test.YteinbljapojcgaaGreatDoorLAB
set_option linter.unusedVariables false
set_option maxHeartbeats 4000000
set_option maxRecDepth 10000
open Array renaming getElem?_modify->a4x
open Bool renaming eq_iff_iff->a6j,false_eq_true->a4n,true_and->a5a,false_and->a6r,and_eq_true->a0g,or_eq_true->a3w,and_false->a6k,or_eq_false_iff->a2r
open Go.IntKind renaming u64->a0z,i64->a0h,wrap->a1s,bits->a1t,signed->a1p,u8->a1x
open Go.Lib renaming cell_of_heap->a4i,itoa->a0i,trimPrefix->a0o,hasPrefix->a2d,trimSuffix->a6w,hasSuffix->a3k,cut->a3d,indexByte->a5z,atoiAll->a4j,fields->a6m,join->a1u,decFrom->a6n,decDigits->a2y,join_cons->a6y,joinTail->a4w,toLowerA->a4p,itoa_length_le->a2e
open Go.Proofs.Tryz renaming prog->a0a,underlying0->a5n,zeroValue0->a6b,underlying3->a3g,isAgg3->a5o,sizeOf3->a5c,zeroValue3->a4c,underlying4->a3r,isAgg4->a5p,sizeOf4->a5d,zeroValue4->a4d,underlying5->a4v,sizeOf5->a6v,zeroValue5->a5h,underlying9->a4f,isAgg9->a6h,sizeOf9->a5s,zeroValue9->a4k,underlying236->a4z,sizeOf236->a6p,zeroValue236->a5j,underlying256->a5v,zeroValue256->a6i
open Go.SX.CV renaming den->a2a,wf->a3s
open Go.SX.CallsK renaming m->a0j
open Go.SX.SV renaming den0->a3n,wf->a3t
open Go.SX.St renaming W->a5y
open Go.SX.V renaming push->a6q,ret->a4g,iter->a1l,soft->a6f,sb->a4o,up->a3v
open Go.SX.VX renaming run->a1z,callK->a5u,push->a6s
open Int renaming toNat_natCast->a1h
open List renaming mem_cons->a0k,getElem?_eq_some_iff->a2l,getD->a0r,length_append->a0c,length_singleton->a1j,length_cons->a0p,append_assoc->a1g,append_nil->a1q,drop_eq_getElem_cons->a2k,getElem?_eq_getElem->a0b,mem_of_getElem?->a0v,mem_singleton->a0d,length_take->a2b,take_add_one->a2c,take_length->a1o,range->a2f,map_cons->a3h,getElem?_map->a2t,getElem?_eq_none->a6e,all_eq_true->a0y,map_map->a3q,mem_cons_self->a0f,cons_ne_nil->a3i,mem_cons_of_mem->a0e,not_mem_nil->a1a,mem_append->a2s,flatMap_append->a3y,length_nil->a1r,getElem_mem->a5b
open Nat renaming le_refl->a0q,zero_lt_succ->a4e,lt_of_lt_of_le->a1b,pow_succ->a6c,lt_succ_self->a3p,le_of_ble_eq_true->a0w,not_lt_zero->a0x,zero_le->a0s
open Option renaming map_some->a2u
open Option.some renaming injEq->a0l
open Prod.mk renaming injEq->a1f
open UInt8 renaming ofNat->a1c
noncomputable section
section
namespace Go.SX
open Go
theorem CallsK.same {P:Program} {f:FuncId} {ys:List CV} {F:St} {v:RV} (ht:nU F.next F.heap=true) (hp:F.pers=[]) (hv:v.wf F.W)
  (h:∀ ρ w,x6 ρ F w->Calls P f (ys.map (a2a ρ)).toArray w (λe w'=>e=.returned (v.den ρ)/\w'=w)):CallsK P f ys F (λ_:Unit=>True) (λ_=>v) (λ_=>F):=by
 intro ρ w hF;refine (h ρ w hF).mono ?_;rintro e w' ⟨rfl,rfl⟩;refine ⟨(),ρ,trivial,rfl,λ_ _=>rfl,a0q _,λb h1 h2=>absurd (Nat.lt_of_le_of_lt h1 h2) (Nat.lt_irrefl _),hF,λb hb=>dt ht hb,hv,Chg.refl _ _,λb blk _ h1 h2=>⟨blk,h1,h2⟩,λr R hR k hk=>?_,λq hq=>(by rw [hp] at hq; cases hq)⟩;cases ho:R.own with
 | true=>exact .inl ⟨rfl,.inr ⟨r,R,hR,ho,hk⟩⟩
 | false=>exact .inr (.inl ⟨rfl,r,R,hR,hk⟩)
end Go.SX
namespace Go.Proofs
open Go Go.SX
def bdX (x:SV) (l:List UInt8) (q:Option Addr) (cap:Nat):St :=
 { n:=0,slots:=[],gs:=[],heap:=[(0,⟨[x,.row 0 q l.length cap],137,true⟩)],next:=1,rows:=[(0,d5 bsv 0 l q cap 5 1 true)],nr:=1,pers:=[],wr:=false }
def bdF (l:List UInt8) (q:Option Addr) (cap:Nat):St:=bdX (.ptr 0 0) l q cap
def bdY (x y:SV):St:={ n:=0,slots:=[],gs:=[],heap:=[(0,⟨[x,y],137,true⟩)],next:=1,rows:=[],nr:=0,pers:=[],wr:=false }
def bdN:St:=bdY (.val (.pointer none)) (.val (.slice none 0 0))
def bdM:St:=bdY (.ptr 0 0) (.val (.slice none 0 0))
theorem zi (l:List UInt8) (q:Option Addr) (cap:Nat):CallsK a0a 146 [.one (.ptr 0 0)] (bdF l q cap) (λ_:Unit=>True) (λ_=>.tup []) (λ_=>bdF l q cap):=by
 refine CallsK.same rfl rfl (λx hx=>(by cases hx)) (fun ρ w hF=>?_);obtain ⟨_,h2,_⟩:=hF.heap 0 _ rfl;exact oG (ρ 0) w (by rw [a4i h2]; rfl)
theorem Dg:CallsK a0a 146 [.one (.ptr 0 0)] bdN (λ_:Unit=>True) (λ_=>.tup []) (λ_=>bdM):=by
 intro ρ w hF;obtain ⟨_,h2,_⟩:=hF.heap 0 _ rfl;refine (qk (ρ 0) w (.slice none 0 0) h2).mono ?_;rintro e w' ⟨rfl,rfl⟩;have e9:=hF.lt 0 (a4e 0);have hw:(w.setCell ⟨ρ 0,0,none⟩ (.pointer (some ⟨ρ 0,0,none⟩))).heap[ρ 0]?=some (.cells #[.pointer (some ⟨ρ 0,0,none⟩),.slice none 0 0] 137 (0,0)):=by
  have pS:w.heap[ρ 0]?=some (.cells #[.pointer none,.slice none 0 0] 137 (0,0)):=h2;simp [World.setCell,a4x,pS]
 refine ⟨(),ρ,trivial,rfl,λ_ _=>rfl,a0q _,λb h1 h2=>absurd (Nat.lt_of_le_of_lt h1 h2) (Nat.lt_irrefl _),⟨?_,hF.inj,?_,?_,?_,?_⟩,λb hb=>?_,λx hx=>(by cases hx),⟨rfl,rfl,rfl,?_,?_⟩,λb blk hb h1 h2=>?_,λr R hR=>(by cases hR),λq hq=>(by cases hq)⟩
 ·intro b blk hb;have ie:b=0/\blk=⟨[.ptr 0 0,.val (.slice none 0 0)],137,true⟩:=by
   simp only [bdM,bdY,SX.look] at hb;split at hb
   ·rename_i e; cases hb; exact ⟨((d6 _ _).1 e).symm,rfl⟩
   ·cases hb
  obtain ⟨rfl,rfl⟩:=ie;refine ⟨a4e 0,hw,λx hx=>?_⟩;rcases a0k.1 hx with rfl | hx
  ·exact a4e 0
  ·rcases a0k.1 hx with rfl | hx
   ·trivial
   ·cases hx
 ·intro b hb;have:b=0:=by have:b<1:=hb; omega
  subst this;simp [World.setCell]; exact e9
 ·intro r R hR; cases hR
 ·intro r r' R R' hR; cases hR
 ·intro p hp; cases hp
 ·have:b=0:=by have:b<1:=hb; omega
  subst this;exact ⟨_,rfl⟩
 ·simp [World.setCell]
 ·intro k hk hn;have E0:ρ 0≠k:=λe=>hn (.inl ⟨0,_,rfl,rfl,e⟩);simp [World.setCell,a4x,E0]
 ·have:b=0:=by have:b<1:=hb; omega
  subst this;exact ⟨_,rfl,rfl⟩
theorem xp (l:List UInt8) (q:Option Addr) (cap:Nat) (b:UInt8) (hl:l.length<140737488355328):CallsK a0a 256 [.one (.ptr 0 0),.one (.int .u8 b.toNat)] (bdF l q cap) (λ_:Option Addr×Nat=>True)
  (λ_=>ov (.val .nilIface)) (λx=>bdF (l++[b]) x.1 x.2):=by
 exact a0j true Tryz.func256 fun ρ w=>V.q<|V.c [] (zi l q cap) λ_ _=>V.q<|a6q bsv 0 l b 1 q cap 5 1 [.int .u8 b.toNat] 1 kq (by omega) rfl (λ_ _=>kq) λq' cap'=>V.q<|V.e (q',cap') [] trivial
theorem ra (b:UInt8):CallsK a0a 256 [.one (.ptr 0 0),.one (.int .u8 b.toNat)] bdN (λ_:Option Addr×Nat=>True)
  (λ_=>ov (.val .nilIface)) (λx=>bdF [b] x.1 x.2):=by
 exact a0j true Tryz.func256 fun ρ w=>V.q<|V.c [] Dg λ_ _=>H6 bsv 0 0 1 ⟨[.ptr 0 0,.val (.slice none 0 0)],137,true⟩ 5 1 kq rfl<|V.q<|a6q bsv 0 [] b 0 none 0 5 1 [.int .u8 b.toNat] 1 kq (by decide) rfl (λ_ _=>kq) λq' cap'=>V.q<|V.e (q',cap') [] trivial
theorem kT (l:List UInt8) (q:Option Addr) (cap:Nat) (t:List UInt8) (hl:l.length+t.length<140737488355328):CallsK a0a 75 [.one (.ptr 0 0),.one (.str t)] (bdF l q cap) (λ_:Option Addr×Nat=>True)
  (λ_=>.tup [.one (.int .i64 t.length),.one (.val .nilIface)]) (λx=>bdF (l++t) x.1 x.2):=by
 exact a0j true Tryz.func75 fun ρ w=>V.q<|V.c [] (zi l q cap) λ_ _=>V.q<|V.pushes bsv 0 l t 1 q cap 5 1 t.length (λj=>[.int .u8 ((t.getD j 0).toNat:Int)]) 1 kq rfl (by omega) (λ_ _=>rfl) (λ_ _=>kq) λq' cap'=>V.q<|V.e (q',cap') [] trivial
theorem ve (t:List UInt8) (hl:t.length<140737488355328):CallsK a0a 75 [.one (.ptr 0 0),.one (.str t)] bdN (λ_:Option Addr×Nat=>True)
  (λ_=>.tup [.one (.int .i64 t.length),.one (.val .nilIface)]) (λx=>bdF t x.1 x.2):=by
 exact a0j true Tryz.func75 fun ρ w=>V.q<|V.c [] Dg λ_ _=>H6 bsv 0 0 1 ⟨[.ptr 0 0,.val (.slice none 0 0)],137,true⟩ 5 1 kq rfl<|V.q<|V.pushes bsv 0 [] t 0 none 0 5 1 t.length (λj=>[.int .u8 ((t.getD j 0).toNat:Int)]) 1 kq rfl (by simp; omega) (λ_ _=>rfl) (λ_ _=>kq) λq' cap'=>V.q<|V.e (q',cap') [] trivial
theorem zj {ρ:Nat->Nat} {w:World} {x y:SV} (hx:x.wf (bdY x y).W) (hy:y.wf (bdY x y).W) (h:w.heap[ρ 0]?=some (.cells #[x.den ρ,y.den ρ] 137 (0,0))):x6 ρ (bdY x y) w:=by
 have h0:∀ b,b<(bdY x y).next->b=0:=λb hb=>by have:b<1:=hb; omega
 refine ⟨?_,λb c hb hc _=>by rw [h0 b hb,h0 c hc],λb hb=>by rw [h0 b hb]; exact (Array.getElem?_eq_some_iff.1 h).1,λr R hR=>(by cases hR),λr r' R R' hR=>(by cases hR),λp hp=>(by cases hp)⟩;intro b blk hb;have ie:b=0/\blk=⟨[x,y],137,true⟩:=by
  simp only [bdY,SX.look] at hb;split at hb
  ·rename_i e; cases hb; exact ⟨((d6 _ _).1 e).symm,rfl⟩
  ·cases hb
 obtain ⟨rfl,rfl⟩:=ie;refine ⟨a4e 0,h,λz hz=>?_⟩;rcases a0k.1 hz with rfl | hz
 ·exact hx
 ·rcases a0k.1 hz with rfl | hz
  ·exact hy
  ·cases hz
theorem gj (l:List UInt8) (q:Option Addr) (cap:Nat) (hl:l.length<=140737488355328):CallsK a0a 76 [.one (.ptr 0 0)] (bdF l q cap) (λ_:Unit=>True) (λ_=>ov (.str l))
  (λ_=>bdY (.ptr 0 0) (.val (.slice q l.length cap))):=by
 intro ρ w hF;obtain ⟨_,h2,_⟩:=hF.heap 0 _ rfl;have pS:w.heap[ρ 0]?=some (.cells #[.pointer (some ⟨ρ 0,0,none⟩),.slice q l.length cap] 137 (0,0)):=h2;obtain ⟨_,x7,Wu⟩:=hF.rows 0 _ rfl;have aB:∀ w',Chg (n6 ρ (bdF l q cap)) w w'->w'.heap[ρ 0]?=w.heap[ρ 0]?->N9 ρ (bdF l q cap) (λ_:Unit=>True) (λ_=>ov (.str l)) (λ_=>bdY (.ptr 0 0) (.val (.slice q l.length cap))) w (.returned (.string ⟨l.toArray⟩)) w':=by
  intro w' hc h0;refine ⟨(),ρ,trivial,rfl,λ_ _=>rfl,a0q _,λb h1 h2=>absurd (Nat.lt_of_le_of_lt h1 h2) (Nat.lt_irrefl _),zj (a4e 0) trivial (h0.trans pS),λb hb=>?_,trivial,hc,λb blk hb h1 h2=>?_,λr R hR=>(by cases hR),λp hp=>(by cases hp)⟩
  ·have:b=0:=by have:b<1:=hb; omega
   subst this; exact ⟨_,rfl⟩
  ·have:b=0:=by have:b<1:=hb; omega
   subst this; exact ⟨_,rfl,rfl⟩
 have GF:∀ S,Chg S w w.drew:=λS=>⟨rfl,rfl,rfl,a0q _,λ_ _ _=>rfl⟩;have R4:=x7.own rfl rfl;rcases R4 with ⟨_,⟨hv,hn⟩ | ⟨g,cap',cur,hv,_,hg,eN,_,C8,_⟩⟩
 ·simp only [d5] at hv hn;injection hv with e1 e2 e3;subst e1 e3;have NO:l=[]:=List.length_eq_zero_iff.1 hn;subst NO;refine (hC (ρ 0) _ w pS).mono ?_;rintro e w' ⟨rfl,rfl⟩;exact aB _ (GF _) rfl
 ·simp only [d5] at hv eN C8;injection hv with e1 e2 e3;subst e1 e3;have Vy:ρ 0≠g:=(Wu g ⟨_,rfl,rfl,.inl rfl⟩).2 0 (a4e 0);have Ck:n6 ρ (bdF l (some ⟨g,0,none⟩) cap) g:=.inr ⟨0,_,rfl,rfl,⟨_,rfl,rfl,.inl rfl⟩⟩;by_cases NO:l=[]
  ·subst NO;by_cases Jq:cap=0
   ·subst Jq;refine (kS (ρ 0) g _ cur w pS hg).mono ?_;rintro e w' ⟨rfl,rfl⟩;exact aB _ ((GF _).trans (Chg.alloc _ _ _) (λ_ h=>.inr h)) (Lib.alloc_old w.drew _ _ (hF.lt 0 (a4e 0)))
   ·refine (oH (ρ 0) g cap _ w Jq pS).mono ?_;rintro e w' ⟨rfl,rfl⟩;exact aB _ (GF _) rfl
  ·have iV:cur.size=cap:=by simpa using C8
   refine (AW (ρ 0) g cap _ cur l w NO pS hg (by omega) eN hl (λj x hx=>?_)).mono ?_
   ·have hj:j<l.length:=(a2l.1 hx).1;obtain ⟨b,off,hs,W1⟩:=x7.addr (by show 0<l.length; omega);have N6:(some ⟨g,0,none⟩:Option Addr)=some ⟨b,off,none⟩:=hs;cases N6;have:=W1 j 0 (.int .u8 (x.toNat:Int)) hj (by simp [d5,bsv,a0r,hx]);simpa [d5,a3n,SV.den] using this
   ·rintro e w' ⟨rfl,rfl⟩;refine aB _ ⟨?_,?_,?_,?_,λk hk hn=>?_⟩ ?_
    ·unfold World.freeze; split<;>rfl
    ·unfold World.freeze; split<;>rfl
    ·unfold World.freeze; split<;>rfl
    ·unfold World.freeze; split<;>simp
    ·have E0:g≠k:=λe=>hn (e▸Ck);unfold World.freeze;split
     ·rfl
     ·simp [a4x,E0]; rfl
    ·unfold World.freeze;split
     ·rfl
     ·simp [a4x,Ne.symm Vy]; rfl
theorem oI:CallsK a0a 76 [.one (.ptr 0 0)] bdN (λ_:Unit=>True) (λ_=>ov (.str [])) (λ_=>bdN):=by
 intro ρ w hF;obtain ⟨_,h2,_⟩:=hF.heap 0 _ rfl;refine (hC (ρ 0) _ w h2).mono ?_;rintro e w' ⟨rfl,rfl⟩;refine ⟨(),ρ,trivial,rfl,λ_ _=>rfl,a0q _,λb h1 h2=>absurd (Nat.lt_of_le_of_lt h1 h2) (Nat.lt_irrefl _),zj trivial trivial h2,λb hb=>?_,trivial,⟨rfl,rfl,rfl,a0q _,λ_ _ _=>rfl⟩,λb blk hb h1 h2=>?_,λr R hR=>(by cases hR),λp hp=>(by cases hp)⟩
 ·have:b=0:=by have:b<1:=hb; omega
  subst this; exact ⟨_,rfl⟩
 ·have:b=0:=by have:b<1:=hb; omega
  subst this; exact ⟨_,rfl,rfl⟩
end Go.Proofs
end
section
namespace Go.Proofs
open Go Go.SX
def q9:Nat->Nat->List UInt8
 | 0,z=>[a1c z]
 | k+1,z=>if z<128 then [a1c z] else a1c (z % 128+128)::q9 k (z / 128)
def zz (n:Int):Nat:=(if 0<=n then 2*n else -2*n - 1).toNat
theorem Y9 {k z:Nat} (h:¬ z<128):q9 (k+1) z=a1c (z % 128+128)::q9 k (z / 128):=by simp [q9,h]
theorem T0 {k z:Nat} (h:z<128):q9 k z=[a1c z]:=by cases k<;>simp [q9,h]
theorem Le {n:Int} (h:¬ n<0) (h2:n<4611686018427387904):a0z.wrap (a0h.wrap (2*n))=(zz n:Int):=by
 unfold zz; rw [if_pos (by omega)]; simp [a1s,a1t,a1p]; omega
theorem Lf {n:Int} (h:n<0) (h2:-4611686018427387904<n):a0z.wrap (a0h.wrap (a0h.wrap (-2*n) - 1))=(zz n:Int):=by
 unfold zz; rw [if_neg (by omega)]; simp [a1s,a1t,a1p]; omega
structure Hq where
 bs:List UInt8
 z:Nat
 k:Nat
 q:Option Addr
 cap:Nat
def zk (i:Hq):St:={ n:=31,slots:=[(3,ov (.int .u64 (i.z:Int))),(4,ov (.row 0 i.q i.bs.length i.cap))],gs:=[],heap:=[],next:=0,rows:=[(0,d5 bsv 0 i.bs i.q i.cap 5 1 true)],nr:=1,pers:=[],wr:=true }
def RA:List Item:=(SX.iter (iX a0a 100 ((iX a0a 100 (Rw Tryz.f56 [.one (.int .i64 0)] true)).1.know 9 false)).1).todo
def Dh (n:Int) (i:Hq):Prop:=i.bs++q9 i.k i.z=q9 9 (zz n)/\i.z<128 ^ (i.k+1)/\i.bs.length+i.k=9
theorem Di (n:Int) (w:World) (i:Hq) (hi:Dh n i):V ⟨a0a,56,u6 (.string ⟨(q9 9 (zz n)).toArray⟩) w,λ_=>False,w,λ_=>0,none⟩ ⟨RA,zk i⟩:=by
 refine V.loop (λi:Hq=>i.k) zk (Dh n) (λi hi ih=>?_) i hi;obtain ⟨bs,z,k,q,cap⟩:=i;obtain ⟨e1,e2,e3⟩:=hi;simp only at e1 e2 e3;refine V.u<|f9 15 (decide ((z:Int)>=128)) (λhb=>?_) (λhb=>?_)
 ·have hz:¬ z<128:=by simp at hb; omega
  cases k with
  | zero=>simp at e2; omega
  | succ k =>
   refine V.run 100 [(128:Int)≠0] kq (by simp [B9])<|a6q bsv 0 bs (a1c (z % 128+128)) 0 q cap 5 1 [.int .u8 (a1x.wrap (a0z.wrap (((z:Int).tmod 128)+128)))] 1 kq (by omega) ?_ (λ_ _=>kq) (λq' cap'=>?_)
   ·have:(z:Int).tmod 128=((z % 128:Nat):Int):=rfl;rw [this];simp [bsv,a1s,a1t,a1p]
   ·refine V.run 100 [(128:Int)≠0] kq (by simp [B9]) ?_;have hd:a0z.wrap ((z:Int).tdiv 128)=((z / 128:Nat):Int):=by
     have:(z:Int).tdiv 128=((z / 128:Nat):Int):=rfl;rw [this];simp [a1s,a1t,a1p];have:z<128 ^ 10:=a1b e2 (Nat.pow_le_pow_right (by omega) (by omega));omega
    have p1:(bs++[a1c (z % 128+128)])++q9 k (z / 128)=q9 9 (zz n):=by rw [<- e1,Y9 hz]; simp
    have p2:z / 128<128 ^ (k+1):=by
     rw [Nat.div_lt_iff_lt_mul (by decide),<- a6c]; exact e2
    have p3:(bs++[a1c (z % 128+128)]).length+k=9:=by simp; omega
    have key:=ih ⟨bs++[a1c (z % 128+128)],z / 128,k,q',cap'⟩ ⟨p1,p2,p3⟩ (a3p k);unfold zk at key;simp only [<- hd] at key;exact dj [3,4] [] [1] [] key kq kq
 ·have hz:z<128:=by simp at hb; omega
  refine V.u<|a6q bsv 0 bs (a1c z) 0 q cap 5 1 [.int .u8 (a1x.wrap (z:Int))] 1 kq (by omega) ?_ (λ_ _=>kq) (λq' cap'=>?_)
  ·simp [bsv,a1s,a1t,a1p]
  ·refine V.u<|fX (bs++[a1c z]) 1 q' cap' 5 true kq kq<|V.u<|a4g (.v (.one (.str (bs++[a1c z])))) kq kq (fun ρ a w' hS=>⟨?_,hS.chg⟩);rw [<- e1,T0 hz];rfl
theorem sH (n:Int) (w:World) (h1:-4611686018427387904<n) (h2:n<4611686018427387904):Calls a0a 56 #[.int .i64 n] w (u6 (.string ⟨(q9 9 (zz n)).toArray⟩) w):=by
 have hz:zz n<9223372036854775808:=by unfold zz; split<;>omega
 have key:=Di n w ⟨[],zz n,9,none,0⟩ ⟨by simp,by simp only; omega,by simp⟩;unfold zk at key;refine H3 [.one (.int .i64 n)] true Tryz.func56 kq kq (by simp [a3s,a3t])<|V.u<|f9 9 (decide (n<0)) (λhb=>?_) (λhb=>?_)
 ·refine V.u<|U9 bsv 0 4 5 1 kq kq ?_;simp only [<- Lf (by simpa using hb) h1] at key;exact dj [3,4] [] [0] [] key kq kq
 ·refine V.u<|U9 bsv 0 4 5 1 kq kq ?_;simp only [<- Le (by simpa using hb) h2] at key;exact dj [3,4] [] [0] [] key kq kq
structure WSt where
 bs:List UInt8
 q:Option Addr
 c:Nat
 rs:List (Int×Int)
 q2:Option Addr
 c2:Nat
def rlv (x:Int×Int):List SV:=[.int .i64 x.1,.int .i64 x.2]
def wrF (ps:List m6) (b:WSt):St :=
 { n:=0,slots:=[],gs:=[],heap:=[(0,⟨[.row 0 b.q b.bs.length b.c,.row 1 b.q2 b.rs.length b.c2],99,true⟩)],next:=1,rows:=[(0,d5 bsv 0 b.bs b.q b.c 5 1 true),(1,d5 rlv (0,0) b.rs b.q2 b.c2 62 2 true)],nr:=2,pers:=ps,wr:=false }
structure zl where
 b:WSt
 z:Nat
 k:Nat
def sI (i:zl):St:={ n:=35,slots:=[(0,ov (.ptr 0 0)),(4,ov (.int .u64 (i.z:Int)))],gs:=[],heap:=(wrF [] i.b).heap,next:=1,rows:=(wrF [] i.b).rows,nr:=2,pers:=[],wr:=true,fx:=1 }
def w0:WSt:=⟨[],none,0,[],none,0⟩
def Og:List Item:=(SX.iter (let c:=(iX a0a 100 ⟨[.code (I5 Tryz.f54)],stF 35 [.one (.ptr 0 0),.one (.int .i64 0)] (wrF [] w0) true⟩).1; iX a0a 100 (u0 c c.st (.v (.one (.int .u64 0))))).1).todo
def zm (n:Int) (b:WSt) (i:zl):Prop:=i.b.bs++q9 i.k i.z=b.bs++q9 9 (zz n)/\i.z<128 ^ (i.k+1)/\i.k<=9/\i.b.rs=b.rs/\i.b.bs.length+i.k<=b.bs.length+9
def WrR (ps:List m6) (b:WSt) (o:List UInt8) (r:List (Int×Int)) (ρ:Nat->Nat) (w:World):Ending->World->Prop :=
 V0 ρ (wrF ps b) (λb':WSt=>b'.bs=b.bs++o/\b'.rs=b.rs++r) (λ_=>.tup []) (wrF []) w
theorem AX (n:Int) (b:WSt) (hb:b.bs.length<=1000000000) (ρ:Nat->Nat) (w:World) (i:zl) (hi:zm n b i):V ⟨a0a,54,WrR [] b (q9 9 (zz n)) [] ρ w,n6 ρ (wrF [] b),w,ρ,none⟩ ⟨Og,sI i⟩:=by
 refine V.loop (λi:zl=>i.k) sI (zm n b) (λi hi ih=>?_) i hi;obtain ⟨⟨bs,q,cap,rs,q2,c2⟩,z,k⟩:=i;obtain ⟨e1,e2,e3,e4,e7⟩:=hi;simp only at e1 e2 e3 e4 e7;subst e4;refine V.u<|aY 8 (decide ((z:Int)>=128)) kq (λB8=>?_) (λB8=>?_)
 ·have hz:¬ z<128:=by simp at B8; omega
  cases k with
  | zero=>simp at e2; omega
  | succ k =>
   refine V.run 100 [(128:Int)≠0] kq (by simp [B9])<|a6q bsv 0 bs (a1c (z % 128+128)) 0 q cap 5 1 [.int .u8 (a1x.wrap (a1x.wrap ((z:Int).tmod 128)+128))] 1 kq (by omega) ?_ (λ_ _=>kq) (λq' cap'=>?_)
   ·have:(z:Int).tmod 128=((z % 128:Nat):Int):=rfl;rw [this];simp [bsv,a1s,a1t,a1p]
   ·refine V.run 100 [(128:Int)≠0] kq (by simp [B9]) ?_;have hd:a0z.wrap ((z:Int).tdiv 128)=((z / 128:Nat):Int):=by
     have:(z:Int).tdiv 128=((z / 128:Nat):Int):=rfl;rw [this];simp [a1s,a1t,a1p];have:z<128 ^ 10:=a1b e2 (Nat.pow_le_pow_right (by omega) (by omega));omega
    have p1:(bs++[a1c (z % 128+128)])++q9 k (z / 128)=b.bs++q9 9 (zz n):=by rw [<- e1,Y9 hz]; simp
    have p2:z / 128<128 ^ (k+1):=by
     rw [Nat.div_lt_iff_lt_mul (by decide),<- a6c]; exact e2
    have key:=ih ⟨⟨bs++[a1c (z % 128+128)],q',cap',b.rs,q2,c2⟩,z / 128,k⟩ ⟨p1,p2,by simp only; omega,rfl,by simp only [a0c,a1j]; omega⟩ (a3p k);unfold sI at key;simp only [<- hd] at key;exact dj [0,4] [0] [2,1] [] key kq kq
 ·have hz:z<128:=by simp at B8; omega
  refine V.u<|a6q bsv 0 bs (a1c z) 0 q cap 5 1 [.int .u8 (a1x.wrap (z:Int))] 1 kq (by omega) ?_ (λ_ _=>kq) (λq' cap'=>?_)
  ·simp [bsv,a1s,a1t,a1p]
  ·refine V.u<|p8 (⟨bs++[a1c z],q',cap',b.rs,q2,c2⟩:WSt) [2,1] (.tup []) kq kq kq kq kq kq kq ?_
   ·exact ⟨by rw [<- e1,T0 hz],by simp⟩
theorem Oh {n:Int} (h1:-2147483648<=n) (h2:n<=2147483647):zz n<4294967296:=by unfold zz; split<;>omega
theorem sJ (n:Int) (w:World) (h1:-2147483648<=n) (h2:n<=2147483647):Calls a0a 89 #[.int .i64 n] w (u6 (.int .u64 (zz n)) w):=by
 refine H3 [.one (.int .i64 n)] true Tryz.func89 kq kq (by simp [a3s,a3t])<|V.u<|f9 4 (decide (n>=0)) (λhb=>?_) (λhb=>?_)
 ·have B8:0<=n:=by simpa using hb
  refine V.u<|a4g (.v (.one (.int .u64 (a0z.wrap (a0z.wrap n*2))))) kq kq ?_;intro ρ a w hS;have:a0z.wrap (a0z.wrap n*2)=zz n:=by simp [a1s,a1t,a1p,zz,B8]; omega
  rw [this];exact ⟨rfl,hS.chg⟩
 ·have B8:¬ 0<=n:=by simpa using hb
  refine V.u<|a4g (.v (.one (.int .u64 (a0z.wrap (a0z.wrap (a0z.wrap (a0h.wrap (0 - n))*2) - 1))))) kq kq ?_;intro ρ a w hS;have:a0z.wrap (a0z.wrap (a0z.wrap (a0h.wrap (0 - n))*2) - 1)=zz n:=by simp [a1s,a1t,a1p,zz,B8]; omega
  rw [this];exact ⟨rfl,hS.chg⟩
theorem bS (n:Int) (b:WSt) (h1:-2147483648<=n) (h2:n<=2147483647) (hb:b.bs.length<=1000000000) (ρ:Nat->Nat) (w:World) (hF:x6 ρ (wrF [] b) w) :
  Calls a0a 54 (([.one (.ptr 0 0),.one (.int .i64 n)]:List CV).map (a2a ρ)).toArray w (WrR [] b (q9 9 (zz n)) [] ρ w):=by
 have hz:=Oh h1 h2;have key:=AX n b hb ρ w ⟨b,zz n,9⟩ ⟨rfl,by simp only; omega,by simp,rfl,by simp⟩;unfold sI at key;exact i6 hF [.one (.ptr 0 0),.one (.int .i64 n)] true Tryz.func54 kq kq (by simp [a3s,a3t,wrF,a5y])<|V.u<|M8 89 [.one (.int .i64 n)] (.v (.one (.int .u64 (zz n)))) kq kq (λ_ _ w _=>sJ n w h1 h2)<|V.u<|dj [0,4] [0] [0,1] [] key kq kq
def sK (v:Bool):UInt8:=match v with
 | true=>1
 | false=>0
theorem Dj (v:Bool) (b:WSt) (hb:b.bs.length<=1000000000) (ρ:Nat->Nat) (w:World) (hF:x6 ρ (wrF [] b) w) :
  Calls a0a 206 (([.one (.ptr 0 0),.one (.sb v)]:List CV).map (a2a ρ)).toArray w (WrR [] b [sK v] [] ρ w):=by
 obtain ⟨bs,q,cap,rs,q2,c2⟩:=b;refine i6 hF [.one (.ptr 0 0),.one (.sb v)] true Tryz.func206 kq kq (by simp [a3s,a3t,wrF,a5y])<|V.u<|f9 5 v (λhv=>?_) (λhv=>?_)
 ·subst hv;exact V.u<|a6q bsv 0 bs 1 0 q cap 5 1 [.int .u8 1] 1 kq (by simp only at hb; omega) kq (λ_ _=>kq) λq' cap'=>V.u<|p8 (⟨bs++[1],q',cap',rs,q2,c2⟩:WSt) [2,1] (.tup []) kq kq kq kq kq kq kq ⟨rfl,by simp⟩
 ·subst hv;exact V.u<|a6q bsv 0 bs 0 0 q cap 5 1 [.int .u8 0] 1 kq (by simp only at hb; omega) kq (λ_ _=>kq) λq' cap'=>V.u<|p8 (⟨bs++[0],q',cap',rs,q2,c2⟩:WSt) [2,1] (.tup []) kq kq kq kq kq kq kq ⟨rfl,by simp⟩
theorem I0:∀ (k z:Nat),(q9 k z).length<=k+1
 | 0,z=>by simp [q9]
 | k+1,z=>by
  unfold q9;split
  ·simp
  ·have:=I0 k (z / 128);simp only [a0p];omega
theorem Lg (l:List UInt8) (b:WSt) (hl:l.length<=1000000000) (hb:b.bs.length<=900000000) (ρ:Nat->Nat) (w:World) (hF:x6 ρ (wrF [] b) w) :
  Calls a0a 180 (([.one (.ptr 0 0),.one (.str l)]:List CV).map (a2a ρ)).toArray w (WrR [] b (q9 9 (zz l.length)++l) [] ρ w):=by
 refine i6 hF [.one (.ptr 0 0),.one (.str l)] true Tryz.func180 kq kq (by simp [a3s,a3t,wrF,a5y])<|V.u<|o5 54 [.one (.ptr 0 0),.one (.int .i64 l.length)] [.one (.ptr 0 0),.one (.int .i64 l.length)] [0] [0,1] [] (wrF [] b) _ _ _ kq kq kq (λ_=>rfl) (λ_=>kq)
  (fun ρ w hF=>bS l.length b (by omega) (by omega) (by omega) ρ w hF) ?_
 rintro ⟨bs,q,cap,rs,q2,c2⟩ ⟨rfl,rfl⟩;refine V.u<|V.pushes bsv 0 (b.bs++q9 9 (zz l.length)) l 2 q cap 5 1 l.length (λj=>[.int .u8 ((l.getD j 0).toNat:Int)]) 1 kq rfl ?_ (λ_ _=>rfl) (λ_ _=>kq) (λq' cap'=>?_)
 ·have:=I0 9 (zz l.length);simp only [a0c];omega
 exact V.u<|p8 (⟨(b.bs++q9 9 (zz l.length))++l,q',cap',b.rs++[],q2,c2⟩:WSt) [4,3] (.tup []) kq kq kq kq kq kq kq ⟨by simp,by simp⟩
structure Ty where
 k:Int
 p:Int
 q:Int
 v:Bool
 s:List UInt8
def Ty.cells (t:Ty):List SV:=[.int .i64 t.k,.int .i64 t.p,.int .i64 t.q,.sb t.v,.str t.s]
def I3 (n:Int):Prop:=-2147483648<=n/\n<=2147483647
def N3 (n:Int):List UInt8:=q9 9 (zz n)
def fl (l:List UInt8):List UInt8:=N3 l.length++l
def M9 (t:Ty):List UInt8:=N3 t.k++(N3 t.p++(N3 t.q++([sK t.v]++fl t.s)))
theorem Oi (t:Ty) (b:WSt) (h1:I3 t.k) (h2:I3 t.p) (h3:I3 t.q) (hl:t.s.length<=50000000) (hb:b.bs.length<=800000000) (ρ:Nat->Nat) (w:World) (hF:x6 ρ (wrF [] b) w) :
  Calls a0a 170 (([.one (.ptr 0 0),.agg t.cells]:List CV).map (a2a ρ)).toArray w (WrR [] b (M9 t) [] ρ w):=by
 obtain ⟨k,p,q,v,s⟩:=t;refine i6 hF [.one (.ptr 0 0),.agg [.int .i64 k,.int .i64 p,.int .i64 q,.sb v,.str s]] true Tryz.func170 kq kq (by simp [a3s,a3t,wrF,a5y])<|V.u<|o5 54 [.one (.ptr 0 0),.one (.int .i64 k)] [.one (.ptr 0 0),.one (.int .i64 k)] [0] [0,1] [] (wrF [] b) _ _ _ kq kq kq (λ_=>rfl) (λ_=>kq) (fun ρ w hF=>bS _ b h1.1 h1.2 (by omega) ρ w hF) ?_;intro b1 e1;have l1:b1.bs.length<=b.bs.length+(10):=by rw [e1.1]; have:=I0 9 (zz (k)); simp only [a0c]; omega
 refine V.u<|o5 54 [.one (.ptr 0 0),.one (.int .i64 p)] [.one (.ptr 0 0),.one (.int .i64 p)] [0] [2,3] [] (wrF [] b1) _ _ _ kq kq kq (λ_=>rfl) (λ_=>kq) (fun ρ w hF=>bS _ b1 h2.1 h2.2 (by omega) ρ w hF) ?_;intro b2 e2;have l2:b2.bs.length<=b1.bs.length+(10):=by rw [e2.1]; have:=I0 9 (zz (p)); simp only [a0c]; omega
 refine V.u<|o5 54 [.one (.ptr 0 0),.one (.int .i64 q)] [.one (.ptr 0 0),.one (.int .i64 q)] [0] [4,5] [] (wrF [] b2) _ _ _ kq kq kq (λ_=>rfl) (λ_=>kq) (fun ρ w hF=>bS _ b2 h3.1 h3.2 (by omega) ρ w hF) ?_;intro b3 e3;have l3:b3.bs.length<=b2.bs.length+(10):=by rw [e3.1]; have:=I0 9 (zz (q)); simp only [a0c]; omega
 refine V.u<|o5 206 [.one (.ptr 0 0),.one (.sb v)] [.one (.ptr 0 0),.one (.sb v)] [0] [6,7] [] (wrF [] b3) _ _ _ kq kq kq (λ_=>rfl) (λ_=>kq) (fun ρ w hF=>Dj _ b3 (by omega) ρ w hF) ?_;intro b4 e4;have l4:b4.bs.length<=b3.bs.length+(1):=by rw [e4.1]; skip; simp only [a0c,a1j]; omega
 refine V.u<|o5 180 [.one (.ptr 0 0),.one (.str s)] [.one (.ptr 0 0),.one (.str s)] [0] [8,9] [] (wrF [] b4) _ _ _ kq kq kq (λ_=>rfl) (λ_=>kq) (fun ρ w hF=>Lg _ b4 (by simp only at hl; omega) (by omega) ρ w hF) ?_;intro b5 e5;have l5:b5.bs.length<=b4.bs.length+(10+(s).length):=by rw [e5.1]; have:=I0 9 (zz (s).length); simp only [a0c]; omega
 refine V.u<|p8 (⟨b5.bs,b5.q,b5.c,b5.rs,b5.q2,b5.c2⟩:WSt) [10,11] (.tup []) kq kq kq kq kq kq kq ⟨?_,?_⟩
 ·simp only [e5.1,e4.1,e3.1,e2.1,e1.1,N3,fl,M9,a1g]
 ·simp only [e5.2,e4.2,e3.2,e2.2,e1.2,a1q]
def E4 (n:Int) (s:Nat):UInt8:=a1c ((n / (2 ^ s)) % 256).toNat
def Z0 (n:Int):List UInt8:=[E4 n 24,E4 n 16,E4 n 8,E4 n 0]
theorem T2 (n:Int) (s:Nat):bsv (E4 n s)=[.int .u8 (a1x.wrap (n.fdiv (2 ^ s)))]:=by
 have h2:(0:Int)<=2 ^ s:=by have:(0:Int)<2 ^ s:=Int.pow_pos (by omega); omega
 rw [Int.fdiv_eq_ediv_of_nonneg _ h2];simp only [bsv,E4,a1s,a1t,a1p];have h0:=Int.emod_nonneg (n / 2 ^ s) (show (256:Int)≠0 by omega);have h1:=Int.emod_lt_of_pos (n / 2 ^ s) (show (0:Int)<256 by omega);simp;omega
theorem zn (n:Int) (b:WSt) (hb:b.bs.length<=900000000) (ρ:Nat->Nat) (w:World) (hF:x6 ρ (wrF [] b) w) :
  Calls a0a 214 (([.one (.ptr 0 0),.one (.int .i64 n)]:List CV).map (a2a ρ)).toArray w (WrR [] b (Z0 n) [] ρ w):=by
 obtain ⟨bs,q,cap,rs,q2,c2⟩:=b;simp only at hb;exact i6 hF [.one (.ptr 0 0),.one (.int .i64 n)] true Tryz.func214 kq kq (by simp [a3s,a3t,wrF,a5y])<|V.u<|a1l<|V.u<|m0 6 (decide ((3:Int)>=0)) true rfl<|V.u<|bh bsv 0 (bs) (E4 n 24) 0 14 q cap 5 1 [.int .u8 (a1x.wrap (n.fdiv (2 ^ 24)))] 1 [(0:Int)<=24] kq (by simp [B9]) kq (by simp; omega) (T2 n 24) (λ_ _=>kq) λq1 c1'=>V.u<|a1l<|V.u<|m0 6 (decide ((2:Int)>=0)) true rfl<|V.u<|bh bsv 0 ((bs)++[E4 n 24]) (E4 n 16) 2 14 q1 c1' 5 1 [.int .u8 (a1x.wrap (n.fdiv (2 ^ 16)))] 1 [(0:Int)<=16] kq (by simp [B9]) kq (by simp; omega) (T2 n 16) (λ_ _=>kq) λqb cb'=>V.u<|a1l<|V.u<|m0 6 (decide ((1:Int)>=0)) true rfl<|V.u<|bh bsv 0 (((bs)++[E4 n 24])++[E4 n 16]) (E4 n 8) 3 14 qb cb' 5 1 [.int .u8 (a1x.wrap (n.fdiv (2 ^ 8)))] 1 [(0:Int)<=8] kq (by simp [B9]) kq (by simp; omega) (T2 n 8) (λ_ _=>kq) λq3 c3'=>V.u<|a1l<|V.u<|m0 6 (decide ((0:Int)>=0)) true rfl<|V.u<|bh bsv 0 ((((bs)++[E4 n 24])++[E4 n 16])++[E4 n 8]) (E4 n 0) 4 14 q3 c3' 5 1 [.int .u8 (a1x.wrap (n.fdiv (2 ^ 0)))] 1 [(0:Int)<=0] kq (by simp [B9]) kq (by simp; omega) (T2 n 0) (λ_ _=>kq) λq4 c4'=>V.u<|a1l<|V.u<|m0 6 (decide ((-1:Int)>=0)) false rfl<|V.u<|p8 (⟨((((bs)++[E4 n 24])++[E4 n 16])++[E4 n 8])++[E4 n 0],q4,c4',rs,q2,c2⟩:WSt) [5,1] (.tup []) kq kq kq kq kq kq kq ⟨by simp [Z0],by simp⟩
theorem Dk (n:Int) (b:WSt) (hb:b.rs.length<=900000000) (ρ:Nat->Nat) (w:World) (hF:x6 ρ (wrF [] b) w) :
  Calls a0a 222 (([.one (.ptr 0 0),.one (.int .i64 n)]:List CV).map (a2a ρ)).toArray w (WrR [] b [] [((b.bs.length:Nat),n)] ρ w):=by
 obtain ⟨bs,q,cap,rs,q2,c2⟩:=b;exact i6 hF [.one (.ptr 0 0),.one (.int .i64 n)] true Tryz.func222 kq kq (by simp [a3s,a3t,wrF,a5y])<|V.u<|bh rlv (0,0) rs ((bs.length:Int),n) 1 16 q2 c2 62 2 [.int .i64 bs.length,.int .i64 n] 16 [] kq trivial kq (by simp only at hb; omega) rfl (λ_ _=>kq) λq' cap'=>V.u<|p8 (⟨bs,q,cap,rs++[((bs.length:Int),n)],q',cap'⟩:WSt) [0,2] (.tup []) kq kq kq kq kq kq kq ⟨by simp,by simp⟩
structure RSt where
 at_:Nat
 bad:Bool
structure RIn where
 s:List UInt8
 q:Option Addr
 n:Nat
 c:Nat
def rdF (ps:List m6) (X:RIn) (r:RSt):St :=
 { n:=0,slots:=[],gs:=[],heap:=[(0,⟨[.str X.s,.int .i64 (r.at_:Int),.val (.slice X.q X.n X.c),.sb r.bad],104,true⟩)],next:=1,rows:=[],nr:=0,pers:=ps,wr:=false }
def f6 (X:RIn) (r:RSt):UInt8×RSt:=if r.at_<X.s.length then (X.s.getD r.at_ 0,⟨r.at_+1,r.bad⟩) else (0,⟨r.at_,true⟩)
def RdR (ps:List m6) (X:RIn) (r:RSt) (v:RV) (r':RSt) (ρ:Nat->Nat) (w:World):Ending->World->Prop :=
 V0 ρ (rdF ps X r) (λx:RSt=>x=r') (λ_=>v) (rdF [] X) w
def j8 (X:RIn) (r:RSt):Prop:=X.s.length<=1000000000/\r.at_<=X.s.length
theorem oJ (X:RIn) (r:RSt) (h:j8 X r) (ρ:Nat->Nat) (w:World) (hF:x6 ρ (rdF [] X r) w) :
  Calls a0a 90 (([.one (.ptr 0 0)]:List CV).map (a2a ρ)).toArray w (RdR [] X r (.v (.one (.int .u8 ((f6 X r).1.toNat:Int)))) (f6 X r).2 ρ w):=by
 obtain ⟨h1,h2⟩:=h;refine i6 hF [.one (.ptr 0 0)] false Tryz.func90 kq kq (by simp [a3s,a3t,rdF,a5y])<|V.u<|mL 1000 [] kq trivial<|V.u<|f9 12 (decide ((r.at_:Int)>=(X.s.length:Int))) (λhb=>?_) (λhb=>?_)
 ·have B8:¬ r.at_<X.s.length:=by simp at hb; omega
  exact V.u<|a6f 0<|p8 (⟨r.at_,true⟩:RSt) [] (.v (.one (.int .u8 0))) kq kq (by simp only [f6,if_neg B8]; kernel_rfl) kq kq kq kq (by simp [f6,B8])
 ·have B8:r.at_<X.s.length:=by simp at hb; omega
  refine V.run 100 [inK .i64 ((r.at_:Int)+1)] kq (by simp [B9,inK]; omega)<|mL 1000 [inK .i64 ((r.at_:Int)+1 - 1),0<=(r.at_:Int)+1 - 1/\(r.at_:Int)+1 - 1<(X.s.length:Int)] kq (by simp [B9,inK]; omega)<|V.u ?_;have hn:((r.at_:Int)+1 - 1).toNat=r.at_:=by omega
  exact p8 (⟨r.at_+1,r.bad⟩:RSt) [] (.v (.one (.int .u8 ((X.s.getD ((r.at_:Int)+1 - 1).toNat 0).toNat:Int)))) kq kq (by rw [hn]; simp only [f6,if_pos B8]; rfl) kq kq kq kq (by simp [f6,B8])
def A6 (z:Nat):Int:=if z % 2=0 then ((z / 2:Nat):Int) else -(((z+1) / 2:Nat):Int)
theorem xr (z:Nat) (w:World) (h:z<4611686018427387904):Calls a0a 91 #[.int .u64 z] w (u6 (.int .i64 (A6 z)) w):=by
 refine H3 [.one (.int .u64 z)] true Tryz.func91 kq kq (by simp [a3s,a3t])<|V.run 100 [(2:Int)≠0] kq (by simp [B9])<|f9 5 (decide ((z:Int).tmod 2=0)) (λhb=>?_) (λhb=>?_)
 ·have B8:z % 2=0:=by
   have h1:(z:Int).tmod 2=((z % 2:Nat):Int):=rfl;rw [h1] at hb; simp at hb; omega
  refine V.run 100 [(2:Int)≠0] kq (by simp [B9])<|a4g (.v (.one (.int .i64 (a0h.wrap (a0z.wrap ((z:Int).tdiv 2)))))) kq kq ?_;intro ρ a w hS;have h2:(z:Int).tdiv 2=((z / 2:Nat):Int):=rfl;have:a0h.wrap (a0z.wrap ((z:Int).tdiv 2))=A6 z:=by rw [h2]; simp [a1s,a1t,a1p,A6,B8]; omega
  rw [this];exact ⟨rfl,hS.chg⟩
 ·have B8:¬ z % 2=0:=by
   have h1:(z:Int).tmod 2=((z % 2:Nat):Int):=rfl;rw [h1] at hb; simp at hb; omega
  refine V.run 100 [(2:Int)≠0] kq (by simp [B9])<|a4g (.v (.one (.int .i64 (a0h.wrap (0 - a0h.wrap (a0z.wrap ((a0z.wrap ((z:Int)+1)).tdiv 2))))))) kq kq ?_;intro ρ a w hS;have h0:a0z.wrap ((z:Int)+1)=((z+1:Nat):Int):=by simp [a1s,a1t,a1p]; omega
  have h2:(((z+1:Nat):Int)).tdiv 2=(((z+1) / 2:Nat):Int):=rfl;have:a0h.wrap (0 - a0h.wrap (a0z.wrap ((a0z.wrap ((z:Int)+1)).tdiv 2)))=A6 z:=by rw [h0,h2]; simp [a1s,a1t,a1p,A6,B8]; omega
  rw [this];exact ⟨rfl,hS.chg⟩
def n9 (n:Int):Bool:=decide (n>-2147483648)&&decide (n<2147483648)
theorem K1 (n:Int) (w:World):Calls a0a 53 #[.int .i64 n] w (u6 (.bool (n9 n)) w):=by
 exact H3 [.one (.int .i64 n)] false Tryz.func53 kq kq (by simp [a3s,a3t])<|V.u<|a4g (.v (.one (.sb (decide (n>-2147483648)&&decide (n<2147483648))))) kq kq<|fun ρ a w hS=>⟨rfl,hS.chg⟩
def A7 (X:RIn):Nat->RSt->Nat->Nat->Nat->Int×RSt
 | 0,r,_,_,_=>(0,r)
 | k+1,r,z,m,n =>
  let b:=(f6 X r).1
  let r':=(f6 X r).2
  let z':=z+b.toNat % 128*m
  if 128<=b.toNat/\n+1<6 then A7 X k r' z' (m*128) (n+1)
  else if 128<=b.toNat∨(1<n+1/\b.toNat=0)∨¬ n9 (A6 z')=true then (0,⟨r'.at_,true⟩) else (A6 z',r')
def c7 (X:RIn) (r:RSt):Int×RSt:=A7 X 6 r 0 1 0
structure RNI where
 r:RSt
 z:Nat
 m:Nat
 n:Nat
def Dl (X:RIn) (i:RNI):St:={ n:=48,slots:=[(0,ov (.ptr 0 0)),(3,ov (.int .u64 (i.z:Int))),(4,ov (.int .u64 (i.m:Int))),(6,ov (.int .i64 (i.n:Int))),(8,ov (.ptr 0 0))],gs:=[],heap:=(rdF [] X i.r).heap,next:=1,rows:=[],nr:=0,pers:=[],wr:=false,fx:=1 }
theorem F4 {X:RIn} {r:RSt} (h:j8 X r):j8 X (f6 X r).2:=by
 unfold f6;split
 ·exact ⟨h.1,by simp only; omega⟩
 ·exact h
theorem bT (X:RIn) (r:RSt) (h:j8 X r) (ρ:Nat->Nat) (w:World) (hF:x6 ρ (rdF [] X r) w) :
  Calls a0a 57 (([.one (.ptr 0 0)]:List CV).map (a2a ρ)).toArray w (RdR [] X r (.v (.one (.int .i64 (c7 X r).1))) (c7 X r).2 ρ w):=by
 refine i6 hF [.one (.ptr 0 0)] false Tryz.func57 kq kq (by simp [a3s,a3t,rdF,a5y])<|V.u<|C0 [0,3,4,6,8] [0] [] [] (λi:RNI=>6 - i.n) (Dl X) (λi=>j8 X i.r/\i.n<6/\i.m=128 ^ i.n/\i.z<128 ^ i.n/\A7 X (6 - i.n) i.r i.z i.m i.n=c7 X r) ⟨r,0,1,0⟩ kq ⟨h,by simp,by simp,by simp,rfl⟩ (λi hi ih=>?_);obtain ⟨r1,z,m,n⟩:=i;obtain ⟨g1,g2,g3,g4,g5⟩:=hi;simp only at g1 g2 g3 g4 g5;refine o5 90 [.one (.ptr 0 0)] [.one (.ptr 0 0)] [0] [] [] (rdF [] X r1) _ _ _ kq kq kq (λ_=>rfl) (λ_=>kq) (fun ρ w hF=>oJ X r1 g1 ρ w hF) ?_;rintro r2 rfl;generalize hb:(f6 X r1).1=b at *;have Gm:=b.toNat_lt;have hw:a0z.wrap ((b.toNat:Int).tmod 128)=((b.toNat % 128:Nat):Int):=by
  have:(b.toNat:Int).tmod 128=((b.toNat % 128:Nat):Int):=rfl;rw [this]; simp [a1s,a1t,a1p]; omega
 have hm:m<=34359738368:=by
  have:m<=128 ^ 5:=g3▸Nat.pow_le_pow_right (by omega) (by omega);simpa using this
 have hx:b.toNat % 128<=127:=by omega
 have hp:b.toNat % 128*m<=127*m:=Nat.mul_le_mul_right m hx;have Xr:z<m:=g3▸g4;have GH:((z+b.toNat % 128*m:Nat):Int)=(z:Int)+a0z.wrap ((b.toNat:Int).tmod 128)*(m:Int):=by rw [hw]; push_cast; rfl
 have kw:a0z.wrap ((b.toNat:Int).tmod 128)*(m:Int)=((b.toNat % 128*m:Nat):Int):=by rw [hw]; push_cast; rfl
 refine V.run 100 [(128:Int)≠0,inK .u64 (a0z.wrap ((b.toNat:Int).tmod 128)*(m:Int)),inK .u64 ((z:Int)+a0z.wrap ((b.toNat:Int).tmod 128)*(m:Int)),inK .u64 ((m:Int)*128),inK .i64 ((n:Int)+1)] kq ?_ ?_
 ·rw [<- GH,kw];simp only [B9,inK];omega
 refine f9 26 (decide ((b.toNat:Int)>=128)&&decide ((n:Int)+1<6)) (λhc=>?_) (λhc=>?_)
 ·have mD:128<=b.toNat/\n+1<6:=by simp at hc; omega
  refine V.u ?_;have e6:6 - n=(6 - (n+1))+1:=by omega
  have p1:A7 X (6 - (n+1)) (f6 X r1).2 (z+b.toNat % 128*m) (m*128) (n+1)=c7 X r:=by
   rw [<- g5,e6];simp only [A7,hb,if_pos mD]
  have key:=ih ⟨(f6 X r1).2,z+b.toNat % 128*m,m*128,n+1⟩ ⟨F4 g1,mD.2,by simp only [g3,a6c],by simp only [a6c,<- g3]; omega,p1⟩ (by simp only; omega);unfold Dl at key;have fS:((m*128:Nat):Int)=(m:Int)*128:=by push_cast; rfl
  have dc:((n+1:Nat):Int)=(n:Int)+1:=by push_cast; rfl
  simp only [GH,fS,dc] at key;exact s5 [0,3,4,6,8] [0] [] [] key kq kq
 ·have mD:¬ (128<=b.toNat/\n+1<6):=by simp at hc; omega
  refine V.u<|M8 91 [.one (.int .u64 ((z:Int)+a0z.wrap ((b.toNat:Int).tmod 128)*(m:Int)))] (.v (.one (.int .i64 (A6 (z+b.toNat % 128*m))))) kq kq (λ_ _ w _=>by
   have:=xr (z+b.toNat % 128*m) w (by omega);rw [GH] at this; exact this) ?_
  refine V.u ?_;have NA:c7 X r=if 128<=b.toNat∨(1<n+1/\b.toNat=0)∨¬ n9 (A6 (z+b.toNat % 128*m))=true then (0,⟨(f6 X r1).2.at_,true⟩) else (A6 (z+b.toNat % 128*m),(f6 X r1).2):=by
   rw [<- g5,show 6 - n=(6 - (n+1))+1 by omega];simp only [A7,hb,if_neg mD]
  rw [NA];refine sA 31 (decide ((b.toNat:Int)>=128)) kq (λh1=>?_) (λh1=>?_)
  ·have mE:128<=b.toNat:=by simp at h1; omega
   refine V.u ?_;rw [if_pos (.inl mE)];exact a6f 0<|p8 (⟨(f6 X r1).2.at_,true⟩:RSt) [] (.v (.one (.int .i64 0))) kq kq kq kq kq kq kq rfl
  ·have mE:¬ 128<=b.toNat:=by simp at h1; omega
   refine V.u<|nX 39 false (decide ((n:Int)+1>1)&&((b.toNat:Int)==0)) 53 [.one (.int .i64 (A6 (z+b.toNat % 128*m)))] (.one (.sb (n9 (A6 (z+b.toNat % 128*m))))) kq kq (λ_ _ _ w _=>K1 _ w)<|V.u<|f9 43 ((decide ((n:Int)+1>1)&&((b.toNat:Int)==0))||!(n9 (A6 (z+b.toNat % 128*m)))) (λh2=>?_) (λh2=>?_)
   ·have pS:128<=b.toNat∨(1<n+1/\b.toNat=0)∨¬ n9 (A6 (z+b.toNat % 128*m))=true:=by
     simp at h2;rcases h2 with h2 | h2
     ·exact .inr (.inl (by omega))
     ·exact .inr (.inr (by simp [h2]))
    refine V.u ?_;rw [if_pos pS];exact a6f 0<|p8 (⟨(f6 X r1).2.at_,true⟩:RSt) [] (.v (.one (.int .i64 0))) kq kq kq kq kq kq kq rfl
   ·have pS:¬ (128<=b.toNat∨(1<n+1/\b.toNat=0)∨¬ n9 (A6 (z+b.toNat % 128*m))=true):=by
     simp at h2;intro h3;rcases h3 with h3 | h3 | h3
     ·exact mE h3
     ·exact absurd h3.2 (by omega)
     ·exact h3 h2.2
    refine V.u ?_;rw [if_neg pS];exact p8 (⟨(f6 X r1).2.at_,(f6 X r1).2.bad⟩:RSt) [] (.v (.one (.int .i64 (A6 (z+b.toNat % 128*m))))) kq kq kq kq kq kq kq rfl
def E5 (X:RIn) (r:RSt):Bool×RSt:=((f6 X r).1.toNat==1,⟨(f6 X r).2.at_,(f6 X r).2.bad||decide (1<(f6 X r).1.toNat)⟩)
theorem Dm (X:RIn) (r:RSt) (h:j8 X r) (ρ:Nat->Nat) (w:World) (hF:x6 ρ (rdF [] X r) w) :
  Calls a0a 208 (([.one (.ptr 0 0)]:List CV).map (a2a ρ)).toArray w (RdR [] X r (.v (.one (.sb (E5 X r).1))) (E5 X r).2 ρ w):=by
 refine i6 hF [.one (.ptr 0 0)] false Tryz.func208 kq kq (by simp [a3s,a3t,rdF,a5y])<|V.u<|o5 90 [.one (.ptr 0 0)] [.one (.ptr 0 0)] [0] [] [] (rdF [] X r) _ _ _ kq kq kq (λ_=>rfl) (λ_=>kq) (fun ρ w hF=>oJ X r h ρ w hF) ?_;rintro r2 rfl;refine V.u<|p8 (⟨(f6 X r).2.at_,(f6 X r).2.bad||decide (((f6 X r).1.toNat:Int)>1)⟩:RSt) [] (.v (.one (.sb (((f6 X r).1.toNat:Int)==1)))) kq kq ?_ kq kq kq kq ?_
 ·have:(((f6 X r).1.toNat:Int)==1)=((f6 X r).1.toNat==1):=by rw [a6j]; simp; omega
  rw [this]; rfl
 ·simp only [E5];congr 2;rw [a6j]; simp; omega
theorem q5 {n:Int} (h:n9 n=true):I3 n:=by simp [n9] at h; exact ⟨by omega,by omega⟩
theorem rb (X:RIn):∀ (k:Nat) (r:RSt) (z m n:Nat),j8 X r->j8 X (A7 X k r z m n).2/\n9 (A7 X k r z m n).1=true
 | 0,r,_,_,_,h=>⟨h,rfl⟩
 | k+1,r,z,m,n,h=>by
  have h1:=F4 h;simp only [A7];split
  ·exact rb X k _ _ _ _ h1
  ·split
   ·exact ⟨h1,rfl⟩
   ·rename_i hn;refine ⟨h1,?_⟩;by_cases hh:n9 (A6 (z+(f6 X r).1.toNat % 128*m))=true
    ·exact hh
    ·exact absurd (.inr (.inr hh)) hn
theorem l9 {X:RIn} {r:RSt} (h:j8 X r):j8 X (c7 X r).2/\n9 (c7 X r).1=true:=rb X 6 r 0 1 0 h
def B4 (X:RIn) (r:RSt):List UInt8×RSt :=
 let n:=(c7 X r).1
 let r':=(c7 X r).2
 if n<0∨255<n∨(X.s.length:Int) - r'.at_<n then ([],⟨r'.at_,true⟩) else ((X.s.take (r'.at_+n.toNat)).drop r'.at_,⟨r'.at_+n.toNat,r'.bad⟩)
theorem Lh (X:RIn) (r:RSt) (h:j8 X r) (ρ:Nat->Nat) (w:World) (hF:x6 ρ (rdF [] X r) w) :
  Calls a0a 182 (([.one (.ptr 0 0)]:List CV).map (a2a ρ)).toArray w (RdR [] X r (.v (.one (.str (B4 X r).1))) (B4 X r).2 ρ w):=by
 obtain ⟨g1,g2⟩:=l9 h;have g2:=q5 g2;refine i6 hF [.one (.ptr 0 0)] false Tryz.func182 kq kq (by simp [a3s,a3t,rdF,a5y])<|V.u<|o5 57 [.one (.ptr 0 0)] [.one (.ptr 0 0)] [0] [] [] (rdF [] X r) _ _ _ kq kq kq (λ_=>rfl) (λ_=>kq) (fun ρ w hF=>bT X r h ρ w hF) ?_;rintro r2 rfl;generalize hn:(c7 X r).1=n at *;refine V.u<|mL 1000 [(decide (n<0)||decide (n>255))=false->inK .i64 ((X.s.length:Int) - ((c7 X r).2.at_:Int))] kq ?_ ?_
 ·have:=g1.1; have:=g1.2;simp only [B9,inK];exact λ_=>by omega
 refine V.u ?_;have q1:=g1.1;have q2:=g1.2;refine f9 25 ((decide (n<0)||decide (n>255))||decide (n>(X.s.length:Int) - ((c7 X r).2.at_:Int))) (λhb=>?_) (λhb=>?_)
 ·have B8:n<0∨255<n∨(X.s.length:Int) - (c7 X r).2.at_<n:=by simp at hb; omega
  refine V.u<|a6f 0<|p8 (⟨(c7 X r).2.at_,true⟩:RSt) [] (.v (.one (.str []))) kq kq ?_ kq kq kq kq ?_
  ·simp only [B4,hn,if_pos B8]; rfl
  ·simp only [B4,hn,if_pos B8]
 ·have B8:¬ (n<0∨255<n∨(X.s.length:Int) - (c7 X r).2.at_<n):=by simp at hb; omega
  have ib:n=(n.toNat:Int):=by omega
  refine V.run 100 [inK .i64 (((c7 X r).2.at_:Int)+n)] kq (by simp only [B9,inK]; omega)<|mL 1000 [inK .i64 (((c7 X r).2.at_:Int)+n - n),0<=((c7 X r).2.at_:Int)+n - n/\((c7 X r).2.at_:Int)+n - n<=((c7 X r).2.at_:Int)+n/\((c7 X r).2.at_:Int)+n<=(X.s.length:Int)] kq (by simp only [B9,inK]; omega)<|V.u ?_;have e1:(((c7 X r).2.at_+n.toNat:Nat):Int)=((c7 X r).2.at_:Int)+n:=by omega
  have e2:(((c7 X r).2.at_:Int)+n).toNat=(c7 X r).2.at_+n.toNat:=by omega
  have e3:(((c7 X r).2.at_:Int)+n - n).toNat=(c7 X r).2.at_:=by omega
  refine p8 (⟨(c7 X r).2.at_+n.toNat,(c7 X r).2.bad⟩:RSt) [] (.v (.one (.str ((X.s.take (((c7 X r).2.at_:Int)+n).toNat).drop (((c7 X r).2.at_:Int)+n - n).toNat)))) kq kq ?_ ?_ kq kq kq ?_
  ·simp only [B4,hn,if_neg B8,e2,e3]; rfl
  ·simp only [rdF,r8,e1]; kernel_rfl
  ·simp only [B4,hn,if_neg B8]
def E8 (X:RIn) (r:RSt):Ty×RSt :=
 let a:=c7 X r
 let b:=c7 X a.2
 let c:=c7 X b.2
 let d:=E5 X c.2
 let e:=B4 X d.2
 (⟨a.1,b.1,c.1,d.1,e.1⟩,e.2)
theorem aL {X:RIn} {r:RSt} (h:j8 X r):j8 X (E5 X r).2:=F4 h
theorem jx {X:RIn} {r:RSt} (h:j8 X r):j8 X (B4 X r).2:=by
 obtain ⟨h1,h2⟩:=(l9 h).1;unfold B4;simp only;split
 ·exact ⟨h1,h2⟩
 ·exact ⟨h1,by simp only; omega⟩
theorem Oj (X:RIn) (r:RSt) (h:j8 X r) (ρ:Nat->Nat) (w:World) (hF:x6 ρ (rdF [] X r) w) :
  Calls a0a 172 (([.one (.ptr 0 0)]:List CV).map (a2a ρ)).toArray w (RdR [] X r (.v (.agg (E8 X r).1.cells)) (E8 X r).2 ρ w):=by
 have h1:=(l9 h).1;have h2:=(l9 h1).1;have h3:=(l9 h2).1;have h4:=aL h3;refine i6 hF [.one (.ptr 0 0)] false Tryz.func172 kq kq (by simp [a3s,a3t,rdF,a5y])<|V.u<|o5 57 [.one (.ptr 0 0)] [.one (.ptr 0 0)] [0] [] [] (rdF [] X r) _ _ _ kq kq kq (λ_=>rfl) (λ_=>kq) (fun ρ w hF=>bT X r h ρ w hF) ?_;rintro r1 rfl;refine V.u<|o5 57 [.one (.ptr 0 0)] [.one (.ptr 0 0)] [0] [] [] (rdF [] X _) _ _ _ kq kq kq (λ_=>rfl) (λ_=>kq) (fun ρ w hF=>bT X _ h1 ρ w hF) ?_;rintro r1 rfl;refine V.u<|o5 57 [.one (.ptr 0 0)] [.one (.ptr 0 0)] [0] [] [] (rdF [] X _) _ _ _ kq kq kq (λ_=>rfl) (λ_=>kq) (fun ρ w hF=>bT X _ h2 ρ w hF) ?_;rintro r1 rfl;refine V.u<|o5 208 [.one (.ptr 0 0)] [.one (.ptr 0 0)] [0] [] [] (rdF [] X _) _ _ _ kq kq kq (λ_=>rfl) (λ_=>kq) (fun ρ w hF=>Dm X _ h3 ρ w hF) ?_;rintro r1 rfl;refine V.u<|o5 182 [.one (.ptr 0 0)] [.one (.ptr 0 0)] [0] [] [] (rdF [] X _) _ _ _ kq kq kq (λ_=>rfl) (λ_=>kq) (fun ρ w hF=>Lh X _ h4 ρ w hF) ?_;rintro r1 rfl;refine V.u<|p8 (⟨(E8 X r).2.at_,(E8 X r).2.bad⟩:RSt) [] (.v (.agg (E8 X r).1.cells)) kq kq kq kq kq kq kq rfl
def orB (n b:Int):Int:=IntKind.i32.wrap ((BitVec.ofInt 32 (IntKind.i32.wrap (n*2 ^ 8)) ||| BitVec.ofInt 32 (IntKind.i32.wrap b)).toNat:Int)
def m3 (X:RIn) (r:RSt):Int×RSt :=
 let a:=f6 X r
 let b:=f6 X a.2
 let c:=f6 X b.2
 let d:=f6 X c.2
 (a0h.wrap (orB (orB (orB (orB 0 a.1.toNat) b.1.toNat) c.1.toNat) d.1.toNat),d.2)
theorem Dn (X:RIn) (r:RSt) (h:j8 X r) (ρ:Nat->Nat) (w:World) (hF:x6 ρ (rdF [] X r) w) :
  Calls a0a 216 (([.one (.ptr 0 0)]:List CV).map (a2a ρ)).toArray w (RdR [] X r (.v (.one (.int .i64 (m3 X r).1))) (m3 X r).2 ρ w):=by
 have h1:=F4 h;have h2:=F4 h1;have h3:=F4 h2;refine i6 hF [.one (.ptr 0 0)] true Tryz.func216 kq kq (by simp [a3s,a3t,rdF,a5y])<|V.u<|a1l<|V.u<|m0 5 (decide ((0:Int)<4)) true rfl<|V.run 100 [(0:Int)<=8] kq (by simp [B9])<|o5 90 [.one (.ptr 0 0)] [.one (.ptr 0 0)] [0] [] [] (rdF [] X r) _ _ _ kq kq kq (λ_=>rfl) (λ_=>kq) (fun ρ w hF=>oJ X _ h ρ w hF) ?_;rintro r1 rfl;refine V.u<|a1l<|V.u<|m0 5 (decide ((1:Int)<4)) true rfl<|V.run 100 [(0:Int)<=8] kq (by simp [B9])<|o5 90 [.one (.ptr 0 0)] [.one (.ptr 0 0)] [0] [] [] (rdF [] X _) _ _ _ kq kq kq (λ_=>rfl) (λ_=>kq) (fun ρ w hF=>oJ X _ h1 ρ w hF) ?_;rintro r1 rfl;refine V.u<|a1l<|V.u<|m0 5 (decide ((2:Int)<4)) true rfl<|V.run 100 [(0:Int)<=8] kq (by simp [B9])<|o5 90 [.one (.ptr 0 0)] [.one (.ptr 0 0)] [0] [] [] (rdF [] X _) _ _ _ kq kq kq (λ_=>rfl) (λ_=>kq) (fun ρ w hF=>oJ X _ h2 ρ w hF) ?_;rintro r1 rfl;refine V.u<|a1l<|V.u<|m0 5 (decide ((3:Int)<4)) true rfl<|V.run 100 [(0:Int)<=8] kq (by simp [B9])<|o5 90 [.one (.ptr 0 0)] [.one (.ptr 0 0)] [0] [] [] (rdF [] X _) _ _ _ kq kq kq (λ_=>rfl) (λ_=>kq) (fun ρ w hF=>oJ X _ h3 ρ w hF) ?_;rintro r1 rfl;exact V.u<|a1l<|V.u<|m0 5 (decide ((4:Int)<4)) false rfl<|V.u<|p8 (⟨(m3 X r).2.at_,(m3 X r).2.bad⟩:RSt) [] (.v (.one (.int .i64 (m3 X r).1))) kq kq kq kq kq kq kq rfl
def vf (ps:List m6) (v:Int):St:={ n:=0,slots:=[],gs:=[],heap:=[(0,⟨[.int .i64 v],3,true⟩)],next:=1,rows:=[],nr:=0,pers:=ps,wr:=false }
def BxR (ps:List m6) (v:Int) (x:RV) (ρ:Nat->Nat) (w:World):Ending->World->Prop:=V0 ρ (vf ps v) (λ_:Unit=>True) (λ_=>x) (λ_=>vf [] v) w
theorem RB (a p v:Int) (ρ:Nat->Nat) (w:World) (hF:x6 ρ (vf [] v) w) :
  Calls a0a 282 (([.agg [.int .i64 a,.int .i64 p],.one (.ptr 0 0)]:List CV).map (a2a ρ)).toArray w (BxR [] v (.v (.one (.sb (a==v)))) ρ w):=by
 exact i6 hF [.agg [.int .i64 a,.int .i64 p],.one (.ptr 0 0)] false Tryz.func282 kq kq (by simp [a3s,a3t,vf,a5y])<|V.u<|p8 () [] (.v (.one (.sb (a==v)))) kq kq kq kq kq kq kq trivial
theorem kU {α:Type} (l:List α) (i:Nat) (d:α) (h:i<l.length):l.drop i=l.getD i d::l.drop (i+1):=by
 rw [a2k h]; simp [a0r,a0b h]
def j1 (rl:List (Int×Int)) (q:Option Addr) (c:Nat):Row:=d5 rlv (0,0) rl q c 62 2 false
def mx (v:Int):List (Int×Int)->Nat->Int
 | [],_=>-1
 | x::l,i=>if x.1==v then (i:Int) else mx v l (i+1)
def RC (rl:List (Int×Int)) (q:Option Addr) (c:Nat) (v:Int) (i:Nat):St :=
 { n:=19,slots:=[(0,ov (.row 0 q rl.length c)),(1,ov (.fn 282 [0])),(7,ov (.int .i64 (rl.length:Int))),(8,ov (.int .i64 (i:Int)))],gs:=[],
    heap:=[(0,⟨[.int .i64 v],3,true⟩)],next:=1,rows:=[(0,j1 rl q c)],nr:=1,pers:=[],wr:=false,fx:=1 }
theorem Li (rl:List (Int×Int)) (q:Option Addr) (c:Nat) (v:Int) (hl:rl.length<=1000000000) (ρ:Nat->Nat) (w:World) (hF:x6 ρ (vf [e8 (j1 rl q c)] v) w) :
  Calls a0a 281 (([.one (.val (.slice q rl.length c)),.one (.fn 282 [0])]:List CV).map (a2a ρ)).toArray w (BxR [e8 (j1 rl q c)] v (.v (.one (.int .i64 (mx v rl 0)))) ρ w):=by
 refine i6 hF [.one (.val (.slice q rl.length c)),.one (.fn 282 [0])] false Tryz.func281 kq kq (by simp [a3s,a3t,vf,a5y])<|V.u<|G4 0 0 (j1 rl q c)<|uC [0,1,7,8] [0] [0] [] (λi:Nat=>rl.length - i) (RC rl q c v) (λi=>i<=rl.length/\mx v (rl.drop i) i=mx v rl 0) 0 kq ⟨by omega,rfl⟩ (λi hi ih=>?_);obtain ⟨g1,g2⟩:=hi;refine V.u<|f9 9 (decide ((i:Int)<(rl.length:Int))) (λhb=>?_) (λhb=>?_)
 ·have B8:i<rl.length:=by simp at hb; omega
  have hd:rl.drop i=rl.getD i (0,0)::rl.drop (i+1):=kU rl i (0,0) B8;rw [hd] at g2;simp only [mx] at g2;refine V.run 100 [0<=(i:Int)/\(i:Int)<(rl.length:Int)] kq (by simp only [B9]; omega)<|o5 282 [.agg [.int .i64 (rl.getD i (0,0)).1,.int .i64 (rl.getD i (0,0)).2],.one (.ptr 0 0)] [.agg [.int .i64 (rl.getD i (0,0)).1,.int .i64 (rl.getD i (0,0)).2],.one (.ptr 0 0)] [0] [] [] (vf [] v) _ _ _
   kq kq kq (λ_=>rfl) (λ_=>kq) (fun ρ w hF=>RB _ _ v ρ w hF) ?_
  rintro _ _;refine V.u<|f9 16 ((rl.getD i (0,0)).1==v) (λh1=>?_) (λh1=>?_)
  ·rw [if_pos h1] at g2;refine V.u ?_;rw [<- g2];exact p8 () [] (.v (.one (.int .i64 (i:Int)))) kq kq kq kq kq kq kq trivial
  ·rw [if_neg (λe=>by rw [h1] at e; cases e)] at g2;refine V.run 100 [inK .i64 ((i:Int)+1)] kq (by simp only [B9,inK]; omega) ?_;have key:=ih (i+1) ⟨by omega,g2⟩ (by omega);exact dj [0,1,7,8] [0] [0] [] key kq kq
 ·have B8:i=rl.length:=by simp at hb; omega
  have:mx v rl 0=-1:=by rw [<- g2,B8,List.drop_length]; rfl
  rw [this];exact V.u<|p8 () [] (.v (.one (.int .i64 (-1)))) kq kq kq kq kq kq kq trivial
def Z1 (v:Int) (rl:List (Int×Int)):Option Int:=(rl.find? λx=>x.1==v).map (·.2)
theorem kV (v:Int):∀ (l:List (Int×Int)) (i:Nat),(mx v l i=-1/\Z1 v l=none)∨∃ j:Nat,j<l.length/\mx v l i=((i+j:Nat):Int)/\Z1 v l=some (l.getD j (0,0)).2
 | [],_=>.inl ⟨rfl,rfl⟩
 | x::l,i=>by
  by_cases h:(x.1==v)=true
  ·exact .inr ⟨0,by simp,by simp [mx,h],by simp [Z1,h]⟩
  ·have h':(x.1==v)=false:=by simpa using h
   rcases kV v l (i+1) with ⟨h1,h2⟩ | ⟨j,h1,h2,h3⟩
   ·exact .inl ⟨by simp [mx,h',h1],by simpa [Z1,h'] using h2⟩
   ·refine .inr ⟨j+1,by simpa using h1,?_,?_⟩
    ·simp only [mx,h',a4n,if_false,h2]; omega
    ·simpa [Z1,h'] using h3
def m4 (rl:List (Int×Int)) (v:Int) (r:RSt):Int×RSt :=
 match Z1 v rl with
 | some p=>(p,r)
 | none=>(0,⟨r.at_,true⟩)
theorem Do (rl:List (Int×Int)) (X:RIn) (hX:X.n=rl.length) (v:Int) (r:RSt) (hl:rl.length<=1000000000) (ρ:Nat->Nat) (w:World) (hF:x6 ρ (rdF [e8 (j1 rl X.q X.c)] X r) w) :
  Calls a0a 224 (([.one (.ptr 0 0),.one (.int .i64 v)]:List CV).map (a2a ρ)).toArray w (RdR [e8 (j1 rl X.q X.c)] X r (.v (.one (.int .i64 (m4 rl v r).1))) (m4 rl v r).2 ρ w):=by
 obtain ⟨s,q,n,c⟩:=X;simp only at hX hF;subst hX;refine i6 hF [.one (.ptr 0 0),.one (.int .i64 v)] false Tryz.func224 kq kq (by simp [a3s,a3t,rdF,a5y])<|V.u<|o5 281 [.one (.val (.slice q rl.length c)),.one (.fn 282 [1])] [.one (.val (.slice q rl.length c)),.one (.fn 282 [0])] [1] [] [true] (vf [e8 (j1 rl q c)] v) _ _ _
  kq kq kq (λ_=>rfl) (λ_=>kq) (fun ρ w hF=>Li rl q c v hl ρ w hF) ?_
 rintro _ _;refine V.u<|f9 13 (decide (mx v rl 0<0)) (λhb=>?_) (λhb=>?_)
 ·have hr:Z1 v rl=none:=by
   rcases kV v rl 0 with ⟨_,h2⟩ | ⟨j,_,h2,_⟩
   ·exact h2
   ·rw [h2] at hb; simp at hb; omega
  refine V.u<|a6f 0<|p8 (⟨r.at_,true⟩:RSt) [] (.v (.one (.int .i64 0))) kq kq ?_ kq kq kq kq ?_
  ·simp only [m4,hr]; rfl
  ·simp only [m4,hr]
 ·rcases kV v rl 0 with ⟨h2,_⟩ | ⟨j,h1,h2,hr⟩
  ·rw [h2] at hb; simp at hb
  ·rw [h2];simp only [Nat.zero_add];refine V.u<|G4 20 0 (j1 rl q c)<|V.run 100 [0<=((j:Nat):Int)/\((j:Nat):Int)<(rl.length:Int)] kq (by simp only [B9]; omega)<|p8 (⟨r.at_,r.bad⟩:RSt) [] (.v (.one (.int .i64 (rl.getD j (0,0)).2))) kq kq ?_ kq kq kq kq ?_
   ·simp only [m4,hr]; rfl
   ·simp only [m4,hr]
structure Fm where
 k:Int
 w:Int
 d:Int
 s:List UInt8
def Fm.cells (f:Fm):List SV:=[.int .i64 f.k,.int .i64 f.w,.int .i64 f.d,.str f.s]
structure In where
 op:Int
 d:Int
 a:Int
 b:Int
 t:Ty
 u:Ty
 w:Ty
 n:Int
 m:Int
 p:Int
 vn:Int
 vs:List UInt8
 f:List Fm
 l:List Int
 y:List Ty
 size:Bool
 range:Bool
def inC (x:In) (sf sl sy:SV):List SV :=
 [.int .i64 x.op,.int .i64 x.d,.int .i64 x.a,.int .i64 x.b,
   .int .i64 x.t.k,.int .i64 x.t.p,.int .i64 x.t.q,.sb x.t.v,.str x.t.s,
   .int .i64 x.u.k,.int .i64 x.u.p,.int .i64 x.u.q,.sb x.u.v,.str x.u.s,
   .int .i64 x.w.k,.int .i64 x.w.p,.int .i64 x.w.q,.sb x.w.v,.str x.w.s,
   .int .i64 x.n,.int .i64 x.m,.int .i64 x.p,.int .i64 x.vn,.str x.vs,sf,sl,sy,.sb x.size,.sb x.range]
structure IA where
 qf:Option Addr
 cf:Nat
 ql:Option Addr
 cl:Nat
 qy:Option Addr
 cy:Nat
def inV (x:In) (A:IA):List SV:=inC x (.val (.slice A.qf x.f.length A.cf)) (.val (.slice A.ql x.l.length A.cl)) (.val (.slice A.qy x.y.length A.cy))
structure Tg {α:Type} (s:α):Prop
abbrev Tg.i {α:Type} {s:α} (_:Tg s):α:=s
inductive Sel where
 | D | A | B | N | M | P
def Sel.fn:Sel->Nat
 | .D=>92 | .A=>93 | .B=>94 | .N=>95 | .M=>96 | .P=>97
def Sel.off:Sel->Nat
 | .D=>1 | .A=>2 | .B=>3 | .N=>19 | .M=>20 | .P=>21
def Sel.get:Sel->In->Int
 | .D,x=>x.d | .A,x=>x.a | .B,x=>x.b | .N,x=>x.n | .M,x=>x.m | .P,x=>x.p
def Sel.set:Sel->In->Int->In
 | .D,x,v=>{ x with d:=v } | .A,x,v=>{ x with a:=v } | .B,x,v=>{ x with b:=v } | .N,x,v=>{ x with n:=v } | .M,x,v=>{ x with m:=v } | .P,x,v=>{ x with p:=v }
def Sel.val (s:Sel):SV:=.val (.func (.func s.fn) #[] #[])
def Sel.blk (s:Sel) (g:Nat):m6:=r9 g [s.val] 159
theorem u4 (s:Sel) (g o:Nat) (w:World) (hg:g<w.heap.size):Calls a0a s.fn #[.pointer (some ⟨g,o,none⟩)] w (u6 (.pointer (some ⟨g,o+s.off,none⟩)) w):=by
 have fin:∀ (f:Nat) (off:Nat) (C:Ctx) (ρ:Nat->Nat) (a:Act) (w':World) (st:St),C.base=(λ_=>g)->st.fx=1->C.S=(λ_=>False)->C.w0=w->Sat C ρ st a w' ->
   u6 (.pointer (some ⟨g,off,none⟩)) w (.returned ((RV.v (.one (.ptr 0 off))).den ρ)) w':=by
  intro f off C ρ a w' st e1 e2 e3 e4 hS;have h0:=(hS.fix 0 (by rw [e2]; exact Nat.zero_lt_one)).2;rw [e1] at h0;have hc:=hS.chg;rw [e3,e4] at hc;refine ⟨?_,hc⟩;show Ending.returned (.pointer (some ⟨ρ 0,off,none⟩))=_;rw [h0]
 cases s
 case D =>
  exact w6 g o hg false Tryz.func92 kq kq<|V.u<|a4g (.v (.one (.ptr 0 (o+1)))) kq kq (fun ρ a w' hS=>fin 92 _ _ ρ a w' _ rfl kq rfl rfl hS)
 case A =>
  exact w6 g o hg false Tryz.func93 kq kq<|V.u<|a4g (.v (.one (.ptr 0 (o+2)))) kq kq (fun ρ a w' hS=>fin 92 _ _ ρ a w' _ rfl kq rfl rfl hS)
 case B =>
  exact w6 g o hg false Tryz.func94 kq kq<|V.u<|a4g (.v (.one (.ptr 0 (o+3)))) kq kq (fun ρ a w' hS=>fin 92 _ _ ρ a w' _ rfl kq rfl rfl hS)
 case N =>
  exact w6 g o hg false Tryz.func95 kq kq<|V.u<|a4g (.v (.one (.ptr 0 (o+19)))) kq kq (fun ρ a w' hS=>fin 92 _ _ ρ a w' _ rfl kq rfl rfl hS)
 case M =>
  exact w6 g o hg false Tryz.func96 kq kq<|V.u<|a4g (.v (.one (.ptr 0 (o+20)))) kq kq (fun ρ a w' hS=>fin 92 _ _ ρ a w' _ rfl kq rfl rfl hS)
 case P =>
  exact w6 g o hg false Tryz.func97 kq kq<|V.u<|a4g (.v (.one (.ptr 0 (o+21)))) kq kq (fun ρ a w' hS=>fin 92 _ _ ρ a w' _ rfl kq rfl rfl hS)
def cH (n:Int):Bool:=decide (n>=-1)&&decide (n<4000)
theorem vg (n:Int) (w:World):Calls a0a 152 #[.int .i64 n] w (u6 (.bool (cH n)) w):=by
 exact H3 [.one (.int .i64 n)] false Tryz.func152 kq kq (by simp [a3s,a3t])<|V.u<|a4g (.v (.one (.sb (decide (n>=-1)&&decide (n<4000))))) kq kq (fun ρ a w hS=>⟨rfl,hS.chg⟩)
theorem sL (s:Sel) (x:In) (A:IA) (cb:Nat) (w:World) (hp:C9 [s.blk cb] w) :
  Calls a0a 160 (([.agg (inV x A),.one (.val (.pointer (some ⟨cb,0,none⟩)))]:List CV).map (a2a λ_=>0)).toArray w (u6 (.bool (n9 (Sel.get s x))) w):=by
 have tg:Tg s:=⟨⟩;cases s
 all_goals
  exact z6 _ hp [.agg (inV x A),.one (.val (.pointer (some ⟨cb,0,none⟩)))] false Tryz.func160 kq kq kq<|V.u<|y8 0 159 cb 0 [Sel.val tg.i] 159 (.one (Sel.val tg.i))<|V.u<|u9 (Sel.fn tg.i) [.one (.ptr 0 0)] (.v (.one (.ptr 0 (0+Sel.off tg.i)))) kq kq (fun ρ a w hS=>u4 tg.i (ρ 0) 0 w (hS.lt 0 (by decide:0<1)))<|V.u<|M8 53 [.one (.int .i64 (Sel.get tg.i x))] (.v (.one (.sb (n9 (Sel.get tg.i x))))) kq kq (λ_ _ w _=>K1 _ w)<|V.u<|a4g (.v (.one (.sb (n9 (Sel.get tg.i x))))) kq kq (fun ρ a w hS=>⟨rfl,hS.chg⟩)
theorem sM (s:Sel) (x:In) (A:IA) (cb:Nat) (w:World) (hp:C9 [s.blk cb] w) :
  Calls a0a 151 (([.agg (inV x A),.one (.val (.pointer (some ⟨cb,0,none⟩)))]:List CV).map (a2a λ_=>0)).toArray w (u6 (.bool (cH (Sel.get s x))) w):=by
 have tg:Tg s:=⟨⟩;cases s
 all_goals
  exact z6 _ hp [.agg (inV x A),.one (.val (.pointer (some ⟨cb,0,none⟩)))] false Tryz.func151 kq kq kq<|V.u<|y8 0 159 cb 0 [Sel.val tg.i] 159 (.one (Sel.val tg.i))<|V.u<|u9 (Sel.fn tg.i) [.one (.ptr 0 0)] (.v (.one (.ptr 0 (0+Sel.off tg.i)))) kq kq (fun ρ a w hS=>u4 tg.i (ρ 0) 0 w (hS.lt 0 (by decide:0<1)))<|V.u<|M8 152 [.one (.int .i64 (Sel.get tg.i x))] (.v (.one (.sb (cH (Sel.get tg.i x))))) kq kq (λ_ _ w _=>vg _ w)<|V.u<|a4g (.v (.one (.sb (cH (Sel.get tg.i x))))) kq kq (fun ρ a w hS=>⟨rfl,hS.chg⟩)
def C6 (n:Int):List SV:=[.int .i64 n]
def fm0:Fm:=⟨0,0,0,[]⟩
def ty0:Ty:=⟨0,0,0,false,[]⟩
def inO (x:In) (A:IA):List SV:=inC x (.row 0 A.qf x.f.length A.cf) (.row 1 A.ql x.l.length A.cl) (.row 2 A.qy x.y.length A.cy)
def S4 (x:In) (A:IA):List (Nat×Row):=[(0,d5 Fm.cells fm0 x.f A.qf A.cf 93 4 true),(1,d5 C6 0 x.l A.ql A.cl 3 1 true),(2,d5 Ty.cells ty0 x.y A.qy A.cy 23 5 true)]
def gtF (ps:List m6) (X:RIn) (r:RSt) (x:In) (A:IA):St :=
 { n:=0,slots:=[],gs:=[],heap:=[(0,⟨[.str X.s,.int .i64 (r.at_:Int),.val (.slice X.q X.n X.c),.sb r.bad],104,true⟩),(1,⟨inO x A,30,true⟩)],next:=2,rows:=S4 x A,nr:=3,pers:=ps,wr:=false }
def GtR (ps:List m6) (X:RIn) (r:RSt) (x:In) (A:IA) (r':RSt) (x':In) (ρ:Nat->Nat) (w:World):Ending->World->Prop :=
 V0 ρ (gtF ps X r x A) (λy:RSt×In×IA=>y.1=r'/\y.2.1=x') (λ_=>.tup []) (λy=>gtF [] X y.1 y.2.1 y.2.2) w
theorem xt (s:Sel) (x:In) (A:IA) (cb:Nat) (b:WSt) (hx:I3 (s.get x)) (hb:b.bs.length<=800000000) (ρ:Nat->Nat) (w:World) (hF:x6 ρ (wrF [s.blk cb] b) w) :
  Calls a0a 161 (([.one (.ptr 0 0),.agg (inV x A),.one (.val (.pointer (some ⟨cb,0,none⟩)))]:List CV).map (a2a ρ)).toArray w (WrR [s.blk cb] b (N3 (Sel.get s x)) [] ρ w):=by
 have tg:Tg s:=⟨⟩;have hx:I3 (tg.i.get x):=hx;cases s
 all_goals
  refine i6 hF [.one (.ptr 0 0),.agg (inV x A),.one (.val (.pointer (some ⟨cb,0,none⟩)))] false Tryz.func161 kq kq (by simp [a3s,a3t,wrF,a5y,inV,inC])<|V.u<|y8 0 159 cb 0 [Sel.val tg.i] 159 (.one (Sel.val tg.i))<|V.u<|u9 (Sel.fn tg.i) [.one (.ptr 1 0)] (.v (.one (.ptr 1 (0+Sel.off tg.i)))) kq kq (fun ρ a w hS=>u4 tg.i (ρ 1) 0 w (hS.lt 1 (by decide:1<2)))<|V.u<|o5 54 [.one (.ptr 0 0),.one (.int .i64 (Sel.get tg.i x))] [.one (.ptr 0 0),.one (.int .i64 (Sel.get tg.i x))] [0] [0,1] [false] (wrF [] b) _ _ _ kq kq kq (λ_=>rfl) (λ_=>kq) (fun ρ w hF=>bS _ b hx.1 hx.2 (by omega) ρ w hF) ?_;intro b1 e1;exact V.u<|p8 (⟨b1.bs,b1.q,b1.c,b1.rs,b1.q2,b1.c2⟩:WSt) [2,3] (.tup []) kq kq kq kq kq kq kq ⟨e1.1,e1.2⟩
theorem xu (s:Sel) (x:In) (A:IA) (cb:Nat) (b:WSt) (h1:-1<=s.get x) (h2:s.get x<4000) (hb:b.bs.length<=800000000) (ρ:Nat->Nat) (w:World) (hF:x6 ρ (wrF [s.blk cb] b) w) :
  Calls a0a 153 (([.one (.ptr 0 0),.agg (inV x A),.one (.val (.pointer (some ⟨cb,0,none⟩)))]:List CV).map (a2a ρ)).toArray w (WrR [s.blk cb] b (N3 (Sel.get s x+1)) [] ρ w):=by
 have tg:Tg s:=⟨⟩;have h1:-1<=tg.i.get x:=h1;have h2:tg.i.get x<4000:=h2;cases s
 all_goals
  refine i6 hF [.one (.ptr 0 0),.agg (inV x A),.one (.val (.pointer (some ⟨cb,0,none⟩)))] false Tryz.func153 kq kq (by simp [a3s,a3t,wrF,a5y,inV,inC])<|V.u<|y8 0 159 cb 0 [Sel.val tg.i] 159 (.one (Sel.val tg.i))<|V.u<|u9 (Sel.fn tg.i) [.one (.ptr 1 0)] (.v (.one (.ptr 1 (0+Sel.off tg.i)))) kq kq (fun ρ a w hS=>u4 tg.i (ρ 1) 0 w (hS.lt 1 (by decide:1<2)))<|V.run 100 [inK .i64 (Sel.get tg.i x+1)] kq (by simp only [B9,inK]; omega)<|o5 54 [.one (.ptr 0 0),.one (.int .i64 (Sel.get tg.i x+1))] [.one (.ptr 0 0),.one (.int .i64 (Sel.get tg.i x+1))] [0] [0,1] [false] (wrF [] b) _ _ _ kq kq kq (λ_=>rfl) (λ_=>kq) (fun ρ w hF=>bS _ b (by omega) (by omega) (by omega) ρ w hF) ?_;intro b1 e1;exact V.u<|p8 (⟨b1.bs,b1.q,b1.c,b1.rs,b1.q2,b1.c2⟩:WSt) [2,3] (.tup []) kq kq kq kq kq kq kq ⟨e1.1,e1.2⟩
theorem xw (s:Sel) (X:RIn) (r:RSt) (x:In) (A:IA) (cb:Nat) (h:j8 X r) (ρ:Nat->Nat) (w:World) (hF:x6 ρ (gtF [s.blk cb] X r x A) w) :
  Calls a0a 162 (([.one (.ptr 0 0),.one (.ptr 1 0),.one (.val (.pointer (some ⟨cb,0,none⟩)))]:List CV).map (a2a ρ)).toArray w (GtR [s.blk cb] X r x A (c7 X r).2 (s.set x ((c7 X r).1)) ρ w):=by
 have tg:Tg s:=⟨⟩;cases s
 all_goals
  refine i6 hF [.one (.ptr 0 0),.one (.ptr 1 0),.one (.val (.pointer (some ⟨cb,0,none⟩)))] false Tryz.func162 kq kq (by simp [a3s,a3t,gtF,a5y])<|V.u<|y8 0 159 cb 0 [Sel.val tg.i] 159 (.one (Sel.val tg.i))<|V.u<|u9 (Sel.fn tg.i) [.one (.ptr 1 0)] (.v (.one (.ptr 1 (0+Sel.off tg.i)))) kq kq (fun ρ a w hS=>u4 tg.i (ρ 1) 0 w (hS.lt 1 (by decide:1<2)))<|V.u<|o5 57 [.one (.ptr 0 0)] [.one (.ptr 0 0)] [0] [] [false] (rdF [] X r) _ _ _ kq kq kq (λ_=>rfl) (λ_=>kq) (fun ρ w hF=>bT X r h ρ w hF) ?_;rintro r1 rfl;exact V.u<|p8 (⟨(c7 X r).2,Sel.set tg.i x ((c7 X r).1),A⟩:RSt×In×IA) [0,1,2] (.tup []) kq kq kq kq kq kq kq ⟨rfl,rfl⟩
theorem xx (s:Sel) (X:RIn) (r:RSt) (x:In) (A:IA) (cb:Nat) (h:j8 X r) (ρ:Nat->Nat) (w:World) (hF:x6 ρ (gtF [s.blk cb] X r x A) w) :
  Calls a0a 154 (([.one (.ptr 0 0),.one (.ptr 1 0),.one (.val (.pointer (some ⟨cb,0,none⟩)))]:List CV).map (a2a ρ)).toArray w (GtR [s.blk cb] X r x A (c7 X r).2 (s.set x ((c7 X r).1 - 1)) ρ w):=by
 have tg:Tg s:=⟨⟩;cases s
 all_goals
  obtain ⟨q1,q2⟩:I3 (c7 X r).1:=q5 (l9 h).2;refine i6 hF [.one (.ptr 0 0),.one (.ptr 1 0),.one (.val (.pointer (some ⟨cb,0,none⟩)))] false Tryz.func154 kq kq (by simp [a3s,a3t,gtF,a5y])<|V.u<|y8 0 159 cb 0 [Sel.val tg.i] 159 (.one (Sel.val tg.i))<|V.u<|u9 (Sel.fn tg.i) [.one (.ptr 1 0)] (.v (.one (.ptr 1 (0+Sel.off tg.i)))) kq kq (fun ρ a w hS=>u4 tg.i (ρ 1) 0 w (hS.lt 1 (by decide:1<2)))<|V.u<|o5 57 [.one (.ptr 0 0)] [.one (.ptr 0 0)] [0] [] [false] (rdF [] X r) _ _ _ kq kq kq (λ_=>rfl) (λ_=>kq) (fun ρ w hF=>bT X r h ρ w hF) ?_;rintro r1 rfl;exact V.run 100 [inK .i64 ((c7 X r).1 - 1)] kq (by simp only [B9,inK]; omega)<|p8 (⟨(c7 X r).2,Sel.set tg.i x ((c7 X r).1 - 1),A⟩:RSt×In×IA) [0,1,2] (.tup []) kq kq kq kq kq kq kq ⟨rfl,rfl⟩
def mvF (ps:List m6) (y:In) (B:IA):St:={ n:=0,slots:=[],gs:=[],heap:=[(0,⟨inV y B,30,true⟩)],next:=1,rows:=[],nr:=0,pers:=ps,wr:=false }
def MvR (ps:List m6) (y:In) (B:IA) (y':In) (B':IA) (ρ:Nat->Nat) (w:World):Ending->World->Prop :=
 V0 ρ (mvF ps y B) (λz:In×IA=>z=(y',B')) (λ_=>.tup []) (λz=>mvF [] z.1 z.2) w
theorem Y6 (s:Sel) (x y:In) (A B:IA) (cb:Nat) (ρ:Nat->Nat) (w:World) (hF:x6 ρ (mvF [s.blk cb] y B) w) :
  Calls a0a 159 (([.one (.ptr 0 0),.agg (inV x A),.one (.val (.pointer (some ⟨cb,0,none⟩)))]:List CV).map (a2a ρ)).toArray w (MvR [s.blk cb] y B (s.set y (s.get x)) B ρ w):=by
 have tg:Tg s:=⟨⟩;cases s
 all_goals
  exact i6 hF [.one (.ptr 0 0),.agg (inV x A),.one (.val (.pointer (some ⟨cb,0,none⟩)))] false Tryz.func159 kq kq (by simp [a3s,a3t,mvF,a5y,inV,inC])<|V.u<|mN 2 cb [Sel.val tg.i] 159 kq kq kq kq kq<|mM 8 (Sel.fn tg.i) [.one (.ptr 0 0)] (.v (.one (.ptr 0 (0+Sel.off tg.i)))) (Sel.fn tg.i) [.one (.ptr 1 0)] (.v (.one (.ptr 1 (0+Sel.off tg.i)))) kq kq kq kq (fun ρ a w hS=>u4 tg.i (ρ 0) 0 w (hS.lt 0 (a0w kq))) kq kq kq (fun ρ a w hS=>u4 tg.i (ρ 1) 0 w (hS.lt 1 (a0w kq))) kq<|V.u<|p8 ((Sel.set tg.i y (Sel.get tg.i x),B):In×IA) [] (.tup []) kq kq kq kq kq kq kq rfl
theorem Dp (w:World) (k:Nat) (os:Array Obj):Chg (λ_=>False) w (Sort.grow (w.drewN k) os) :=
 ⟨rfl,rfl,rfl,by simp [Sort.grow,World.drewN],λi hi _=>by simp [Sort.grow,World.drewN,Array.getElem?_append_left hi]⟩
def Hr (name:String) (cs:Array Value):m6:=⟨λk=>a0a.globalNamed name=some k,λw=>w.var? a0a name=some cs⟩
theorem vh (name:String) (cs:Array Value) (w w':World) (h:(Hr name cs).φ w) (hk:∀ k,(Hr name cs).D k->w'.heap[k]?=w.heap[k]?):(Hr name cs).φ w':=by
 show w'.var? a0a name=some cs;have h':w.var? a0a name=some cs:=h;unfold World.var? at h' ⊢;cases hg:a0a.globalNamed name with
 | none=>rw [hg] at h'; cases h'
 | some g =>
  rw [hg] at h';simp only [Option.bind_some] at h' ⊢;rw [hk g hg]; exact h'
def bC:m6:=Hr "internal/strconv.uint64pow10" (Lib.pow10Tab.map λz=>Value.int .u64 z).toArray
theorem br (n:Int) (h0:-9223372036854775808<=n) (h1:n<=9223372036854775807) (w:World) (htab:bC.φ w) :
  Calls a0a 123 #[.int .i64 n] w (u6 (.string ⟨(a0i n).toArray⟩) w):=by
 refine (Tryz.strconv_Itoa n h0 h1 w htab).mono ?_;rintro e w' ⟨rfl,k,os,rfl⟩;exact ⟨rfl,Dp w k os⟩
def P8 (n:Int):List UInt8:=if n<0 then [45] else 114::a0i n
theorem qm (n:Int) (h0:-9223372036854775808<=n) (h1:n<=9223372036854775807) (hl:(a0i n).length<=100) (w:World) (hp:C9 [bC] w) :
  Calls a0a 156 (([.one (.int .i64 n)]:List CV).map (a2a λ_=>0)).toArray w (u6 (.string ⟨(P8 n).toArray⟩) w):=by
 refine z6 _ hp [.one (.int .i64 n)] false Tryz.func156 kq kq kq<|V.u<|f9 4 (decide (n<0)) (λhb=>?_) (λhb=>?_)
 ·have B8:n<0:=by simpa using hb
  refine V.u ?_;simp only [P8,if_pos B8];exact a4g (.v (.one (.str [45]))) kq kq (fun ρ a w hS=>⟨rfl,hS.chg⟩)
 ·have B8:¬ n<0:=by simpa using hb
  refine V.u<|M8 123 [.one (.int .i64 n)] (.v (.one (.str (a0i n)))) kq kq (fun ρ a w hS=>br n h0 h1 w (hS.pers bC (a0v (i:=0) kq)).1)<|V.run 100 [(1+(a0i n).length:Nat)<=9223372036854775807] kq (by simp only [B9]; omega) ?_;simp only [P8,if_neg B8];exact a4g (.v (.one (.str ([114]++a0i n)))) kq kq (fun ρ a w hS=>⟨rfl,hS.chg⟩)
def hH (n:Int):Prop:=-9223372036854775808<=n/\n<=9223372036854775807
theorem sN (s:Sel) (x:In) (A:IA) (cb:Nat) (hx:hH (s.get x)) (w:World) (hp:C9 [bC,s.blk cb] w) :
  Calls a0a 163 (([.agg (inV x A),.one (.val (.pointer (some ⟨cb,0,none⟩)))]:List CV).map (a2a λ_=>0)).toArray w (u6 (.string ⟨(a0i (Sel.get s x)).toArray⟩) w):=by
 have tg:Tg s:=⟨⟩;have hx:hH (tg.i.get x):=hx;cases s
 all_goals
  exact z6 _ hp [.agg (inV x A),.one (.val (.pointer (some ⟨cb,0,none⟩)))] false Tryz.func163 kq kq kq<|V.u<|y8 1 159 cb 0 [Sel.val tg.i] 159 (.one (Sel.val tg.i))<|V.u<|u9 (Sel.fn tg.i) [.one (.ptr 0 0)] (.v (.one (.ptr 0 (0+Sel.off tg.i)))) kq kq (fun ρ a w hS=>u4 tg.i (ρ 0) 0 w (hS.lt 0 (by decide:0<1)))<|V.u<|M8 123 [.one (.int .i64 (Sel.get tg.i x))] (.v (.one (.str (a0i (Sel.get tg.i x))))) kq kq (fun ρ a w hS=>br _ hx.1 hx.2 w (hS.pers bC (a0v (i:=0) kq)).1)<|V.u<|a4g (.v (.one (.str (a0i (Sel.get tg.i x))))) kq kq (fun ρ a w hS=>⟨rfl,hS.chg⟩)
theorem oK (s:Sel) (x:In) (A:IA) (cb:Nat) (hx:hH (s.get x)) (hl:(a0i (s.get x)).length<=100) (w:World) (hp:C9 [bC,s.blk cb] w) :
  Calls a0a 155 (([.agg (inV x A),.one (.val (.pointer (some ⟨cb,0,none⟩)))]:List CV).map (a2a λ_=>0)).toArray w (u6 (.string ⟨(P8 (Sel.get s x)).toArray⟩) w):=by
 have tg:Tg s:=⟨⟩;have hl:(a0i (tg.i.get x)).length<=100:=hl;have hx:hH (tg.i.get x):=hx;cases s
 all_goals
  exact z6 _ hp [.agg (inV x A),.one (.val (.pointer (some ⟨cb,0,none⟩)))] false Tryz.func155 kq kq kq<|V.u<|y8 1 159 cb 0 [Sel.val tg.i] 159 (.one (Sel.val tg.i))<|V.u<|u9 (Sel.fn tg.i) [.one (.ptr 0 0)] (.v (.one (.ptr 0 (0+Sel.off tg.i)))) kq kq (fun ρ a w hS=>u4 tg.i (ρ 0) 0 w (hS.lt 0 (by decide:0<1)))<|V.u<|M8 156 [.one (.int .i64 (Sel.get tg.i x))] (.v (.one (.str (P8 (Sel.get tg.i x))))) kq kq (fun ρ a w hS=>qm _ hx.1 hx.2 hl w (hS.persOk [true,false]))<|V.u<|a4g (.v (.one (.str (P8 (Sel.get tg.i x))))) kq kq (fun ρ a w hS=>⟨rfl,hS.chg⟩)
def J4 (t:Ty):Bool:=n9 t.k&&n9 t.p&&n9 t.q&&decide ((t.s.length:Int)<=255)
theorem sO (t:Ty) (w:World):Calls a0a 168 (([.agg t.cells]:List CV).map (a2a λ_=>0)).toArray w (u6 (.bool (J4 t)) w):=by
 exact H3 [.agg t.cells] false Tryz.func168 kq kq (by simp [a3s,a3t,Ty.cells])<|V.u<|M8 53 [.one (.int .i64 t.k)] (.v (.one (.sb (n9 t.k)))) kq kq (λ_ _ w _=>K1 _ w)<|V.u<|nX 6 true (n9 t.k) 53 [.one (.int .i64 t.p)] (.one (.sb (n9 t.p))) kq kq (λ_ _ _ w _=>K1 _ w)<|V.u<|nX 11 true (n9 t.k&&n9 t.p) 53 [.one (.int .i64 t.q)] (.one (.sb (n9 t.q))) kq kq (λ_ _ _ w _=>K1 _ w)<|V.u<|a4g (.v (.one (.sb (J4 t)))) kq kq (fun ρ a w hS=>⟨rfl,hS.chg⟩)
inductive m7 where
 | T | U | W
def m7.fn:m7->Nat
 | .T=>101 | .U=>102 | .W=>103
def m7.off:m7->Nat
 | .T=>4 | .U=>9 | .W=>14
def m7.get:m7->In->Ty
 | .T,x=>x.t | .U,x=>x.u | .W,x=>x.w
def m7.set:m7->In->Ty->In
 | .T,x,v=>{ x with t:=v } | .U,x,v=>{ x with u:=v } | .W,x,v=>{ x with w:=v }
def m7.val (s:m7):SV:=.val (.func (.func s.fn) #[] #[])
def m7.blk (s:m7) (g:Nat):m6:=r9 g [s.val] 169
theorem bU {g off:Nat} {C:Ctx} {ρ:Nat->Nat} {a:Act} {w w':World} {st:St} (e1:C.base=(λ_=>g)) (e2:st.fx=1) (e3:C.S=(λ_=>False)) (e4:C.w0=w) (hS:Sat C ρ st a w') :
  u6 (.pointer (some ⟨g,off,none⟩)) w (.returned ((RV.v (.one (.ptr 0 off))).den ρ)) w':=by
 have h0:=(hS.fix 0 (by rw [e2]; exact Nat.zero_lt_one)).2;rw [e1] at h0;have hc:=hS.chg;rw [e3,e4] at hc;refine ⟨?_,hc⟩;show Ending.returned (.pointer (some ⟨ρ 0,off,none⟩))=_;rw [h0]
theorem X4 (s:m7) (g o:Nat) (w:World) (hg:g<w.heap.size):Calls a0a s.fn #[.pointer (some ⟨g,o,none⟩)] w (u6 (.pointer (some ⟨g,o+s.off,none⟩)) w):=by
 cases s
 case T =>
  exact w6 g o hg false Tryz.func101 kq kq<|V.u<|a4g (.v (.one (.ptr 0 (o+4)))) kq kq (fun ρ a w' hS=>bU rfl kq rfl rfl hS)
 case U =>
  exact w6 g o hg false Tryz.func102 kq kq<|V.u<|a4g (.v (.one (.ptr 0 (o+9)))) kq kq (fun ρ a w' hS=>bU rfl kq rfl rfl hS)
 case W =>
  exact w6 g o hg false Tryz.func103 kq kq<|V.u<|a4g (.v (.one (.ptr 0 (o+14)))) kq kq (fun ρ a w' hS=>bU rfl kq rfl rfl hS)
theorem xy (s:m7) (x:In) (A:IA) (cb:Nat) (w:World) (hp:C9 [s.blk cb] w) :
  Calls a0a 167 (([.agg (inV x A),.one (.val (.pointer (some ⟨cb,0,none⟩)))]:List CV).map (a2a λ_=>0)).toArray w (u6 (.bool (J4 (s.get x))) w):=by
 have tg:Tg s:=⟨⟩;cases s
 all_goals
  exact z6 _ hp [.agg (inV x A),.one (.val (.pointer (some ⟨cb,0,none⟩)))] false Tryz.func167 kq kq kq<|V.u<|y8 0 169 cb 0 [m7.val tg.i] 169 (.one (m7.val tg.i))<|V.u<|u9 (m7.fn tg.i) [.one (.ptr 0 0)] (.v (.one (.ptr 0 (0+m7.off tg.i)))) kq kq (fun ρ a w hS=>X4 tg.i (ρ 0) 0 w (hS.lt 0 (a0w kq)))<|V.u<|M8 168 [.agg (Ty.cells (m7.get tg.i x))] (.v (.one (.sb (J4 (m7.get tg.i x))))) kq kq (λ_ _ w _=>sO _ w)<|V.u<|a4g (.v (.one (.sb (J4 (m7.get tg.i x))))) kq kq (fun ρ a w hS=>⟨rfl,hS.chg⟩)
theorem Dq (s:m7) (x:In) (A:IA) (cb:Nat) (b:WSt) (h1:I3 (s.get x).k) (h2:I3 (s.get x).p) (h3:I3 (s.get x).q) (hl:(s.get x).s.length<=50000000) (hb:b.bs.length<=800000000) (ρ:Nat->Nat) (w:World) (hF:x6 ρ (wrF [s.blk cb] b) w) :
  Calls a0a 169 (([.one (.ptr 0 0),.agg (inV x A),.one (.val (.pointer (some ⟨cb,0,none⟩)))]:List CV).map (a2a ρ)).toArray w (WrR [s.blk cb] b (M9 (s.get x)) [] ρ w):=by
 have tg:Tg s:=⟨⟩;have h1:I3 (tg.i.get x).k:=h1;have h2:I3 (tg.i.get x).p:=h2;have h3:I3 (tg.i.get x).q:=h3;have hl:(tg.i.get x).s.length<=50000000:=hl;cases s
 all_goals
  refine i6 hF [.one (.ptr 0 0),.agg (inV x A),.one (.val (.pointer (some ⟨cb,0,none⟩)))] false Tryz.func169 kq kq (by simp [a3s,a3t,wrF,a5y,inV,inC])<|V.u<|y8 0 169 cb 0 [m7.val tg.i] 169 (.one (m7.val tg.i))<|V.u<|u9 (m7.fn tg.i) [.one (.ptr 1 0)] (.v (.one (.ptr 1 (0+m7.off tg.i)))) kq kq (fun ρ a w hS=>X4 tg.i (ρ 1) 0 w (hS.lt 1 (a0w kq)))<|V.u<|o5 170 [.one (.ptr 0 0),.agg (Ty.cells (m7.get tg.i x))] [.one (.ptr 0 0),.agg (Ty.cells (m7.get tg.i x))] [0] [0,1] [false] (wrF [] b) _ _ _ kq kq kq (λ_=>rfl) (λ_=>kq) (fun ρ w hF=>Oi _ b h1 h2 h3 hl hb ρ w hF) ?_;intro b1 e1;exact V.u<|p8 (⟨b1.bs,b1.q,b1.c,b1.rs,b1.q2,b1.c2⟩:WSt) [2,3] (.tup []) kq kq kq kq kq kq kq ⟨e1.1,e1.2⟩
theorem Dr (s:m7) (X:RIn) (r:RSt) (x:In) (A:IA) (cb:Nat) (h:j8 X r) (ρ:Nat->Nat) (w:World) (hF:x6 ρ (gtF [s.blk cb] X r x A) w) :
  Calls a0a 171 (([.one (.ptr 0 0),.one (.ptr 1 0),.one (.val (.pointer (some ⟨cb,0,none⟩)))]:List CV).map (a2a ρ)).toArray w (GtR [s.blk cb] X r x A (E8 X r).2 (s.set x (E8 X r).1) ρ w):=by
 have tg:Tg s:=⟨⟩;cases s
 all_goals
  refine i6 hF [.one (.ptr 0 0),.one (.ptr 1 0),.one (.val (.pointer (some ⟨cb,0,none⟩)))] false Tryz.func171 kq kq (by simp [a3s,a3t,gtF,a5y])<|V.u<|y8 0 169 cb 0 [m7.val tg.i] 169 (.one (m7.val tg.i))<|V.u<|u9 (m7.fn tg.i) [.one (.ptr 1 0)] (.v (.one (.ptr 1 (0+m7.off tg.i)))) kq kq (fun ρ a w hS=>X4 tg.i (ρ 1) 0 w (hS.lt 1 (a0w kq)))<|V.u<|o5 172 [.one (.ptr 0 0)] [.one (.ptr 0 0)] [0] [] [false] (rdF [] X r) _ _ _ kq kq kq (λ_=>rfl) (λ_=>kq) (fun ρ w hF=>Oj X r h ρ w hF) ?_;rintro r1 rfl;exact V.u<|p8 (⟨(E8 X r).2,m7.set tg.i x (E8 X r).1,A⟩:RSt×In×IA) [0,1,2] (.tup []) kq kq kq kq kq kq kq ⟨rfl,rfl⟩
theorem xz (s:m7) (x y:In) (A B:IA) (cb:Nat) (ρ:Nat->Nat) (w:World) (hF:x6 ρ (mvF [s.blk cb] y B) w) :
  Calls a0a 166 (([.one (.ptr 0 0),.agg (inV x A),.one (.val (.pointer (some ⟨cb,0,none⟩)))]:List CV).map (a2a ρ)).toArray w (MvR [s.blk cb] y B (s.set y (s.get x)) B ρ w):=by
 have tg:Tg s:=⟨⟩;cases s
 all_goals
  exact i6 hF [.one (.ptr 0 0),.agg (inV x A),.one (.val (.pointer (some ⟨cb,0,none⟩)))] false Tryz.func166 kq kq (by simp [a3s,a3t,mvF,a5y,inV,inC])<|V.u<|mN 2 cb [m7.val tg.i] 169 kq kq kq kq kq<|mM 8 (m7.fn tg.i) [.one (.ptr 0 0)] (.v (.one (.ptr 0 (0+m7.off tg.i)))) (m7.fn tg.i) [.one (.ptr 1 0)] (.v (.one (.ptr 1 (0+m7.off tg.i)))) kq kq kq kq (fun ρ a w hS=>X4 tg.i (ρ 0) 0 w (hS.lt 0 (a0w kq))) kq kq kq (fun ρ a w hS=>X4 tg.i (ρ 1) 0 w (hS.lt 1 (a0w kq))) kq<|V.u<|p8 ((m7.set tg.i y (m7.get tg.i x),B):In×IA) [] (.tup []) kq kq kq kq kq kq kq rfl
inductive m8 where
 | S | R
def m8.fn:m8->Nat
 | .S=>109 | .R=>110
def m8.off:m8->Nat
 | .S=>27 | .R=>28
def m8.get:m8->In->Bool
 | .S,x=>x.size | .R,x=>x.range
def m8.set:m8->In->Bool->In
 | .S,x,v=>{ x with size:=v } | .R,x,v=>{ x with range:=v }
def m8.val (s:m8):SV:=.val (.func (.func s.fn) #[] #[])
def m8.blk (s:m8) (g:Nat):m6:=r9 g [s.val] 173
def psF (ps:List m6) (x:In) (A:IA):St:={ n:=0,slots:=[],gs:=[],heap:=[(0,⟨inO x A,30,true⟩)],next:=1,rows:=S4 x A,nr:=3,pers:=ps,wr:=false }
def PsR (ps:List m6) (x:In) (A:IA) (ok:Bool) (x':In) (ρ:Nat->Nat) (w:World):Ending->World->Prop :=
 V0 ρ (psF ps x A) (λy:In×IA=>y.1=x') (λ_=>ov (.sb ok)) (λy=>psF [] y.1 y.2) w
theorem F7 (s:m8) (g o:Nat) (w:World) (hg:g<w.heap.size):Calls a0a s.fn #[.pointer (some ⟨g,o,none⟩)] w (u6 (.pointer (some ⟨g,o+s.off,none⟩)) w):=by
 cases s
 case S =>
  exact w6 g o hg false Tryz.func109 kq kq<|V.u<|a4g (.v (.one (.ptr 0 (o+27)))) kq kq (fun ρ a w' hS=>bU rfl kq rfl rfl hS)
 case R =>
  exact w6 g o hg false Tryz.func110 kq kq<|V.u<|a4g (.v (.one (.ptr 0 (o+28)))) kq kq (fun ρ a w' hS=>bU rfl kq rfl rfl hS)
theorem vi (x:In) (A:IA) (w:World):Calls a0a 204 (([.agg (inV x A)]:List CV).map (a2a λ_=>0)).toArray w (u6 (.bool true) w):=by
 exact z6 [] (by intro p hp; cases hp) [.agg (inV x A)] false Tryz.func204 kq kq kq<|V.u<|a4g (.v (.one (.bool true))) kq kq (fun ρ a w hS=>⟨rfl,hS.chg⟩)
def Z2 (v:Bool):List UInt8:=match v with
 | true=>[49]
 | false=>[48]
theorem fm (v:Bool) (w:World):Calls a0a 210 #[.bool v] w (u6 (.string ⟨(Z2 v).toArray⟩) w):=by
 refine H3 [.one (.sb v)] false Tryz.func210 kq kq (by simp [a3s,a3t])<|V.u<|f9 3 v (λhv=>?_) (λhv=>?_)
 ·subst hv;exact V.u<|a4g (.v (.one (.str [49]))) kq kq (fun ρ a w hS=>⟨rfl,hS.chg⟩)
 ·subst hv;exact V.u<|a4g (.v (.one (.str [48]))) kq kq (fun ρ a w hS=>⟨rfl,hS.chg⟩)
theorem rf (s:m8) (x:In) (A:IA) (cb:Nat) (w:World) (hp:C9 [s.blk cb] w) :
  Calls a0a 209 (([.agg (inV x A),.one (.val (.pointer (some ⟨cb,0,none⟩)))]:List CV).map (a2a λ_=>0)).toArray w (u6 (.string ⟨(Z2 (s.get x)).toArray⟩) w):=by
 cases s
 case S =>
  exact z6 _ hp [.agg (inV x A),.one (.val (.pointer (some ⟨cb,0,none⟩)))] false Tryz.func209 kq kq kq<|V.u<|y8 0 173 cb 0 [m8.val .S] 173 (.one (m8.val .S))<|V.u<|u9 (m8.fn .S) [.one (.ptr 0 0)] (.v (.one (.ptr 0 (0+m8.off .S)))) kq kq (fun ρ a w hS=>F7 .S (ρ 0) 0 w (hS.lt 0 (a0w kq)))<|V.u<|M8 210 [.one (.sb (m8.get .S x))] (.v (.one (.str (Z2 (m8.get .S x))))) kq kq (λ_ _ w _=>fm _ w)<|V.u<|a4g (.v (.one (.str (Z2 (m8.get .S x))))) kq kq (fun ρ a w hS=>⟨rfl,hS.chg⟩)
 case R =>
  exact z6 _ hp [.agg (inV x A),.one (.val (.pointer (some ⟨cb,0,none⟩)))] false Tryz.func209 kq kq kq<|V.u<|y8 0 173 cb 0 [m8.val .R] 173 (.one (m8.val .R))<|V.u<|u9 (m8.fn .R) [.one (.ptr 0 0)] (.v (.one (.ptr 0 (0+m8.off .R)))) kq kq (fun ρ a w hS=>F7 .R (ρ 0) 0 w (hS.lt 0 (a0w kq)))<|V.u<|M8 210 [.one (.sb (m8.get .R x))] (.v (.one (.str (Z2 (m8.get .R x))))) kq kq (λ_ _ w _=>fm _ w)<|V.u<|a4g (.v (.one (.str (Z2 (m8.get .R x))))) kq kq (fun ρ a w hS=>⟨rfl,hS.chg⟩)
theorem zo (s:m8) (x:In) (A:IA) (cb:Nat) (b:WSt) (hb:b.bs.length<=800000000) (ρ:Nat->Nat) (w:World) (hF:x6 ρ (wrF [s.blk cb] b) w) :
  Calls a0a 205 (([.one (.ptr 0 0),.agg (inV x A),.one (.val (.pointer (some ⟨cb,0,none⟩)))]:List CV).map (a2a ρ)).toArray w (WrR [s.blk cb] b [sK (s.get x)] [] ρ w):=by
 cases s
 case S =>
  refine i6 hF [.one (.ptr 0 0),.agg (inV x A),.one (.val (.pointer (some ⟨cb,0,none⟩)))] false Tryz.func205 kq kq (by simp [a3s,a3t,wrF,a5y,inV,inC])<|V.u<|y8 0 173 cb 0 [m8.val .S] 173 (.one (m8.val .S))<|V.u<|u9 (m8.fn .S) [.one (.ptr 1 0)] (.v (.one (.ptr 1 (0+m8.off .S)))) kq kq (fun ρ a w hS=>F7 .S (ρ 1) 0 w (hS.lt 1 (a0w kq)))<|V.u<|o5 206 [.one (.ptr 0 0),.one (.sb (m8.get .S x))] [.one (.ptr 0 0),.one (.sb (m8.get .S x))] [0] [0,1] [false] (wrF [] b) _ _ _ kq kq kq (λ_=>rfl) (λ_=>kq) (fun ρ w hF=>Dj _ b (by omega) ρ w hF) ?_;intro b1 e1;exact V.u<|p8 (⟨b1.bs,b1.q,b1.c,b1.rs,b1.q2,b1.c2⟩:WSt) [2,3] (.tup []) kq kq kq kq kq kq kq ⟨e1.1,e1.2⟩
 case R =>
  refine i6 hF [.one (.ptr 0 0),.agg (inV x A),.one (.val (.pointer (some ⟨cb,0,none⟩)))] false Tryz.func205 kq kq (by simp [a3s,a3t,wrF,a5y,inV,inC])<|V.u<|y8 0 173 cb 0 [m8.val .R] 173 (.one (m8.val .R))<|V.u<|u9 (m8.fn .R) [.one (.ptr 1 0)] (.v (.one (.ptr 1 (0+m8.off .R)))) kq kq (fun ρ a w hS=>F7 .R (ρ 1) 0 w (hS.lt 1 (a0w kq)))<|V.u<|o5 206 [.one (.ptr 0 0),.one (.sb (m8.get .R x))] [.one (.ptr 0 0),.one (.sb (m8.get .R x))] [0] [0,1] [false] (wrF [] b) _ _ _ kq kq kq (λ_=>rfl) (λ_=>kq) (fun ρ w hF=>Dj _ b (by omega) ρ w hF) ?_;intro b1 e1;exact V.u<|p8 (⟨b1.bs,b1.q,b1.c,b1.rs,b1.q2,b1.c2⟩:WSt) [2,3] (.tup []) kq kq kq kq kq kq kq ⟨e1.1,e1.2⟩
theorem zp (s:m8) (X:RIn) (r:RSt) (x:In) (A:IA) (cb:Nat) (h:j8 X r) (ρ:Nat->Nat) (w:World) (hF:x6 ρ (gtF [s.blk cb] X r x A) w) :
  Calls a0a 207 (([.one (.ptr 0 0),.one (.ptr 1 0),.one (.val (.pointer (some ⟨cb,0,none⟩)))]:List CV).map (a2a ρ)).toArray w (GtR [s.blk cb] X r x A (E5 X r).2 (s.set x (E5 X r).1) ρ w):=by
 cases s
 case S =>
  refine i6 hF [.one (.ptr 0 0),.one (.ptr 1 0),.one (.val (.pointer (some ⟨cb,0,none⟩)))] false Tryz.func207 kq kq (by simp [a3s,a3t,gtF,a5y])<|V.u<|y8 0 173 cb 0 [m8.val .S] 173 (.one (m8.val .S))<|V.u<|u9 (m8.fn .S) [.one (.ptr 1 0)] (.v (.one (.ptr 1 (0+m8.off .S)))) kq kq (fun ρ a w hS=>F7 .S (ρ 1) 0 w (hS.lt 1 (a0w kq)))<|V.u<|o5 208 [.one (.ptr 0 0)] [.one (.ptr 0 0)] [0] [] [false] (rdF [] X r) _ _ _ kq kq kq (λ_=>rfl) (λ_=>kq) (fun ρ w hF=>Dm X r h ρ w hF) ?_;rintro r1 rfl;exact V.u<|p8 (⟨(E5 X r).2,m8.set .S x (E5 X r).1,A⟩:RSt×In×IA) [0,1,2] (.tup []) kq kq kq kq kq kq kq ⟨rfl,rfl⟩
 case R =>
  refine i6 hF [.one (.ptr 0 0),.one (.ptr 1 0),.one (.val (.pointer (some ⟨cb,0,none⟩)))] false Tryz.func207 kq kq (by simp [a3s,a3t,gtF,a5y])<|V.u<|y8 0 173 cb 0 [m8.val .R] 173 (.one (m8.val .R))<|V.u<|u9 (m8.fn .R) [.one (.ptr 1 0)] (.v (.one (.ptr 1 (0+m8.off .R)))) kq kq (fun ρ a w hS=>F7 .R (ρ 1) 0 w (hS.lt 1 (a0w kq)))<|V.u<|o5 208 [.one (.ptr 0 0)] [.one (.ptr 0 0)] [0] [] [false] (rdF [] X r) _ _ _ kq kq kq (λ_=>rfl) (λ_=>kq) (fun ρ w hF=>Dm X r h ρ w hF) ?_;rintro r1 rfl;exact V.u<|p8 (⟨(E5 X r).2,m8.set .R x (E5 X r).1,A⟩:RSt×In×IA) [0,1,2] (.tup []) kq kq kq kq kq kq kq ⟨rfl,rfl⟩
theorem vj (s:m8) (x y:In) (A B:IA) (cb:Nat) (ρ:Nat->Nat) (w:World) (hF:x6 ρ (mvF [s.blk cb] y B) w) :
  Calls a0a 203 (([.one (.ptr 0 0),.agg (inV x A),.one (.val (.pointer (some ⟨cb,0,none⟩)))]:List CV).map (a2a ρ)).toArray w (MvR [s.blk cb] y B (s.set y (s.get x)) B ρ w):=by
 cases s
 case S =>
  exact i6 hF [.one (.ptr 0 0),.agg (inV x A),.one (.val (.pointer (some ⟨cb,0,none⟩)))] false Tryz.func203 kq kq (by simp [a3s,a3t,mvF,a5y,inV,inC])<|V.u<|mN 2 cb [m8.val .S] 173 kq kq kq kq kq<|mM 8 (m8.fn .S) [.one (.ptr 0 0)] (.v (.one (.ptr 0 (0+m8.off .S)))) (m8.fn .S) [.one (.ptr 1 0)] (.v (.one (.ptr 1 (0+m8.off .S)))) kq kq kq kq (fun ρ a w hS=>F7 .S (ρ 0) 0 w (hS.lt 0 (a0w kq))) kq kq kq (fun ρ a w hS=>F7 .S (ρ 1) 0 w (hS.lt 1 (a0w kq))) kq<|V.u<|p8 ((m8.set .S y (m8.get .S x),B):In×IA) [] (.tup []) kq kq kq kq kq kq kq rfl
 case R =>
  exact i6 hF [.one (.ptr 0 0),.agg (inV x A),.one (.val (.pointer (some ⟨cb,0,none⟩)))] false Tryz.func203 kq kq (by simp [a3s,a3t,mvF,a5y,inV,inC])<|V.u<|mN 2 cb [m8.val .R] 173 kq kq kq kq kq<|mM 8 (m8.fn .R) [.one (.ptr 0 0)] (.v (.one (.ptr 0 (0+m8.off .R)))) (m8.fn .R) [.one (.ptr 1 0)] (.v (.one (.ptr 1 (0+m8.off .R)))) kq kq kq kq (fun ρ a w hS=>F7 .R (ρ 0) 0 w (hS.lt 0 (a0w kq))) kq kq kq (fun ρ a w hS=>F7 .R (ρ 1) 0 w (hS.lt 1 (a0w kq))) kq<|V.u<|p8 ((m8.set .R y (m8.get .R x),B):In×IA) [] (.tup []) kq kq kq kq kq kq kq rfl
theorem rh (s:m8) (l:List UInt8) (x:In) (A:IA) (cb:Nat) (ρ:Nat->Nat) (w:World) (hF:x6 ρ (psF [s.blk cb] x A) w) :
  Calls a0a 211 (([.one (.str l),.one (.ptr 0 0),.one (.val (.pointer (some ⟨cb,0,none⟩)))]:List CV).map (a2a ρ)).toArray w (PsR [s.blk cb] x A ((l==[48])||(l==[49])) (s.set x (l==[49])) ρ w):=by
 cases s
 case S =>
  exact i6 hF [.one (.str l),.one (.ptr 0 0),.one (.val (.pointer (some ⟨cb,0,none⟩)))] false Tryz.func211 kq kq (by simp [a3s,a3t,psF,a5y])<|V.u<|y8 0 173 cb 0 [m8.val .S] 173 (.one (m8.val .S))<|V.u<|u9 (m8.fn .S) [.one (.ptr 0 0)] (.v (.one (.ptr 0 (0+m8.off .S)))) kq kq (fun ρ a w hS=>F7 .S (ρ 0) 0 w (hS.lt 0 (a0w kq)))<|V.u<|p8 ((m8.set .S x (l==[49]),A):In×IA) [0,1,2] (.v (.one (.sb ((l==[48])||(l==[49]))))) kq kq kq kq kq kq kq rfl
 case R =>
  exact i6 hF [.one (.str l),.one (.ptr 0 0),.one (.val (.pointer (some ⟨cb,0,none⟩)))] false Tryz.func211 kq kq (by simp [a3s,a3t,psF,a5y])<|V.u<|y8 0 173 cb 0 [m8.val .R] 173 (.one (m8.val .R))<|V.u<|u9 (m8.fn .R) [.one (.ptr 0 0)] (.v (.one (.ptr 0 (0+m8.off .R)))) kq kq (fun ρ a w hS=>F7 .R (ρ 0) 0 w (hS.lt 0 (a0w kq)))<|V.u<|p8 ((m8.set .R x (l==[49]),A):In×IA) [0,1,2] (.v (.one (.sb ((l==[48])||(l==[49]))))) kq kq kq kq kq kq kq rfl
def fo (n:Int):Bool:=decide (n>=0)&&decide (n<=1048576)
theorem Ds (s:Sel) (x:In) (A:IA) (cb:Nat) (w:World) (hp:C9 [s.blk cb] w) :
  Calls a0a 212 (([.agg (inV x A),.one (.val (.pointer (some ⟨cb,0,none⟩)))]:List CV).map (a2a λ_=>0)).toArray w (u6 (.bool (fo (s.get x))) w):=by
 have tg:Tg s:=⟨⟩;cases s
 all_goals
  refine z6 _ hp [.agg (inV x A),.one (.val (.pointer (some ⟨cb,0,none⟩)))] false Tryz.func212 kq kq kq<|V.u<|y8 0 159 cb 0 [Sel.val tg.i] 159 (.one (Sel.val tg.i))<|V.u<|u9 (Sel.fn tg.i) [.one (.ptr 0 0)] (.v (.one (.ptr 0 (0+Sel.off tg.i)))) kq kq (fun ρ a w hS=>u4 tg.i (ρ 0) 0 w (hS.lt 0 (a0w kq)))<|V.u<|sA 9 (decide (Sel.get tg.i x>=0)) kq (λhb=>?_) (λhb=>?_)
  ·have e:fo (Sel.get tg.i x)=decide (Sel.get tg.i x<=1048576):=by simp only [fo,hb,a5a]
   rw [e];exact V.u<|y8 0 159 cb 0 [Sel.val tg.i] 159 (.one (Sel.val tg.i))<|V.u<|u9 (Sel.fn tg.i) [.one (.ptr 0 0)] (.v (.one (.ptr 0 (0+Sel.off tg.i)))) kq kq (fun ρ a w hS=>u4 tg.i (ρ 0) 0 w (hS.lt 0 (a0w kq)))<|V.u<|a4g (.v (.one (.sb (decide (Sel.get tg.i x<=1048576))))) kq kq (fun ρ a w hS=>⟨rfl,hS.chg⟩)
  ·have e:fo (Sel.get tg.i x)=false:=by simp only [fo,hb,a6r]
   rw [e];exact V.u<|a4g (.v (.one (.bool false))) kq kq (fun ρ a w hS=>⟨rfl,hS.chg⟩)
theorem JP (s:Sel) (x:In) (A:IA) (cb:Nat) (b:WSt) (hb:b.bs.length<=800000000) (ρ:Nat->Nat) (w:World) (hF:x6 ρ (wrF [s.blk cb] b) w) :
  Calls a0a 213 (([.one (.ptr 0 0),.agg (inV x A),.one (.val (.pointer (some ⟨cb,0,none⟩)))]:List CV).map (a2a ρ)).toArray w (WrR [s.blk cb] b (Z0 (s.get x)) [] ρ w):=by
 have tg:Tg s:=⟨⟩;cases s
 all_goals
  refine i6 hF [.one (.ptr 0 0),.agg (inV x A),.one (.val (.pointer (some ⟨cb,0,none⟩)))] false Tryz.func213 kq kq (by simp [a3s,a3t,wrF,a5y,inV,inC])<|V.u<|y8 0 159 cb 0 [Sel.val tg.i] 159 (.one (Sel.val tg.i))<|V.u<|u9 (Sel.fn tg.i) [.one (.ptr 1 0)] (.v (.one (.ptr 1 (0+Sel.off tg.i)))) kq kq (fun ρ a w hS=>u4 tg.i (ρ 1) 0 w (hS.lt 1 (a0w kq)))<|V.u<|o5 214 [.one (.ptr 0 0),.one (.int .i64 (Sel.get tg.i x))] [.one (.ptr 0 0),.one (.int .i64 (Sel.get tg.i x))] [0] [0,1] [false] (wrF [] b) _ _ _ kq kq kq (λ_=>rfl) (λ_=>kq) (fun ρ w hF=>zn _ b (by omega) ρ w hF) ?_;intro b1 e1;exact V.u<|p8 (⟨b1.bs,b1.q,b1.c,b1.rs,b1.q2,b1.c2⟩:WSt) [2,3] (.tup []) kq kq kq kq kq kq kq ⟨e1.1,e1.2⟩
theorem JQ (s:Sel) (X:RIn) (r:RSt) (x:In) (A:IA) (cb:Nat) (h:j8 X r) (ρ:Nat->Nat) (w:World) (hF:x6 ρ (gtF [s.blk cb] X r x A) w) :
  Calls a0a 215 (([.one (.ptr 0 0),.one (.ptr 1 0),.one (.val (.pointer (some ⟨cb,0,none⟩)))]:List CV).map (a2a ρ)).toArray w (GtR [s.blk cb] X r x A (m3 X r).2 (s.set x (m3 X r).1) ρ w):=by
 have tg:Tg s:=⟨⟩;cases s
 all_goals
  refine i6 hF [.one (.ptr 0 0),.one (.ptr 1 0),.one (.val (.pointer (some ⟨cb,0,none⟩)))] false Tryz.func215 kq kq (by simp [a3s,a3t,gtF,a5y])<|V.u<|y8 0 159 cb 0 [Sel.val tg.i] 159 (.one (Sel.val tg.i))<|V.u<|u9 (Sel.fn tg.i) [.one (.ptr 1 0)] (.v (.one (.ptr 1 (0+Sel.off tg.i)))) kq kq (fun ρ a w hS=>u4 tg.i (ρ 1) 0 w (hS.lt 1 (a0w kq)))<|V.u<|o5 216 [.one (.ptr 0 0)] [.one (.ptr 0 0)] [0] [] [false] (rdF [] X r) _ _ _ kq kq kq (λ_=>rfl) (λ_=>kq) (fun ρ w hF=>Dn X r h ρ w hF) ?_;rintro r1 rfl;exact V.u<|p8 (⟨(m3 X r).2,Sel.set tg.i x (m3 X r).1,A⟩:RSt×In×IA) [0,1,2] (.tup []) kq kq kq kq kq kq kq ⟨rfl,rfl⟩
theorem Dt (s:Sel) (x:In) (A:IA) (cb:Nat) (hx:hH (s.get x)) (hl:(a0i (s.get x)).length<=100) (w:World) (hp:C9 [bC,s.blk cb] w) :
  Calls a0a 217 (([.agg (inV x A),.one (.val (.pointer (some ⟨cb,0,none⟩)))]:List CV).map (a2a λ_=>0)).toArray w (u6 (.string ⟨(64::a0i (s.get x)).toArray⟩) w):=by
 have tg:Tg s:=⟨⟩;have hl:(a0i (tg.i.get x)).length<=100:=hl;have hx:hH (tg.i.get x):=hx;cases s
 all_goals
  exact z6 _ hp [.agg (inV x A),.one (.val (.pointer (some ⟨cb,0,none⟩)))] false Tryz.func217 kq kq kq<|V.u<|y8 1 159 cb 0 [Sel.val tg.i] 159 (.one (Sel.val tg.i))<|V.u<|u9 (Sel.fn tg.i) [.one (.ptr 0 0)] (.v (.one (.ptr 0 (0+Sel.off tg.i)))) kq kq (fun ρ a w hS=>u4 tg.i (ρ 0) 0 w (hS.lt 0 (a0w kq)))<|V.u<|M8 123 [.one (.int .i64 (Sel.get tg.i x))] (.v (.one (.str (a0i (Sel.get tg.i x))))) kq kq (fun ρ a w hS=>br _ hx.1 hx.2 w (hS.pers bC (a0v (i:=0) kq)).1)<|V.run 100 [(1+(a0i (Sel.get tg.i x)).length:Nat)<=9223372036854775807] kq (by simp only [B9]; omega)<|a4g (.v (.one (.str ([64]++a0i (Sel.get tg.i x))))) kq kq (fun ρ a w hS=>⟨rfl,hS.chg⟩)
theorem Hs (x y:In) (A B:IA) (ρ:Nat->Nat) (w:World) (hF:x6 ρ (mvF [] y B) w) :
  Calls a0a 177 (([.one (.ptr 0 0),.agg (inV x A)]:List CV).map (a2a ρ)).toArray w (MvR [] y B { y with vn:=x.vn,vs:=x.vs } B ρ w):=by
 exact i6 hF [.one (.ptr 0 0),.agg (inV x A)] false Tryz.func177 kq kq (by simp [a3s,a3t,mvF,a5y,inV,inC])<|V.u<|p8 (({ y with vn:=x.vn,vs:=x.vs },B):In×IA) [] (.tup []) kq kq kq kq kq kq kq rfl
def cI (x:In):Bool:=n9 x.vn&&decide ((x.vs.length:Int)<=255)
theorem Ht (x:In) (A:IA) (w:World):Calls a0a 178 (([.agg (inV x A)]:List CV).map (a2a λ_=>0)).toArray w (u6 (.bool (cI x)) w):=by
 exact z6 [] (by intro p hp; cases hp) [.agg (inV x A)] false Tryz.func178 kq kq kq<|V.u<|M8 53 [.one (.int .i64 x.vn)] (.v (.one (.sb (n9 x.vn)))) kq kq (λ_ _ w _=>K1 _ w)<|V.u<|a4g (.v (.one (.sb (cI x)))) kq kq (fun ρ a w hS=>⟨rfl,hS.chg⟩)
theorem Lj (x:In) (A:IA) (b:WSt) (h1:I3 x.vn) (hl:x.vs.length<=50000000) (hb:b.bs.length<=800000000) (ρ:Nat->Nat) (w:World) (hF:x6 ρ (wrF [] b) w) :
  Calls a0a 179 (([.one (.ptr 0 0),.agg (inV x A)]:List CV).map (a2a ρ)).toArray w (WrR [] b (N3 x.vn++fl x.vs) [] ρ w):=by
 refine i6 hF [.one (.ptr 0 0),.agg (inV x A)] true Tryz.func179 kq kq (by simp [a3s,a3t,wrF,a5y,inV,inC])<|V.u<|o5 54 [.one (.ptr 0 0),.one (.int .i64 x.vn)] [.one (.ptr 0 0),.one (.int .i64 x.vn)] [0] [0,1] [] (wrF [] b) _ _ _ kq kq kq (λ_=>rfl) (λ_=>kq) (fun ρ w hF=>bS _ b h1.1 h1.2 (by omega) ρ w hF) ?_;intro b1 e1;have l1:b1.bs.length<=b.bs.length+10:=by rw [e1.1]; have:=I0 9 (zz x.vn); simp only [a0c]; omega
 refine V.u<|o5 180 [.one (.ptr 0 0),.one (.str x.vs)] [.one (.ptr 0 0),.one (.str x.vs)] [0] [2,3] [] (wrF [] b1) _ _ _ kq kq kq (λ_=>rfl) (λ_=>kq) (fun ρ w hF=>Lg _ b1 (by omega) (by omega) ρ w hF) ?_;intro b2 e2;refine V.u<|p8 (⟨b2.bs,b2.q,b2.c,b2.rs,b2.q2,b2.c2⟩:WSt) [4,5] (.tup []) kq kq kq kq kq kq kq ⟨?_,?_⟩
 ·simp only [e2.1,e1.1,N3,fl,a1g]
 ·simp only [e2.2,e1.2,a1q]
theorem Lk (X:RIn) (r:RSt) (x:In) (A:IA) (h:j8 X r) (ρ:Nat->Nat) (w:World) (hF:x6 ρ (gtF [] X r x A) w) :
  Calls a0a 181 (([.one (.ptr 0 0),.one (.ptr 1 0)]:List CV).map (a2a ρ)).toArray w (GtR [] X r x A (B4 X (c7 X r).2).2 { x with vn:=(c7 X r).1,vs:=(B4 X (c7 X r).2).1 } ρ w):=by
 have h1:=(l9 h).1;refine i6 hF [.one (.ptr 0 0),.one (.ptr 1 0)] false Tryz.func181 kq kq (by simp [a3s,a3t,gtF,a5y])<|V.u<|o5 57 [.one (.ptr 0 0)] [.one (.ptr 0 0)] [0] [] [] (rdF [] X r) _ _ _ kq kq kq (λ_=>rfl) (λ_=>kq) (fun ρ w hF=>bT X r h ρ w hF) ?_;rintro r1 rfl;refine V.u<|o5 182 [.one (.ptr 0 0)] [.one (.ptr 0 0)] [0] [] [] (rdF [] X _) _ _ _ kq kq kq (λ_=>rfl) (λ_=>kq) (fun ρ w hF=>Lh X _ h1 ρ w hF) ?_;rintro r1 rfl;exact V.u<|p8 (⟨(B4 X (c7 X r).2).2,{ x with vn:=(c7 X r).1,vs:=(B4 X (c7 X r).2).1 },A⟩:RSt×In×IA) [0,1,2] (.tup []) kq kq kq kq kq kq kq ⟨rfl,rfl⟩
theorem Ll (x:In) (A:IA) (b:WSt) (hb:b.bs.length<=800000000) (hr:b.rs.length<=800000000) (ρ:Nat->Nat) (w:World) (hF:x6 ρ (wrF [] b) w) :
  Calls a0a 229 (([.one (.ptr 0 0),.agg (inV x A)]:List CV).map (a2a ρ)).toArray w (WrR [] b (Z0 x.n) [((b.bs.length:Nat),x.p)] ρ w):=by
 refine i6 hF [.one (.ptr 0 0),.agg (inV x A)] true Tryz.func229 kq kq (by simp [a3s,a3t,wrF,a5y,inV,inC])<|V.u<|o5 222 [.one (.ptr 0 0),.one (.int .i64 x.p)] [.one (.ptr 0 0),.one (.int .i64 x.p)] [0] [0,1] [] (wrF [] b) _ _ _ kq kq kq (λ_=>rfl) (λ_=>kq) (fun ρ w hF=>Dk _ b (by omega) ρ w hF) ?_;intro b1 e1;have l1:b1.bs.length<=b.bs.length:=by rw [e1.1,a1q]; exact a0q _
 refine V.u<|o5 214 [.one (.ptr 0 0),.one (.int .i64 x.n)] [.one (.ptr 0 0),.one (.int .i64 x.n)] [0] [2,3] [] (wrF [] b1) _ _ _ kq kq kq (λ_=>rfl) (λ_=>kq) (fun ρ w hF=>zn _ b1 (by omega) ρ w hF) ?_;intro b2 e2;refine V.u<|p8 (⟨b2.bs,b2.q,b2.c,b2.rs,b2.q2,b2.c2⟩:WSt) [4,5] (.tup []) kq kq kq kq kq kq kq ⟨?_,?_⟩
 ·simp only [e2.1,e1.1,a1q]
 ·simp only [e2.2,e1.2,a1q]
def fp (n:Int):List UInt8:=if n<0 then Z0 (-1) else Z0 0
def X5 (n:Int) (at_:Nat):List (Int×Int):=if n<0 then [] else [((at_:Int),n)]
theorem zq (s:Sel) (x:In) (A:IA) (cb:Nat) (b:WSt) (hb:b.bs.length<=800000000) (hr:b.rs.length<=800000000) (ρ:Nat->Nat) (w:World) (hF:x6 ρ (wrF [s.blk cb] b) w) :
  Calls a0a 221 (([.one (.ptr 0 0),.agg (inV x A),.one (.val (.pointer (some ⟨cb,0,none⟩)))]:List CV).map (a2a ρ)).toArray w (WrR [s.blk cb] b (fp (s.get x)) (X5 (s.get x) b.bs.length) ρ w):=by
 have tg:Tg s:=⟨⟩;cases s
 all_goals
  refine i6 hF [.one (.ptr 0 0),.agg (inV x A),.one (.val (.pointer (some ⟨cb,0,none⟩)))] false Tryz.func221 kq kq (by simp [a3s,a3t,wrF,a5y,inV,inC])<|V.u<|y8 0 159 cb 0 [Sel.val tg.i] 159 (.one (Sel.val tg.i))<|V.u<|u9 (Sel.fn tg.i) [.one (.ptr 1 0)] (.v (.one (.ptr 1 (0+Sel.off tg.i)))) kq kq (fun ρ a w hS=>u4 tg.i (ρ 1) 0 w (hS.lt 1 (a0w kq)))<|V.u<|f9 9 (decide (Sel.get tg.i x<0)) (λhn=>?_) (λhn=>?_)
  ·have dc:Sel.get tg.i x<0:=by simpa using hn
   simp only [fp,X5,if_pos dc];refine V.u<|o5 214 [.one (.ptr 0 0),.one (.int .i64 (-1))] [.one (.ptr 0 0),.one (.int .i64 (-1))] [0] [0,1] [false] (wrF [] b) _ _ _ kq kq kq (λ_=>rfl) (λ_=>kq) (fun ρ w hF=>zn _ b (by omega) ρ w hF) ?_;intro b1 e1;exact V.u<|p8 (⟨b1.bs,b1.q,b1.c,b1.rs,b1.q2,b1.c2⟩:WSt) [2,3] (.tup []) kq kq kq kq kq kq kq ⟨e1.1,e1.2⟩
  ·have dc:¬ Sel.get tg.i x<0:=by simpa using hn
   simp only [fp,X5,if_neg dc];refine V.u<|y8 0 159 cb 0 [Sel.val tg.i] 159 (.one (Sel.val tg.i))<|V.u<|u9 (Sel.fn tg.i) [.one (.ptr 1 0)] (.v (.one (.ptr 1 (0+Sel.off tg.i)))) kq kq (fun ρ a w hS=>u4 tg.i (ρ 1) 0 w (hS.lt 1 (a0w kq)))<|V.u<|o5 222 [.one (.ptr 0 0),.one (.int .i64 (Sel.get tg.i x))] [.one (.ptr 0 0),.one (.int .i64 (Sel.get tg.i x))] [0] [0,1] [false] (wrF [] b) _ _ _ kq kq kq (λ_=>rfl) (λ_=>kq) (fun ρ w hF=>Dk _ b (by omega) ρ w hF) ?_;intro b1 e1;have l1:b1.bs.length<=b.bs.length:=by rw [e1.1,a1q]; exact a0q _
   refine V.u<|o5 214 [.one (.ptr 0 0),.one (.int .i64 (0))] [.one (.ptr 0 0),.one (.int .i64 (0))] [0] [2,3] [false] (wrF [] b1) _ _ _ kq kq kq (λ_=>rfl) (λ_=>kq) (fun ρ w hF=>zn _ b1 (by omega) ρ w hF) ?_;intro b2 e2;refine V.u<|p8 (⟨b2.bs,b2.q,b2.c,b2.rs,b2.q2,b2.c2⟩:WSt) [4,5] (.tup []) kq kq kq kq kq kq kq ⟨?_,?_⟩
   ·simp only [e2.1,e1.1,a1q]
   ·simp only [e2.2,e1.2,a1q]
def bD (no:Bool) (n:Int):Bool:=(decide (n>=0)&&decide (n<=63))||(no&&(n==-1))
theorem vk (s:Sel) (no:Bool) (x:In) (A:IA) (cb cn:Nat) (w:World) (hp:C9 [s.blk cb,r9 cn [.sb no] 4] w) :
  Calls a0a 220 (([.agg (inV x A),.one (.val (.pointer (some ⟨cb,0,none⟩))),.one (.val (.pointer (some ⟨cn,0,none⟩)))]:List CV).map (a2a λ_=>0)).toArray w (u6 (.bool (bD no (s.get x))) w):=by
 have tg:Tg s:=⟨⟩;cases s
 all_goals
  refine z6 _ hp [.agg (inV x A),.one (.val (.pointer (some ⟨cb,0,none⟩))),.one (.val (.pointer (some ⟨cn,0,none⟩)))] false Tryz.func220 kq kq kq<|V.u<|y8 0 159 cb 0 [Sel.val tg.i] 159 (.one (Sel.val tg.i))<|V.u<|u9 (Sel.fn tg.i) [.one (.ptr 0 0)] (.v (.one (.ptr 0 (0+Sel.off tg.i)))) kq kq (fun ρ a w hS=>u4 tg.i (ρ 0) 0 w (hS.lt 0 (a0w kq)))<|V.u<|sA 16 (decide (Sel.get tg.i x>=0)&&decide (Sel.get tg.i x<=63)) kq (λhb=>?_) (λhb=>?_)
  ·have e:bD no (Sel.get tg.i x)=true:=by simp only [bD,hb,Bool.true_or]
   rw [e];exact V.u<|a4g (.v (.one (.bool true))) kq kq (fun ρ a w hS=>⟨rfl,hS.chg⟩)
  ·have e:bD no (Sel.get tg.i x)=(no&&(Sel.get tg.i x==-1)):=by simp only [bD,hb,Bool.false_or]
   rw [e];exact V.u<|y8 1 4 cn 0 [.sb no] 4 (.one (.sb no))<|V.u<|a4g (.v (.one (.sb (no&&(Sel.get tg.i x==-1))))) kq kq (fun ρ a w hS=>⟨rfl,hS.chg⟩)
def M5 (no:Bool) (rl:List (Int×Int)) (X:RIn) (r:RSt) (old:Int):Int×RSt :=
 if (no&&((m3 X r).1==-1))=true then (-1,(m3 X r).2)
 else if ((m3 X r).1==0)=true then m4 rl (r.at_:Int) (m3 X r).2
 else (old,⟨(m3 X r).2.at_,true⟩)
theorem zr (s:Sel) (no:Bool) (rl:List (Int×Int)) (X:RIn) (hX:X.n=rl.length) (hl:rl.length<=1000000000) (r:RSt) (x:In) (A:IA) (cb cn:Nat) (h:j8 X r) (ρ:Nat->Nat) (w:World) (hF:x6 ρ (gtF [r9 cn [.sb no] 4,s.blk cb,e8 (j1 rl X.q X.c)] X r x A) w) :
  Calls a0a 223 (([.one (.ptr 0 0),.one (.ptr 1 0),.one (.val (.pointer (some ⟨cn,0,none⟩))),.one (.val (.pointer (some ⟨cb,0,none⟩)))]:List CV).map (a2a ρ)).toArray w (GtR [r9 cn [.sb no] 4,s.blk cb,e8 (j1 rl X.q X.c)] X r x A (M5 no rl X r (s.get x)).2 (s.set x (M5 no rl X r (s.get x)).1) ρ w):=by
 have tg:Tg s:=⟨⟩;cases s
 all_goals
  refine i6 hF [.one (.ptr 0 0),.one (.ptr 1 0),.one (.val (.pointer (some ⟨cn,0,none⟩))),.one (.val (.pointer (some ⟨cb,0,none⟩)))] false Tryz.func223 kq kq (by simp [a3s,a3t,gtF,a5y])<|V.u<|o5 216 [.one (.ptr 0 0)] [.one (.ptr 0 0)] [0] [] [false,false,false] (rdF [] X r) _ _ _ kq kq kq (λ_=>rfl) (λ_=>kq) (fun ρ w hF=>Dn X r h ρ w hF) ?_;rintro r1 rfl;refine V.u<|y8 0 4 cn 0 [.sb no] 4 (.one (.sb no))<|V.u<|f9 17 (no&&((m3 X r).1==-1)) (λhb=>?_) (λhb=>?_)
  ·have e:M5 no rl X r (Sel.get tg.i x)=(-1,(m3 X r).2):=by simp only [M5,if_pos hb]
   rw [e];exact V.u<|y8 1 159 cb 0 [Sel.val tg.i] 159 (.one (Sel.val tg.i))<|V.u<|u9 (Sel.fn tg.i) [.one (.ptr 1 0)] (.v (.one (.ptr 1 (0+Sel.off tg.i)))) kq kq (fun ρ a w hS=>u4 tg.i (ρ 1) 0 w (hS.lt 1 (a0w kq)))<|V.u<|p8 (⟨(m3 X r).2,Sel.set tg.i x (-1),A⟩:RSt×In×IA) [0,1,2] (.tup []) kq kq kq kq kq kq kq ⟨rfl,rfl⟩
  ·refine V.u<|f9 27 ((m3 X r).1==0) (λhc=>?_) (λhc=>?_)
   ·have e:M5 no rl X r (Sel.get tg.i x)=m4 rl (r.at_:Int) (m3 X r).2:=by simp only [M5,hb,a4n,if_false,if_pos hc]
    rw [e];refine V.u<|y8 1 159 cb 0 [Sel.val tg.i] 159 (.one (Sel.val tg.i))<|V.u<|u9 (Sel.fn tg.i) [.one (.ptr 1 0)] (.v (.one (.ptr 1 (0+Sel.off tg.i)))) kq kq (fun ρ a w hS=>u4 tg.i (ρ 1) 0 w (hS.lt 1 (a0w kq)))<|V.u<|o5 224 [.one (.ptr 0 0),.one (.int .i64 (r.at_:Int))] [.one (.ptr 0 0),.one (.int .i64 (r.at_:Int))] [0] [] [false,false,true] (rdF [e8 (j1 rl X.q X.c)] X (m3 X r).2) _ _ _ kq kq kq (λ_=>rfl) (λ_=>kq) (fun ρ w hF=>Do rl X hX _ _ hl ρ w hF) ?_;rintro r1 rfl;exact V.u<|p8 (⟨(m4 rl (r.at_:Int) (m3 X r).2).2,Sel.set tg.i x (m4 rl (r.at_:Int) (m3 X r).2).1,A⟩:RSt×In×IA) [0,1,2] (.tup []) kq kq kq kq kq kq kq ⟨rfl,rfl⟩
   ·have e:M5 no rl X r (Sel.get tg.i x)=(Sel.get tg.i x,⟨(m3 X r).2.at_,true⟩):=by simp only [M5,hb,hc,a4n,if_false]
    rw [e];exact V.u<|a6f 0<|p8 (⟨⟨(m3 X r).2.at_,true⟩,Sel.set tg.i x (Sel.get tg.i x),A⟩:RSt×In×IA) [0,1,2] (.tup []) kq kq kq kq kq kq kq ⟨rfl,rfl⟩
def prT (n:Int):List UInt8:=if n<0 then [33,45] else 33::a0i n
theorem vl (s:Sel) (x:In) (A:IA) (cb:Nat) (hx:hH (s.get x)) (hl:(a0i (s.get x)).length<=100) (w:World) (hp:C9 [bC,s.blk cb] w) :
  Calls a0a 225 (([.agg (inV x A),.one (.val (.pointer (some ⟨cb,0,none⟩)))]:List CV).map (a2a λ_=>0)).toArray w (u6 (.string ⟨(prT (s.get x)).toArray⟩) w):=by
 have tg:Tg s:=⟨⟩;have hl:(a0i (tg.i.get x)).length<=100:=hl;have hx:hH (tg.i.get x):=hx;cases s
 all_goals
  refine z6 _ hp [.agg (inV x A),.one (.val (.pointer (some ⟨cb,0,none⟩)))] false Tryz.func225 kq kq kq<|V.u<|y8 1 159 cb 0 [Sel.val tg.i] 159 (.one (Sel.val tg.i))<|V.u<|u9 (Sel.fn tg.i) [.one (.ptr 0 0)] (.v (.one (.ptr 0 (0+Sel.off tg.i)))) kq kq (fun ρ a w hS=>u4 tg.i (ρ 0) 0 w (hS.lt 0 (a0w kq)))<|V.u<|f9 8 (decide (Sel.get tg.i x<0)) (λhn=>?_) (λhn=>?_)
  ·have dc:Sel.get tg.i x<0:=by simpa using hn
   simp only [prT,if_pos dc];exact V.u<|a4g (.v (.one (.str [33,45]))) kq kq (fun ρ a w hS=>⟨rfl,hS.chg⟩)
  ·have dc:¬ Sel.get tg.i x<0:=by simpa using hn
   simp only [prT,if_neg dc];exact V.u<|y8 1 159 cb 0 [Sel.val tg.i] 159 (.one (Sel.val tg.i))<|V.u<|u9 (Sel.fn tg.i) [.one (.ptr 0 0)] (.v (.one (.ptr 0 (0+Sel.off tg.i)))) kq kq (fun ρ a w hS=>u4 tg.i (ρ 0) 0 w (hS.lt 0 (a0w kq)))<|V.u<|M8 123 [.one (.int .i64 (Sel.get tg.i x))] (.v (.one (.str (a0i (Sel.get tg.i x))))) kq kq (fun ρ a w hS=>br _ hx.1 hx.2 w (hS.pers bC (a0v (i:=0) kq)).1)<|V.run 100 [(1+(a0i (Sel.get tg.i x)).length:Nat)<=9223372036854775807] kq (by simp only [B9]; omega)<|a4g (.v (.one (.str ([33]++a0i (Sel.get tg.i x))))) kq kq (fun ρ a w hS=>⟨rfl,hS.chg⟩)
def O5 (x:In):Bool:=decide (x.p>=0)&&decide (x.p<=63)&&decide (x.n>=0)&&decide (x.n<=1048576)
theorem Hu (x:In) (A:IA) (w:World):Calls a0a 228 (([.agg (inV x A)]:List CV).map (a2a λ_=>0)).toArray w (u6 (.bool (O5 x)) w):=by
 exact z6 [] (by intro p hp; cases hp) [.agg (inV x A)] false Tryz.func228 kq kq kq<|V.u<|a4g (.v (.one (.sb (O5 x)))) kq kq (fun ρ a w hS=>⟨rfl,hS.chg⟩)
theorem Lm (rl:List (Int×Int)) (X:RIn) (hX:X.n=rl.length) (hl:rl.length<=1000000000) (r:RSt) (x:In) (A:IA) (h':j8 X (m4 rl (r.at_:Int) r).2) (ρ:Nat->Nat) (w:World) (hF:x6 ρ (gtF [e8 (j1 rl X.q X.c)] X r x A) w) :
  Calls a0a 230 (([.one (.ptr 0 0),.one (.ptr 1 0)]:List CV).map (a2a ρ)).toArray w (GtR [e8 (j1 rl X.q X.c)] X r x A (m3 X (m4 rl (r.at_:Int) r).2).2 { x with p:=(m4 rl (r.at_:Int) r).1,n:=(m3 X (m4 rl (r.at_:Int) r).2).1 } ρ w):=by
 refine i6 hF [.one (.ptr 0 0),.one (.ptr 1 0)] false Tryz.func230 kq kq (by simp [a3s,a3t,gtF,a5y])<|V.u<|o5 224 [.one (.ptr 0 0),.one (.int .i64 (r.at_:Int))] [.one (.ptr 0 0),.one (.int .i64 (r.at_:Int))] [0] [] [true] (rdF [e8 (j1 rl X.q X.c)] X r) _ _ _ kq kq kq (λ_=>rfl) (λ_=>kq) (fun ρ w hF=>Do rl X hX _ _ hl ρ w hF) ?_;rintro r1 rfl;refine V.u<|o5 216 [.one (.ptr 0 0)] [.one (.ptr 0 0)] [0] [] [false] (rdF [] X _) _ _ _ kq kq kq (λ_=>rfl) (λ_=>kq) (fun ρ w hF=>Dn X _ h' ρ w hF) ?_;rintro r1 rfl;exact V.u<|p8 (⟨(m3 X (m4 rl (r.at_:Int) r).2).2,{ x with p:=(m4 rl (r.at_:Int) r).1,n:=(m3 X (m4 rl (r.at_:Int) r).2).1 },A⟩:RSt×In×IA) [0,1,2] (.tup []) kq kq kq kq kq kq kq ⟨rfl,rfl⟩
def JR:List Int:=[0,1,56,2,57,49,28,3,61,58,42,50,38,29,17,4,62,47,59,36,45,43,51,22,53,39,33,30,24,18,12,5,63,55,48,27,60,41,37,16,46,35,44,21,52,32,23,11,54,26,40,15,34,20,31,10,25,14,19,9,13,8,7,6]
structure jy (w:World):Prop where
 tab:Lib.TabIs a0a w "internal/strconv.uint64pow10" .u64 Lib.pow10Tab
 syn:∃ tp p,w.var? a0a "strconv.ErrSyntax" = some #[Value.iface tp p]
 ran:∃ tp p,w.var? a0a "strconv.ErrRange" = some #[Value.iface tp p]
 max:∃ m,w.cell? ⟨1,0,none⟩=some (Value.int .i64 m)
 sp:Lib.TabIs a0a w "strings.asciiSpace" .u8 Lib.asciiSpaceTab
 db:Lib.TabIs a0a w "math/bits.deBruijn64tab" .u8 JR
def j7:m6:=⟨λk=>k<12,jy⟩
theorem fq {w w':World} (nm:String) (g:Nat) (hg:a0a.globalNamed nm=some g) (e9:g<12) (h:∀ k,k<12->w'.heap[k]?=w.heap[k]?):w'.var? a0a nm=w.var? a0a nm:=by
 unfold World.var?;rw [hg];simp only [Option.bind_some];rw [h g e9]
theorem xA (w w':World) (h:∀ k,k<12->w'.heap[k]?=w.heap[k]?) (hg:jy w):jy w':=by
 refine ⟨?_,?_,?_,?_,?_,?_⟩
 ·unfold Lib.TabIs; rw [fq _ 3 kq (by decide) h]; exact hg.tab
 ·rw [fq _ 4 kq (by decide) h]; exact hg.syn
 ·rw [fq _ 5 kq (by decide) h]; exact hg.ran
 ·obtain ⟨m,hm⟩:=hg.max;exact ⟨m,by rw [World.cell?_of_block (w:=w) (a:=⟨1,0,none⟩) (h 1 (by decide))]; exact hm⟩
 ·unfold Lib.TabIs; rw [fq _ 0 kq (by decide) h]; exact hg.sp
 ·unfold Lib.TabIs; rw [fq _ 10 kq (by decide) h]; exact hg.db
theorem xB {w:World} (h:C9 [j7] w):jy w:=(h j7 (a0d.2 rfl)).1
theorem ri (w:World) (n:Nat):Chg (λ_=>False) w (w.drewN n):=⟨rfl,rfl,rfl,a0q _,λ_ _ _=>rfl⟩
def ai:Con a0a:=KZ 123 [j7] (λn=>(.v (.one (.str (a0i n))),[inK .i64 n])) (λn ρ w q8 hp =>
 br n (q8 _ (a0d.2 rfl)).1 (q8 _ (a0d.2 rfl)).2 w (xB hp).tab)
def S5:Con a0a:=sF 219 [] (λs t=>(.tup [.one (.str (a0o s t)),.one (.sb (a2d s t))],[])) (λs t ρ w _ _ =>
 (Tryz.strings_CutPrefix ⟨s.toArray⟩ ⟨t.toArray⟩ w).mono λe w' ⟨h1,h2⟩=>⟨h1,by rw [h2]; exact Chg.refl _ _⟩)
def vm:Con a0a:=sF 254 [] (λs t=>(.v (.one (.str (a0o s t))),[])) (λs t ρ w _ _ =>
 (Tryz.strings_TrimPrefix ⟨s.toArray⟩ ⟨t.toArray⟩ w).mono λe w' ⟨h1,h2⟩=>⟨h1,by rw [h2]; exact Chg.refl _ _⟩)
theorem Y7 (l:List UInt8):(⟨l.toArray⟩:ByteArray).size=l.length:=by simp [ByteArray.size]
def dF:Con a0a:=sF 267 [] (λs t=>(.tup [.one (.str (a6w s t)),.one (.sb (a3k s t))],[s.length<=9223372036854775807])) (λs t ρ w q8 _ =>
 (Tryz.strings_CutSuffix ⟨s.toArray⟩ ⟨t.toArray⟩ w (by rw [Y7]; exact q8 _ (a0d.2 rfl))).mono λe w' ⟨h1,h2⟩=>⟨h1,by rw [h2]; exact Chg.refl _ _⟩)
def Du:Con a0a:=sF 79 [j7] (λs t=>(.tup [.one (.str (a3d s t).1),.one (.str (a3d s t).2.1),.one (.sb (a3d s t).2.2)],[s.length<4294967281])) (λs t ρ w q8 hp=>by
 obtain ⟨m,hm⟩:=(xB hp).max;exact (Tryz.strings_Cut ⟨s.toArray⟩ ⟨t.toArray⟩ m w (by rw [Y7]; exact q8 _ (a0d.2 rfl)) hm).mono λe w' ⟨h1,n,h2⟩=>⟨h1,by rw [h2]; exact ri w n⟩)
def d4 (c:UInt8):List UInt8->List (List UInt8)
 | []=>[[]]
 | x::l=>if x==c then []::d4 c l else match d4 c l with
  | h::t=>(x::h)::t
  | []=>[[x]]
def c8 (c:UInt8) (s:List UInt8):List (List UInt8):=match s with
 | []=>[]
 | _::_=>d4 c s
def O6 (c:UInt8):List UInt8->List UInt8×List UInt8×Bool
 | []=>([],[],false)
 | x::l=>if x==c then ([],l,true) else (x::(O6 c l).1,(O6 c l).2.1,(O6 c l).2.2)
theorem gk (c:UInt8):∀ s,a3d s [c]=O6 c s
 | []=>by simp [a3d,O6,Lib.index]
 | x::l=>by
  have ih:=gk c l;have bA:=Lib.indexByte_ge l c;unfold O6;rw [<- ih];unfold a3d;simp only [Lib.index_one,a5z];by_cases hx:(x==c)=true
  ·simp [hx]
  ·simp only [hx,if_false,a4n];by_cases h1:(a5z l c==-1)=true
   ·have mE:a5z l c=-1:=by simpa using h1
    simp [mE]
   ·have mE:¬ a5z l c=-1:=by simpa using h1
    have h2:0<=a5z l c:=by omega
    have h3:0<=a5z l c+1:=by omega
    have h4:(a5z l c+1).toNat=(a5z l c).toNat+1:=by omega
    simp [mE,h2,h3,h4]
theorem bt (c:UInt8):∀ s,d4 c s=(O6 c s).1::(if (O6 c s).2.2 then d4 c (O6 c s).2.1 else [])
 | []=>by simp [d4,O6]
 | x::l=>by
  have ih:=bt c l;rw [d4,O6];by_cases hx:(x==c)=true
  ·rw [if_pos hx,if_pos hx]; rfl
  ·rw [if_neg hx,if_neg hx,ih]
theorem vo (c:UInt8):∀ s,(O6 c s).2.1.length+(if (O6 c s).2.2 then 1 else 0)<=s.length
 | []=>by simp [O6]
 | x::l=>by
  have ih:=vo c l;unfold O6;by_cases hx:(x==c)=true
  ·simp [hx]
  ·simp only [hx,if_false,a4n,a0p];omega
theorem AY (c:UInt8):∀ s,s≠[]->(O6 c s).2.1.length<s.length
 | [],h=>absurd rfl h
 | x::l,_=>by
  have ih:=vo c l;unfold O6;by_cases hx:(x==c)=true
  ·simp [hx]
  ·simp only [hx,if_false,a4n,a0p];have:(O6 c l).2.1.length<=l.length:=by omega
   omega
theorem zt (c:UInt8):∀ s,(O6 c s).2.2=false->(O6 c s).2.1=[]
 | []=>by simp [O6]
 | x::l=>by
  have ih:=zt c l;unfold O6;by_cases hx:(x==c)=true
  ·simp [hx]
  ·simpa [hx] using ih
def ptF (c:UInt8) (s:List UInt8):St:={ n:=0,slots:=[],gs:=[],heap:=[(0,⟨[.str s],9,true⟩),(1,⟨[.str [c]],9,true⟩)],next:=2,rows:=[],nr:=0,pers:=[j7],wr:=false }
def Dv (c:UInt8) (s:List UInt8) (i:Nat):Array Value:=#[.string ⟨((c8 c s).getD i []).toArray⟩]
def T1:List (Ent a0a):=[⟨Du,[0]⟩,S5.e,dF.e]
structure PtI where
 i:Nat
 t:List UInt8
 O:Nat->Prop
 Ow:Nat->Prop
theorem X6 {c:UInt8} {t:List UInt8} (h:t≠[]):c8 c t=d4 c t:=by
 cases t with
 | nil=>exact absurd rfl h
 | cons x l=>rfl
def RD {l n:Nat} {enc:Nat->Array Value} {w:World} (Y:Yd a0a l n enc w) (c:UInt8) (x:PtI):St :=
 { n:=28,slots:=[(0,ov (.val (.func (.yield l) #[] #[]))),(1,ov (.ptr 0 0)),(2,ov (.ptr 1 0))],gs:=[],
    heap:=[(0,⟨[.str x.t],9,true⟩),(1,⟨[.str [c]],9,true⟩)],next:=2,rows:=[],nr:=0,pers:=[jP Y x.i x.O x.Ow [j7],j7],wr:=true,fx:=2 }
theorem dG (c:UInt8) (s:List UInt8) (hs:s.length<4294967281):AO a0a 294 [.one (.ptr 0 0),.one (.ptr 1 0)] (ptF c s) (c8 c s).length (Dv c s):=by
 refine AO.mk true Tryz.func294 kq kq fun ρ w l Y O Ow=>V.t T1 [] trivial<|j6 [0,1,2] [true,true] (λx:PtI=>x.t.length) (RD Y c) (λx=>(∃ pre,c8 c s=pre++c8 c x.t/\pre.length=x.i)/\x.t.length<4294967281) ⟨0,s,O,Ow⟩ kq ⟨⟨[],rfl,rfl⟩,hs⟩ (λx hx ih=>?_);obtain ⟨i,t,O,Ow⟩:=x;obtain ⟨⟨pre,Y4,M3⟩,n8⟩:=hx;simp only at Y4 M3 n8;refine V.t T1 [] trivial<|f9 8 (!(t==[])) (λhb=>?_) (λhb=>?_)
 ·have ht:t≠[]:=by simpa using hb
  have Gr:=bt c t;have KR:=AY c t ht;have J8:=zt c t;rw [X6 ht,Gr] at Y4;rw [<- gk] at Y4 KR J8;have km:(c8 c s).getD i []=(a3d t [c]).1:=by rw [Y4,<- M3]; simp
  have hi:i<(c8 c s).length:=by rw [Y4,<- M3]; simp
  refine V.t T1 [t.length<4294967281] n8<|V.yield Y i O Ow [j7] [.one (.str (a3d t [c]).1)] kq (λ_=>trivial) kq kq hi (fun ρ=>by simp only [Dv,km]; rfl) kq (λO1 Ow1=>?_) (λO1 Ow1=>?_)
  ·refine V.t T1 [] trivial<|f9 25 ((a3d t [c]).2.2&&((a3d t [c]).2.1==[])) (λeO=>?_) (λeO=>?_)
   ·rw [a0g] at eO;have hr:(a3d t [c]).2.1=[]:=by simpa using eO.2
    rw [eO.1,if_pos rfl,hr] at Y4;have NW:i+2=(c8 c s).length:=by rw [Y4,<- M3]; simp [d4]
    have Qk:(c8 c s).getD (i+1) []=[]:=by
     rw [Y4];have:i+1=pre.length+1:=by omega
     rw [this]; simp [d4,a0r]
    refine V.t T1 [] trivial<|V.yield Y (i+1) O1 Ow1 [j7] [.one (.str [])] kq (λ_=>trivial) kq kq (by omega) (fun ρ=>by simp only [Dv,Qk]; rfl) kq (λO2 Ow2=>?_) (λO2 Ow2=>?_)
    ·refine V.t T1 [] trivial ?_;have WE:i+1+1=(c8 c s).length:=NW;exact qQ Y (i+1+1) WE O2 Ow2 [j7] (.tup []) kq kq kq
    ·exact V.t T1 [] trivial<|qR Y O2 Ow2 [j7] (.tup []) kq kq kq
   ·refine V.t T1 [] trivial<|d9 [0,1,2] [true,true] (ih ⟨i+1,(a3d t [c]).2.1,O1,Ow1⟩ ⟨⟨pre++[(a3d t [c]).1],?_,?_⟩,?_⟩ ?_) kq kq
    ·rw [Y4,a1g];congr 1;simp only [List.singleton_append,List.cons.injEq,true_and];cases hm:(a3d t [c]).2.2 with
     | true =>
      rw [hm] at eO;have hr:(a3d t [c]).2.1≠[]:=by simpa using eO
      rw [if_pos rfl,X6 hr]
     | false=>rw [J8 hm]; rfl
    ·simp [M3]
    ·simp only; omega
    ·exact KR
  ·exact V.t T1 [] trivial<|qR Y O1 Ow1 [j7] (.tup []) kq kq kq
 ·have ht:t=[]:=by simpa using hb
  subst ht;have iU:i=(c8 c s).length:=by rw [Y4,<- M3]; simp [c8]
  exact V.t T1 [] trivial<|qQ Y i iU O Ow [j7] (.tup []) kq kq kq
def noF:St:={ n:=0,slots:=[],gs:=[],heap:=[],next:=0,rows:=[],nr:=0,pers:=[],wr:=false }
def H0:St:={ noF with pers:=[j7] }
theorem sP (c:UInt8) (s:List UInt8):CallsK a0a 258 [.one (.str s),.one (.str [c])] noF (λ_:Unit=>True) (λ_=>ov (.fn 294 [0,1]))
  (λ_=>{ noF with heap:=[(0,⟨[.str s],9,true⟩),(1,⟨[.str [c]],9,true⟩)],next:=2 }):=by
 exact a0j true Tryz.func258 fun ρ w=>V.q<|V.z
theorem I1 (c:UInt8):∀ s,(d4 c s).length<=s.length+1
 | []=>by simp [d4]
 | x::l=>by
  have ih:=I1 c l;rw [d4];split
  ·simp; omega
  ·split
   ·rename_i h t e;rw [e] at ih; simp at ih ⊢; omega
   ·simp
theorem dH (c:UInt8) (s:List UInt8):(c8 c s).length<=s.length+1:=by
 unfold c8;split
 ·simp
 ·exact I1 c _
structure LX (α:Type) where
 l:List α
 q:Option Addr
 cap:Nat
def RE (n:Int) (x:LX (List UInt8)):St :=
 { n:=23,slots:=[(2,ov (.int .i64 n)),(8,ov (.ptr 0 0))],gs:=[],heap:=[(0,⟨[.row 0 x.q x.l.length x.cap],118,true⟩)],next:=1,rows:=[(0,d5 z7 [] x.l x.q x.cap 9 1 true)],nr:=1,pers:=[j7],wr:=true,fx:=0 }
theorem Hv (c:UInt8) (s:List UInt8) (n:Int) (hs:s.length<4294967281):CallsK a0a 186 [.one (.str s),.one (.str [c]),.one (.int .i64 n)] H0 (λ_:Option Addr×Nat=>True)
  (λx=>.tup [.one (.row 0 x.1 (c8 c s).length x.2),.one (.sb (((c8 c s).length:Int)==n))]) (λx=>{ noF with rows:=[(0,d5 z7 [] (c8 c s) x.1 x.2 9 1 true)],nr:=1 }):=by
 refine a0j true Tryz.func186 fun ρ w=>V.q<|V.c [] (sP c s) λ_ _=>V.q<|H6 z7 [] 0 0 ⟨[.val (.slice none 0 0)],118,true⟩ 9 1 kq rfl<|gh (RE n) ⟨λ_=>rfl,λ_=>rfl,λ_=>rfl,λ_=>rfl,λ_=>rfl,λ_=>rfl,λ_=>rfl,λ_=>rfl⟩ (λi x=>x.l=(c8 c s).take i) (λ_ _=>False) (λi=>[.one (.str ((c8 c s).getD i []))]) (λi ρ=>rfl)
  ⟨[],none,0⟩ [2,8] [true] [(0,false)] (dG c s hs) kq kq rfl kq kq kq (λi=>kq) (λi=>kq) (λi x ρ1 W l r q hi hx=>?_) (λx l r q hx=>?_) (λcd x l r q hx=>hx.elim)
 ·refine V.q<|mQ 2 l (t6 q none) kq rfl kq rfl<|V.q ?_;have n8:x.l.length=i:=by rw [hx,a2b]; omega
  have M3:=dH c s;refine a6q z7 [] x.l ((c8 c s).getD i []) 0 x.q x.cap 9 1 [.str ((c8 c s).getD i [])] 16 kq (by omega) rfl (λ_ _=>kq) λq' cap'=>V.q<|E3 [2,8] [true] none ⟨x.l++[(c8 c s).getD i []],q',cap'⟩ kq kq kq rfl rfl ?_;show _=List.take (i+1) (c8 c s);rw [hx,a2c,a0r];cases e:(c8 c s)[i]? with
  | none=>rw [List.getElem?_eq_none_iff] at e; omega
  | some y=>rfl
 ·have Az:x.l=c8 c s:=by rw [hx,a1o]
  refine V.q<|iA 1 r kq rfl (by rintro e w ⟨x,ρ,_,h,_⟩; exact ⟨_,h⟩) kq kq ?_;rw [<- Az];exact V.e (x.q,x.cap) [] trivial
theorem AZ (w:World) (e:TypeId) (s:ByteArray):Chg (λ_=>False) w (Lib.bytesWorld w e s):=by
 refine ⟨?_,?_,?_,?_,λk hk _=>?_⟩
 ·unfold Lib.bytesWorld World.freeze; rfl
 ·unfold Lib.bytesWorld World.freeze; rfl
 ·unfold Lib.bytesWorld World.freeze; rfl
 ·unfold Lib.bytesWorld World.freeze;simp [World.alloc]
 ·have E0:w.heap.size≠k:=by omega
  unfold Lib.bytesWorld World.freeze;simp [World.alloc,a4x,E0];have:k<w.drew.heap.size:=hk;rw [Array.getElem?_push_lt this];exact (Array.getElem?_eq_getElem _).symm
def Ol (s:List UInt8) (v:Int) (h:a4j s=.ok v) (hl:s.length<=281474976710656):Con a0a :=
 R7 255 [] [.one (.str s)] (.tup [.one (.int .i64 v),.one (.val .nilIface)]) (fun ρ w _ =>
  (Tryz.strconv_Atoi_ok ⟨s.toArray⟩ (by rw [Y7]; omega) v h w).mono λe w' ⟨h1,h2⟩=>⟨h1,by
   rcases h2 with rfl | ⟨t,rfl⟩
   ·exact Chg.refl _ _
   ·exact AZ _ _ _⟩)
def JS (s:List UInt8):Prop:=(∀ v,a4j s≠.ok v)/\a4j s≠.range
theorem Dw (s:List UInt8) (hl:s.length<=281474976710656) (n:Int) (h:(JS s/\n=0)∨(a4j s=.range/\n=Lib.atoiSat s)) :
  CallsK a0a 255 [.one (.str s)] H0 (λ_:Nat=>True) (λN=>.tup [.one (.int .i64 n),.one (.val (.iface 287 (.pointer (some ⟨N,0,none⟩))))]) (λ_=>noF):=by
 intro ρ w hF;have hg:jy w:=(hF.pers j7 (a0d.2 rfl)).1;have aB:∀ N w',Go.RowKit.Below w.heap.size w w'->N9 ρ H0 (λ_:Nat=>True) (λN=>.tup [.one (.int .i64 n),.one (.val (.iface 287 (.pointer (some ⟨N,0,none⟩))))]) (λ_=>noF) w
   (.returned (.tuple #[.int .i64 n,.iface 287 (.pointer (some ⟨N,0,none⟩))])) w':=λN w' hb =>
  ⟨N,ρ,trivial,rfl,λ_ _=>rfl,a0q _,λb _ h2=>absurd h2 (a0x b),⟨λb blk hb=>(by cases hb),λb c hb=>absurd hb (a0x b),λb hb=>absurd hb (a0x b),λr R hR=>(by cases hR),λr r' R R' hR=>(by cases hR),λp hp=>(by cases hp)⟩,
      λb hb=>absurd hb (a0x b),λx hx=>(by
    rcases a0k.1 hx with rfl | hx
    ·trivial
    ·rcases a0k.1 hx with rfl | hx
     ·trivial
     ·cases hx),⟨hb.os,hb.tape,hb.output,hb.size,λk hk _=>hb.block k hk⟩,λb blk hb=>absurd hb (a0x b),λr R hR=>(by cases hR),λp hp=>(by cases hp)⟩
 rcases h with ⟨h1,rfl⟩ | ⟨h1,rfl⟩
 ·obtain ⟨tp,p,hv⟩:=hg.syn;refine (Tryz.strconv_Atoi_syntax_var ⟨s.toArray⟩ (by rw [Y7]; exact hl) h1 tp p w hv).mono ?_;rintro e w' ⟨N,rfl,_,_,hb⟩;exact aB N w' hb
 ·obtain ⟨tp,p,hv⟩:=hg.ran;refine (Tryz.strconv_Atoi_range_var ⟨s.toArray⟩ (by rw [Y7]; exact hl) h1 tp p w hv).mono ?_;rintro e w' ⟨N,rfl,_,_,hb⟩;exact aB N w' hb
def t8 (s:List UInt8):Int:=match a4j s with
 | .ok v=>v
 | .range=>Lib.atoiSat s
 | _=>0
def B7 (s:List UInt8):Bool:=match a4j s with
 | .ok v=>n9 v&&(a0i v==s)
 | _=>false
def sQ:Con a0a:=r6 Tryz.func53 true [] [] kq kq
def T4 (s:List UInt8) (v:Int) (h:a4j s=.ok v) (hl:s.length<=281474976710656):List (Ent a0a):=[⟨Ol s v h hl,[]⟩,sQ.e,⟨ai,[0]⟩]
theorem _root_.Go.SX.CallsK.as {α:Type} {P:Program} {f:FuncId} {ys:List CV} {F:St} {p:α->Prop} {v:α->RV} {F':α->St} (h:CallsK P f ys F p v F') (v':α->RV) (hd:∀ x ρ,p x->(v' x).den ρ=(v x).den ρ) (hw:∀ x,p x->(v' x).wf (F' x).W) :
  CallsK P f ys F p v' F':=by
 intro ρ w hF;refine (h ρ w hF).mono ?_;rintro e w' ⟨x,ρ',hp,he,k1,k2,k3,k4,k5,k6,k7⟩;exact ⟨x,ρ',hp,by rw [hd x ρ' hp]; exact he,k1,k2,k3,k4,k5,hw x hp,k7⟩
theorem RF (s:List UInt8) (hl:s.length<=281474976710656):CallsK a0a 165 [.one (.str s)] H0 (λ_:Unit=>True) (λ_=>.tup [.one (.int .i64 (t8 s)),.one (.sb (B7 s))]) (λ_=>noF):=by
 have iQ:∀ n b,RV.wf noF.W (.tup [.one (.int .i64 n),.one (.sb b)]):=λn b x hx=>by
  rcases a0k.1 hx with rfl | hx
  ·trivial
  ·rcases a0k.1 hx with rfl | hx
   ·trivial
   ·cases hx
 have qq:∀ n,((JS s/\n=0)∨(a4j s=.range/\n=Lib.atoiSat s))->t8 s=n->B7 s=false ->
   CallsK a0a 165 [.one (.str s)] H0 (λ_:Unit=>True) (λ_=>.tup [.one (.int .i64 (t8 s)),.one (.sb (B7 s))]) (λ_=>noF):=by
  intro n h e1 e2;rw [e1,e2];refine CallsK.as (v:=λ_=>.tup [.one (.int .i64 n),.one (.bool false)]) ?_ _ (λ_ _ _=>rfl) (λ_ _=>iQ _ _);exact a0j true Tryz.func165 fun ρ w=>V.q<|V.c [(0,false)] (Dw s hl n h) λN _=>V.q<|V.z
 cases h:a4j s with
 | ok v =>
  rw [show t8 s=v by unfold t8; rw [h],show B7 s=(n9 v&&(a0i v==s)) by unfold B7; rw [h]];refine a0j true Tryz.func165 fun ρ w=>V.runT (T4 s v h hl) [[CV.one (SV.str s)]=[CV.one (SV.str s)],n9 v=true->inK a0h v] kq kq ⟨rfl,λhb=>?_⟩ ?_
  ·simp [n9] at hb;constructor<;>omega
  ·exact V.z
 | range=>exact qq _ (.inr ⟨h,rfl⟩) (by unfold t8; rw [h]) (by unfold B7; rw [h])
 | _=>exact qq 0 (.inl ⟨⟨λv e=>(by rw [h] at e; cases e),λe=>(by rw [h] at e; cases e)⟩,rfl⟩) (by unfold t8; rw [h]) (by unfold B7; rw [h])
theorem _root_.Go.SX.CallsK.gives {P:Program} {f:FuncId} {ys:List CV} {F F':St} {v:RV} (h:CallsK P f ys F (λ_:Unit=>True) (λ_=>v) (λ_=>F')) (hF:F.heap=[]/\F.next=0/\F.rows=[])
  (hv:∀ ρ ρ',v.den ρ=v.den ρ') (ρ:Nat->Nat) (w:World) (hp:C9 F.pers w):Calls P f (ys.map (a2a ρ)).toArray w (u6 (v.den ρ) w):=by
 obtain ⟨h1,h2,h3⟩:=hF;have hs:x6 ρ F w:=⟨λb blk hb=>(by rw [h1] at hb; cases hb),λb c hb=>(by rw [h2] at hb; exact absurd hb (a0x b)),λb hb=>(by rw [h2] at hb; exact absurd hb (a0x b)),λr R hR=>(by rw [h3] at hR; cases hR),λr r' R R' hR=>(by rw [h3] at hR; cases hR),
    λp rV=>⟨(hp p rV).1,(hp p rV).2.1,λk hD=>⟨(hp p rV).2.2 k hD,λb hb=>(by rw [h2] at hb; exact absurd hb (a0x b)),λr R hR=>(by rw [h3] at hR; cases hR)⟩⟩⟩
 refine (h ρ w hs).mono ?_;rintro e w' ⟨x,ρ',_,he,_,_,_,_,_,_,hc,_⟩;refine ⟨by rw [he,hv ρ' ρ],hc.os,hc.tape,hc.output,hc.size,λk hk _=>hc.block k hk ?_⟩;rintro (⟨b,blk,hb,_⟩ | ⟨r,R,hR,_⟩)
 ·rw [h1] at hb; cases hb
 ·rw [h3] at hR; cases hR
def oL:Con a0a:=ix 165 [j7] (λs=>(.tup [.one (.int .i64 (t8 s)),.one (.sb (B7 s))],[s.length<=281474976710656])) (λs ρ w q8 hp =>
 CallsK.gives (RF s (q8 _ (a0d.2 rfl))) ⟨rfl,rfl,rfl⟩ (λ_ _=>rfl) ρ w hp)
def T5:List (Ent a0a):=[vm.e,⟨oL,[0]⟩]
def Ln:Con a0a:=r6 Tryz.func158 true T5 [j7] kq kq
end Go.Proofs
end
section
namespace Go.SX
open Go
theorem md (l:List (List UInt8)) (q:Option Addr) (cap:Nat):(d5 z7 [] l q cap 9 1 true).flat=l.map λs=>Value.string ⟨s.toArray⟩:=by
 have h1:(d5 z7 [] l q cap 9 1 true).flat=(a2f l.length).map λi=>Value.string ⟨(l.getD i []).toArray⟩:=by
  show (a2f l.length).flatMap (λi=>[Value.string ⟨(l.getD i []).toArray⟩])=_;rw [List.flatMap_def]
  induction (a2f l.length) with
  | nil=>rfl
  | cons x xs ih=>simp only [a3h,List.flatten_cons,ih,List.singleton_append]
 rw [h1];apply List.ext_getElem?;intro i;rw [a2t,a2t];by_cases hi:i<l.length
 ·rw [List.getElem?_range hi,a0b hi,a2u,a2u,a0r,a0b hi];rfl
 ·rw [a6e (by simp; omega),a6e (by omega)];rfl
theorem Ba {w:World} {g:Nat} {l:List (List UInt8)} {cap:Nat} {cur:Array Value} (hg:w.heap[g]?=some (.cells cur 9 (0,0))) (hcur:cur.toList.take l.length=l.map λs=>Value.string ⟨s.toArray⟩) (eN:l.length<=cap) (VG:cap<=maxLen) (C8:cur.size=cap) :
  (d5 z7 [] l (some ⟨g,0,none⟩) cap 9 1 true).ok w:=by
 have Ns:∀ i,i<l.length->cur[i]?=some (Value.string ⟨(l.getD i []).toArray⟩):=by
  intro i hi;have h1:(cur.toList.take l.length)[i]?=(l.map λs=>Value.string ⟨s.toArray⟩)[i]?:=by rw [hcur]
  rw [List.getElem?_take_of_lt hi] at h1;rw [Array.getElem?_toList] at h1;rw [h1,a2t,a0r,a0b hi];rfl
 refine ⟨λi hi=>⟨rfl,λx hx=>?_⟩,λhp=>⟨g,0,rfl,λi j x hi hx=>?_⟩,λ_ _=>⟨?_,.inr ⟨g,cap,cur,rfl,a0s _,hg,eN,VG,by simp only [d5]; omega,?_⟩⟩,λo ho=>(by cases ho)⟩
 ·have:x=.str (l.getD i []):=by simpa [d5,z7] using hx
  subst this; trivial
 ·have ao:i<l.length:=hi;simp only [d5,z7] at hx;cases j with
  | zero =>
   simp only [List.getElem?_cons_zero,a0l] at hx;subst hx;show w.cell? ⟨g,0+(i*1+0),none⟩=_;rw [a4i hg];simp only [Nat.zero_add,Nat.mul_one,Nat.add_zero];rw [Ns i ao];rfl
  | succ j=>simp at hx
 ·rw [md]; simp [d5]
 ·rw [md];simp only [d5,Nat.mul_one];exact hcur
theorem fu {P:Program} {f:FuncId} {ys:List CV} {F:St} (l:List (List UInt8)) (hl:l.length<=4294967296) (hF:F.heap=[]/\F.next=0/\F.rows=[])
  (h:∀ ρ w,x6 ρ F w->Calls P f (ys.map (a2a ρ)).toArray w λe w'=>e=.returned (.slice (some ⟨w.heap.size,0,none⟩) l.length l.length)/\w'=w.alloc (.cells (l.map λs=>Value.string ⟨s.toArray⟩).toArray 9)) :
  CallsK P f ys F (λ_:Nat=>True) (λg=>ov (.row 0 (some ⟨g,0,none⟩) l.length l.length)) (λg=>{ n:=0,slots:=[],gs:=[],heap:=[],next:=0,rows:=[(0,d5 z7 [] l (some ⟨g,0,none⟩) l.length 9 1 true)],nr:=1,pers:=[],wr:=false }):=by
 obtain ⟨f1,f2,f3⟩:=hF;intro ρ w hS;refine (h ρ w hS).mono ?_;rintro e w' ⟨rfl,rfl⟩;have hg:(w.alloc (.cells (l.map λs=>Value.string ⟨s.toArray⟩).toArray 9)).heap[w.heap.size]?=some (.cells (l.map λs=>Value.string ⟨s.toArray⟩).toArray 9 (0,0)):=by
  show (w.heap.push _)[w.heap.size]?=_;simp
 have x7:=Ba (l:=l) (cap:=l.length) hg (by simp [List.take_of_length_le]) (a0q _) (by unfold maxLen; omega) (by simp);have U3:∀ k,(d5 z7 [] l (some ⟨w.heap.size,0,none⟩) l.length 9 1 true).uses k->k=w.heap.size:=by
  rintro k ⟨ad,h1,h2,_⟩;cases h1; exact h2.symm
 have W3:∀ r R,look [((0:Nat),d5 z7 [] l (some ⟨w.heap.size,0,none⟩) l.length 9 1 true)] r=some R->r=0/\R=d5 z7 [] l (some ⟨w.heap.size,0,none⟩) l.length 9 1 true:=by
  intro r R hR;simp only [look] at hR;split at hR
  ·rename_i e; cases hR; exact ⟨((d6 _ _).1 e).symm,rfl⟩
  ·cases hR
 have C8:(w.alloc (.cells (l.map λs=>Value.string ⟨s.toArray⟩).toArray 9)).heap.size=w.heap.size+1:=World.size_alloc _ _;refine ⟨w.heap.size,ρ,trivial,rfl,λ_ _=>rfl,by rw [f2]; exact a0q _,λb _ h2=>absurd h2 (a0x b),⟨λb blk hb=>(by cases hb),λb c hb=>absurd hb (a0x b),λb hb=>absurd hb (a0x b),?_,?_,λp hp=>(by cases hp)⟩,
    λb hb=>(by rw [f2] at hb; exact absurd hb (a0x b)),⟨a4e 0,λR hR=>(by obtain ⟨_,rfl⟩:=W3 0 R hR; exact ⟨rfl,rfl,rfl⟩)⟩,Chg.alloc _ _ _,λb blk hb=>(by rw [f2] at hb; exact absurd hb (a0x b)),?_,λp hp=>(by cases hp)⟩
 ·intro r R hR;obtain ⟨rfl,rfl⟩:=W3 r R hR;exact ⟨a4e 0,x7,λk hk=>⟨by rw [U3 k hk,C8]; omega,λb hb=>absurd hb (a0x b)⟩⟩
 ·intro r r' R R' h1 h2 E0;obtain ⟨rfl,_⟩:=W3 r R h1;obtain ⟨rfl,_⟩:=W3 r' R' h2;exact absurd rfl E0
 ·intro r R hR k hk;obtain ⟨_,rfl⟩:=W3 r R hR;exact .inr (.inr (Nat.le_of_eq (U3 k hk).symm))
end Go.SX
namespace Go.Proofs
open Go Go.SX
theorem Hw (s:List UInt8) (hs:s.length<4294967281) (ha:s.all (λb=>decide (b.toNat<128))=true) (hn:(a6m s).length<=4294967296):CallsK a0a 114 [.one (.str s)] H0 (λ_:Nat=>True)
  (λg=>ov (.row 0 (some ⟨g,0,none⟩) (a6m s).length (a6m s).length)) (λg=>{ n:=0,slots:=[],gs:=[],heap:=[],next:=0,rows:=[(0,d5 z7 [] (a6m s) (some ⟨g,0,none⟩) (a6m s).length 9 1 true)],nr:=1,pers:=[],wr:=false }):=by
 refine fu (a6m s) hn ⟨rfl,rfl,rfl⟩ (fun ρ w hS=>?_);have hg:jy w:=(hS.pers j7 (a0d.2 rfl)).1;exact Tryz.strings_Fields ⟨s.toArray⟩ w (by rw [Y7]; exact hs) (λj b hb=>by
  have:=a0y.1 ha b (a0v hb);simpa using this) hg.sp
end Go.Proofs
end
section
namespace Go.Proofs
open Go Go.SX
def kW (s sep:List UInt8):List (List UInt8):=(Lib.splitB ⟨sep.toArray⟩ 0 (Lib.countB ⟨s.toArray⟩ ⟨sep.toArray⟩) ⟨s.toArray⟩).map (·.data.toList)
theorem Lo (s sep:List UInt8) (hs:s.length<4294967281) (h1:1<=sep.length) (hn:(kW s sep).length=Lib.countB ⟨s.toArray⟩ ⟨sep.toArray⟩+1) (hm:(kW s sep).length<=4294967296):CallsK a0a 128 [.one (.str s),.one (.str sep)] H0 (λ_:Nat=>True)
  (λg=>ov (.row 0 (some ⟨g,0,none⟩) (kW s sep).length (kW s sep).length)) (λg=>{ n:=0,slots:=[],gs:=[],heap:=[],next:=0,rows:=[(0,d5 z7 [] (kW s sep) (some ⟨g,0,none⟩) (kW s sep).length 9 1 true)],nr:=1,pers:=[],wr:=false }):=by
 refine fu (kW s sep) hm ⟨rfl,rfl,rfl⟩ (fun ρ w hS=>?_);obtain ⟨m,VG⟩:=((hS.pers j7 (a0d.2 rfl)).1:jy w).max;refine (Tryz.strings_Split ⟨s.toArray⟩ ⟨sep.toArray⟩ m w (by rw [Y7]; exact hs) VG (by rw [Y7]; exact h1)).mono ?_;rintro e w' ⟨rfl,rfl⟩;refine ⟨?_,?_⟩
 ·rw [hn]
 ·congr 2;unfold kW;rw [a3q];rfl
theorem zu (l:List (List UInt8)) (sep:List UInt8) (q:Option Addr) (cap:Nat) (hn:l.length<=140737488355328) (hj:(a1u l sep).length<=140737488355328) :
  CallsK a0a 121 [.one (.row 0 q l.length cap),.one (.str sep)] { n:=0,slots:=[],gs:=[],heap:=[],next:=0,rows:=[(0,d5 z7 [] l q cap 9 1 true)],nr:=1,pers:=[],wr:=false } (λ_:Unit=>True)
  (λ_=>ov (.str (a1u l sep))) (λ_=>noF):=by
 intro ρ w hS;obtain ⟨_,x7,U3⟩:=hS.rows 0 _ rfl;have aB:∀ w',Chg (λ_=>False) w w'->N9 ρ { n:=0,slots:=[],gs:=[],heap:=[],next:=0,rows:=[(0,d5 z7 [] l q cap 9 1 true)],nr:=1,pers:=[],wr:=false } (λ_:Unit=>True) (λ_=>ov (.str (a1u l sep))) (λ_=>noF) w (.returned (.string ⟨(a1u l sep).toArray⟩)) w':=λw' hc =>
  ⟨(),ρ,trivial,rfl,λ_ _=>rfl,a0q _,λb _ h2=>absurd h2 (a0x b),⟨λb blk hb=>(by cases hb),λb c hb=>absurd hb (a0x b),λb hb=>absurd hb (a0x b),λr R hR=>(by cases hR),λr r' R R' hR=>(by cases hR),λp hp=>(by cases hp)⟩,
      λb hb=>absurd hb (a0x b),trivial,⟨hc.os,hc.tape,hc.output,hc.size,λk hk _=>hc.block k hk id⟩,λb blk hb=>absurd hb (a0x b),λr R hR=>(by cases hR),λp hp=>(by cases hp)⟩
 cases l with
 | nil =>
  refine (Tryz.strings_Join_none q cap ⟨sep.toArray⟩ w).mono ?_;rintro e w' ⟨rfl,rfl⟩;exact aB _ (Chg.refl _ _)
 | cons x xs =>
  obtain ⟨b,off,hs,W1⟩:=x7.addr (a4e _);have hq:q=some ⟨b,off,none⟩:=hs;subst hq;obtain ⟨_,⟨hv,_⟩ | ⟨g,cap',cur,hv,_,hg,eN,_⟩⟩:=x7.own rfl rfl
  ·cases hv
  ·simp only [d5] at hv eN;injection hv with e1 e2 e3;cases e1;subst e3;have e9:=(Array.getElem?_eq_some_iff.1 hg).1;have Jw:((x::xs).map λs=>(⟨s.toArray⟩:ByteArray)).map (·.data.toList)=x::xs:=by
    rw [a3q];exact (List.map_congr_left λa _=>by simp).trans (List.map_id _)
   have:=Tryz.strings_Join b 0 cap ((x::xs).map λs=>(⟨s.toArray⟩:ByteArray)) ⟨sep.toArray⟩ w (λj y hy=>by
    rw [a2t] at hy;obtain ⟨z,hz,rfl⟩:=Option.map_eq_some_iff.1 hy;have JB:j<(x::xs).length:=(a2l.1 hz).1;have h3:=W1 j 0 (.str z) JB (by simp only [d5,z7,a0r,hz]; rfl);simpa [d5,a3n,SV.den] using h3) e9 (by simpa using hn) (by simpa using eN) (by rw [Jw]; exact hj)
   rw [Jw] at this;simp only [List.length_map] at this;refine this.mono ?_;rintro e w' ⟨rfl,hb⟩;exact aB _ ⟨hb.os,hb.tape,hb.output,hb.size,λk hk _=>hb.block k hk⟩
end Go.Proofs
end
section
namespace Go.Proofs
open Go
theorem mf (m:List UInt8):∀ (l:List UInt8) (acc:Nat),a6n acc (l++m)=(a6n acc l).bind λa=>a6n a m
 | [],acc=>rfl
 | b::l,acc=>by
  simp only [List.cons_append,a6n];cases Lib.digitVal b with
  | none=>rfl
  | some d=>exact mf m l _
theorem rj {d:Nat} (h:d<10):Lib.digitVal (a1c (48+d))=some d:=by
 unfold Lib.digitVal;have e:(a1c (48+d)).toNat=48+d:=by simp; omega
 rw [e,if_pos (by omega)];simp
theorem dI (u:Nat):a6n 0 (a2y u)=some u:=by
 induction u using Nat.strongRecOn with
 | _ u ih =>
  by_cases h:u<10
  ·rw [a2y,dif_pos h];simp only [a6n,rj h];simp
  ·rw [a2y,dif_neg h,mf,ih (u / 10) (by omega)];simp only [Option.bind_some,a6n,rj (show u % 10<10 by omega)];congr 1; omega
theorem kX (u:Nat):a2y u≠[]:=by
 intro h;have h1:=Lib.decDigits_length u;have h2:=Lib.nDigits_pos u;rw [h] at h1;simp at h1;omega
theorem dJ (u:Nat):∀ b∈a2y u,48<=b.toNat/\b.toNat<=57:=by
 intro b hb;obtain ⟨k,hk⟩:=List.getElem?_of_mem hb;obtain ⟨d,hd⟩:=Lib.digit_of_decFrom _ 0 u (dI u) k b hk;have:=Lib.digitVal_eq hd;omega
theorem xC (k:Nat):∀ u:Nat,u<10 ^ (k+1)->Lib.nDigits u<=k+1:=by
 induction k with
 | zero=>intro u h; rw [Lib.nDigits_small (by simpa using h)]; exact a0q _
 | succ k ih =>
  intro u h;by_cases hs:u<10
  ·rw [Lib.nDigits_small hs]; omega
  ·rw [Lib.nDigits_big hs];have:=ih (u / 10) (by rw [a6c] at h; omega);omega
theorem dL {u:Nat} (h:u<10000000000):(a2y u).length<=10:=by
 rw [Lib.decDigits_length];exact xC 9 u (by simpa using h)
theorem hI (u:Nat):Lib.decNat (a2y u)=some u:=by
 unfold Lib.decNat;cases h:a2y u with
 | nil=>exact absurd h (kX u)
 | cons b l=>rw [<- h,dI]; simp [h]
theorem mg (u:Nat):∃ b l,a2y u=b::l/\48<=b.toNat/\b.toNat<=57:=by
 cases h:a2y u with
 | nil=>exact absurd h (kX u)
 | cons b l=>exact ⟨b,l,rfl,dJ u b (by rw [h]; exact a0f ..)⟩
theorem xD (n:Int):∀ b∈a0i n,b=45∨(48<=b.toNat/\b.toNat<=57):=by
 intro b hb;unfold a0i at hb;split at hb
 ·rcases a0k.1 hb with rfl | hb
  ·exact .inl rfl
  ·exact .inr (dJ _ b hb)
 ·exact .inr (dJ _ b hb)
theorem dM (n:Int):a0i n≠[]:=by
 unfold a0i;split
 ·exact a3i _ _
 ·exact kX _
theorem Bb {n:Int} (h:-4294967296<=n/\n<=4294967296):a4j (a0i n)=.ok n:=by
 by_cases hn:n<0
 ·have e:a0i n=45::a2y n.natAbs:=by unfold a0i; rw [if_pos hn]
  have hl:=dL (u:=n.natAbs) (by omega);rw [e,Lib.atoiAll_short _ (by simp; omega)];have e2:Lib.atoi (45::a2y n.natAbs)=(Lib.decNat (a2y n.natAbs)).map λ(m:Nat)=>-(m:Int):=rfl;rw [e2,hI];simp only [a2u,Lib.NumEnd.ofOption];congr 1; omega
 ·have e:a0i n=a2y n.toNat:=by unfold a0i; rw [if_neg hn]
  have hl:=dL (u:=n.toNat) (by omega);obtain ⟨b,l,hd,hb⟩:=mg n.toNat;rw [e,Lib.atoiAll_short _ (by omega)];have hv:=hI n.toNat;rw [hd] at hv ⊢;unfold Lib.atoi;have WJ:(b==45)=false:=by
   rw [beq_eq_false_iff_ne];rintro rfl;simp at hb
  have Xj:(b==43)=false:=by
   rw [beq_eq_false_iff_ne];rintro rfl;simp at hb
  simp only [WJ,Xj,hv,a4n,if_false,a2u,Lib.NumEnd.ofOption];congr 1; omega
def bu:Nat->List UInt8->Nat->Option Nat
 | 0,_,n=>some n
 | _+1,[],n=>some n
 | k+1,c::r,n=>if c.toNat<48∨57<c.toNat then none else bu k r (10*n+(c.toNat - 48))
def K2 (s:List UInt8):Int:=if s.head?=some 45 then (match bu 11 s.tail 0 with
  | some n=>-(n:Int)
  | none=>0) else match bu 11 s 0 with
  | some n=>(n:Int)
  | none=>0
theorem kY:∀ (k:Nat) (l:List UInt8) (n:Nat),l.length<=k->bu k l n=a6n n l
 | 0,[],_,_=>rfl
 | 0,c::r,n,h=>by simp at h
 | k+1,[],_,_=>rfl
 | k+1,c::r,n,h=>by
  simp only [bu,a6n,Lib.digitVal];by_cases hc:48<=c.toNat/\c.toNat<=57
  ·rw [if_neg (by omega),if_pos hc];simp only;rw [kY k r _ (by simp at h; omega),Nat.mul_comm]
  ·rw [if_pos (by omega),if_neg hc]
theorem B5 {n:Int} (h:-4294967296<=n/\n<=4294967296):K2 (a0i n)=n:=by
 by_cases hn:n<0
 ·have e:a0i n=45::a2y n.natAbs:=by unfold a0i; rw [if_pos hn]
  have hl:=dL (u:=n.natAbs) (by omega);rw [e];unfold K2;simp only [List.head?_cons,List.tail_cons,if_true,kY 11 _ 0 (show (a2y n.natAbs).length<=11 by omega),dI];omega
 ·have e:a0i n=a2y n.toNat:=by unfold a0i; rw [if_neg hn]
  have hl:=dL (u:=n.toNat) (by omega);obtain ⟨b,l,hd,hb⟩:=mg n.toNat;rw [e];unfold K2;rw [if_neg (by
   rw [hd];intro h2;simp only [List.head?_cons,a0l] at h2;subst h2;simp at hb),kY 11 _ 0 (by omega),dI]
  simp only;omega
def I7 (v:Nat):UInt8:=([48,49,50,51,52,53,54,55,56,57,97,98,99,100,101,102]:List UInt8).getD v 0
def gQ (s:List UInt8):List UInt8:=s.flatMap λc=>[I7 (c.toNat / 16),I7 (c.toNat % 16)]
def J2 (s:List UInt8):List UInt8:=61::gQ s
def eG (c:UInt8):Option Nat:=if 48<=c.toNat/\c.toNat<=57 then some (c.toNat - 48) else if 97<=c.toNat/\c.toNat<=102 then some (c.toNat - 87) else none
def au:List UInt8->Option (List UInt8)
 | []=>some []
 | [_]=>none
 | a::b::l=>match eG a,eG b with
  | some x,some y=>(au l).map (a1c (16*x+y)::·)
  | _,_=>none
theorem xG:∀ i:Fin 16,eG (I7 i.val)=some i.val:=by decide +kernel
theorem Dx {v:Nat} (h:v<16):eG (I7 v)=some v:=xG ⟨v,h⟩
theorem Dy {c:UInt8} {v:Nat} (h:eG c=some v):v<16/\I7 v=c:=by
 have h2:∀ n:Fin 256,∀ v,eG (a1c n.val)=some v->v<16/\I7 v=a1c n.val:=by
  intro n v hv;have h3:∀ n:Fin 256,(match eG (a1c n.val) with | some v=>decide (v<16)&&I7 v==a1c n.val | none=>true)=true:=by decide +kernel
  have:=h3 n;rw [hv] at this;simpa using this
 have:=h2 ⟨c.toNat,c.toNat_lt⟩ v (by simpa using h);simpa using this
theorem cJ (c:UInt8) (s:List UInt8):gQ (c::s)=I7 (c.toNat / 16)::I7 (c.toNat % 16)::gQ s:=rfl
theorem sR:∀ s:List UInt8,au (gQ s)=some s
 | []=>rfl
 | c::s=>by
  have hc:=c.toNat_lt;rw [cJ,au,Dx (show c.toNat / 16<16 by omega),Dx (show c.toNat % 16<16 by omega),sR s];simp only [a2u];rw [show 16*(c.toNat / 16)+c.toNat % 16=c.toNat by omega];simp
theorem zv:∀ (t s:List UInt8),au t=some s->gQ s=t
 | [],s,h=>by simp only [au,a0l] at h; subst h; rfl
 | [a],s,h=>by simp [au] at h
 | a::b::l,s,h=>by
  rw [au] at h;cases ha:eG a with
  | none=>rw [ha] at h; simp at h
  | some x =>
   cases hb:eG b with
   | none=>rw [ha,hb] at h; simp at h
   | some y =>
    rw [ha,hb] at h;cases hl:au l with
    | none=>rw [hl] at h; simp at h
    | some r =>
     rw [hl] at h;simp only [a2u,a0l] at h;subst h;obtain ⟨x1,x2⟩:=Dy ha;obtain ⟨y1,y2⟩:=Dy hb;have e:(a1c (16*x+y)).toNat=16*x+y:=by simp; omega
     rw [cJ,e,show (16*x+y) / 16=x by omega,show (16*x+y) % 16=y by omega,x2,y2,zv l r hl]
def gR (c:UInt8):UInt8:=if c>=97 then c - 97+10 else c - 48
def dN:List UInt8->List UInt8
 | a::b::l=>(gR a*16+gR b)::dN l
 | _=>[]
theorem Dz:∀ n:Fin 256,gR (I7 (n.val / 16))*16+gR (I7 (n.val % 16))=a1c n.val:=by decide +kernel
theorem jz:∀ s:List UInt8,dN (gQ s)=s
 | []=>rfl
 | c::s=>by
  rw [cJ,dN,jz s];have:=Dz ⟨c.toNat,c.toNat_lt⟩;simp only at this;rw [this];simp
theorem fv:∀ s:List UInt8,(gQ s).length=2*s.length
 | []=>rfl
 | c::s=>by rw [cJ,a0p,a0p,fv s,a0p]; omega
theorem hM:∀ i:Fin 16,(48<=(I7 i.val).toNat/\(I7 i.val).toNat<=57)∨(97<=(I7 i.val).toNat/\(I7 i.val).toNat<=102):=by decide +kernel
theorem oM:∀ (s:List UInt8),∀ b∈gQ s,(48<=b.toNat/\b.toNat<=57)∨(97<=b.toNat/\b.toNat<=102)
 | [],b,hb=>by cases hb
 | c::s,b,hb=>by
  rw [cJ] at hb;have hc:=c.toNat_lt;rcases a0k.1 hb with rfl | hb
  ·exact hM ⟨c.toNat / 16,by omega⟩
  rcases a0k.1 hb with rfl | hb
  ·exact hM ⟨c.toNat % 16,by omega⟩
  exact oM s b hb
end Go.Proofs
end
section
namespace Go.Proofs
open Go Go.SX
def _root_.Go.SX.Con.p1 {P:Program} (f off:Nat) (ok:∀ g o w,g<w.heap.size->Calls P f #[.pointer (some ⟨g,o,none⟩)] w (u6 (.pointer (some ⟨g,o+off,none⟩)) w)):Con P where
 f:=f
 need:=[]
 fn:=λxs=>match xs with
  | [.one (.ptr b o)]=>some (.v (.one (.ptr b (o+off))),[])
  | _=>none
 ok:=by
  intro xs v ob h _ ρ w _ e9;split at h
  ·rename_i b o;simp only [a0l,a1f] at h;obtain ⟨rfl,rfl⟩:=h;exact ok (ρ b) o w (e9 _ (a0d.2 rfl) _ (a0d.2 rfl))
  ·cases h
def RG (s:Sel):Con a0a:=Con.p1 s.fn s.off (u4 s)
def P9 (s:List UInt8):Int:=bif s==[45] then -1 else t8 (a0o s [114])
def iC (s:List UInt8):Bool:=bif s==[45] then true else B7 (a0o s [114])&&decide (t8 (a0o s [114])>=0)&&(((s.getD 0 0).toNat:Int)==114)
def DA:Con a0a:=Ln.as (λxs=>match xs with
  | [.one (.str s)]=>some (.tup [.one (.int .i64 (P9 s)),.one (.sb (iC s))],[s.length<=281474976710656])
  | _=>none) (by
 intro xs v ob h q8;split at h
 ·rename_i s;simp only [a0l,a1f] at h;obtain ⟨rfl,rfl⟩:=h;have hs:=q8 _ (a0d.2 rfl);have hl:(a0o s [114]).length<=281474976710656:=by
   unfold a0o;split
   ·simp; omega
   ·exact hs
  refine ⟨.tup [.one (.int .i64 (P9 s)),.one (.sb (iC s))],[(s==[45])=false->(a0o s [114]).length<=281474976710656,(s==[45])=false->(B7 (a0o s [114])&&decide (t8 (a0o s [114])>=0))=true->(0:Int)<=0/\(0:Int)<(s.length:Int)],kq,?_,λ_=>rfl⟩;intro p hp;rcases a0k.1 hp with rfl | hp
  ·exact λ_=>hl
  ·rw [a0d.1 hp];intro _ hb;refine ⟨Int.le_refl _,?_⟩;cases s with
   | nil=>cases hb
   | cons x l=>simp
 ·cases h)
def TP (s:Sel):List (Ent a0a):=[(RG s).e,⟨oL,[0]⟩,⟨DA,[0]⟩,S5.e]
theorem oN (s:Sel) (l:List UInt8) (x:In) (A:IA) (cb:Nat) (hl:l.length<=281474976710656):CallsK a0a 164 [.one (.str l),.one (.ptr 0 0),.one (.val (.pointer (some ⟨cb,0,none⟩)))] (psF [s.blk cb,j7] x A)
  (λ_:Unit=>True) (λ_=>ov (.sb (B7 l))) (λ_=>psF [] (s.set x (t8 l)) A):=by
 have tg:Tg s:=⟨⟩;cases s
 all_goals
  exact a0j false Tryz.func164 fun ρ w=>V.t (TP tg.i) [] trivial<|y8 0 159 cb 0 [Sel.val tg.i] 159 (.one (Sel.val tg.i))<|V.t (TP tg.i) [l.length<=281474976710656] (by exact hl)<|V.z
theorem oO (s:Sel) (l:List UInt8) (x:In) (A:IA) (cb:Nat) (hl:l.length<=281474976710656):CallsK a0a 157 [.one (.str l),.one (.ptr 0 0),.one (.val (.pointer (some ⟨cb,0,none⟩)))] (psF [s.blk cb,j7] x A)
  (λ_:Unit=>True) (λ_=>ov (.sb (iC l))) (λ_=>psF [] (s.set x (P9 l)) A):=by
 have tg:Tg s:=⟨⟩;cases s
 all_goals
  exact a0j false Tryz.func157 fun ρ w=>V.t (TP tg.i) [] trivial<|y8 0 159 cb 0 [Sel.val tg.i] 159 (.one (Sel.val tg.i))<|V.t (TP tg.i) [l.length<=281474976710656] (by exact hl)<|V.z
def prN (l:List UInt8):Int:=bif a0o l [33]==[45] then -1 else t8 (a0o l [33])
def prB (l:List UInt8):Bool:=bif a0o l [33]==[45] then a2d l [33] else B7 (a0o l [33])&&a2d l [33]&&decide (t8 (a0o l [33])>=0)
theorem X7 (s t:List UInt8) {n:Nat} (h:s.length<=n):(a0o s t).length<=n:=by
 unfold a0o;split
 ·simp; omega
 ·exact h
theorem oP (s:Sel) (l:List UInt8) (x:In) (A:IA) (cb:Nat) (hl:l.length<=281474976710656):CallsK a0a 218 [.one (.str l),.one (.ptr 0 0),.one (.val (.pointer (some ⟨cb,0,none⟩)))] (psF [s.blk cb,j7] x A)
  (λ_:Unit=>True) (λ_=>ov (.sb (B7 (a0o l [64])&&a2d l [64]))) (λ_=>psF [] (s.set x (t8 (a0o l [64]))) A):=by
 have tg:Tg s:=⟨⟩;cases s
 all_goals
  exact a0j false Tryz.func218 fun ρ w=>V.t (TP tg.i) [] trivial<|y8 0 159 cb 0 [Sel.val tg.i] 159 (.one (Sel.val tg.i))<|V.t (TP tg.i) [(a0o l [64]).length<=281474976710656] (X7 l [64] hl)<|V.z
theorem rk (s:Sel) (l:List UInt8) (x:In) (A:IA) (cb:Nat) (hl:l.length<=281474976710656):CallsK a0a 226 [.one (.str l),.one (.ptr 0 0),.one (.val (.pointer (some ⟨cb,0,none⟩)))] (psF [s.blk cb,j7] x A)
  (λ_:Unit=>True) (λ_=>ov (.sb (prB l))) (λ_=>psF [] (s.set x (prN l)) A):=by
 have tg:Tg s:=⟨⟩;cases s
 all_goals
  refine a0j false Tryz.func226 fun ρ w=>V.t (TP tg.i) [] trivial<|f9 13 (a0o l [33]==[45]) (λhb=>?_) (λhb=>?_)
  ·refine V.t (TP tg.i) [] trivial<|y8 0 159 cb 0 [Sel.val tg.i] 159 (.one (Sel.val tg.i))<|V.t (TP tg.i) [] trivial ?_;rw [show prB l=a2d l [33] by simp only [prB,hb,cond_true],show prN l=-1 by simp only [prN,hb,cond_true]];exact V.z
  ·refine V.t (TP tg.i) [] trivial<|y8 0 159 cb 0 [Sel.val tg.i] 159 (.one (Sel.val tg.i))<|V.t (TP tg.i) [(a0o l [33]).length<=281474976710656] (X7 l [33] hl) ?_;rw [show prN l=t8 (a0o l [33]) by simp only [prN,hb,cond_false]];cases h2:(B7 (a0o l [33])&&a2d l [33]) with
   | true =>
    rw [show prB l=decide (t8 (a0o l [33])>=0) by simp only [prB,hb,cond_false,h2,a5a]];exact m0 32 (B7 (a0o l [33])&&a2d l [33]) true h2<|y8 0 159 cb 0 [Sel.val tg.i] 159 (.one (Sel.val tg.i))<|V.t (TP tg.i) [] trivial<|V.z
   | false =>
    rw [show prB l=false by simp only [prB,hb,cond_false,h2,a6r]];exact m0 32 (B7 (a0o l [33])&&a2d l [33]) false h2<|V.t (TP tg.i) [] trivial<|a4o 5 false<|V.z
end Go.Proofs
end
section
namespace Go.Proofs
open Go
def ab (v:Bool):List UInt8:=bif v then [49] else [48]
def y9 (t:Ty):List UInt8:=a0i t.k++[44]++a0i t.p++[44]++a0i t.q++[44]++ab t.v++[44]++J2 t.s
def E9 (f:Fm):List UInt8:=a0i f.k++[44]++a0i f.w++[44]++a0i f.d++[44]++J2 f.s
def dO (x:In):List UInt8:=a0i x.vn++[44]++J2 x.vs
def T3 (x:In):List UInt8:=[33]++a0i x.p++[64]++a0i x.n
def unB (s:List UInt8):Bool:=a2d s [61]&&(au (a0o s [61])).isSome
def unN (s:List UInt8):List UInt8:=bif unB s then (au (a0o s [61])).getD [] else []
def pC (s:List UInt8) (i:Nat):List UInt8:=(c8 44 s).getD i []
def tyB (s:List UInt8):Bool:=((c8 44 s).length==5)&&(pC s 3==[48]||pC s 3==[49])&&B7 (pC s 0)&&B7 (pC s 1)&&B7 (pC s 2)&&unB (pC s 4)
def tyV (s:List UInt8):Ty:=⟨t8 (pC s 0),t8 (pC s 1),t8 (pC s 2),pC s 3==[49],unN (pC s 4)⟩
def fmB (s:List UInt8):Bool:=((c8 44 s).length==4)&&B7 (pC s 0)&&B7 (pC s 1)&&B7 (pC s 2)&&unB (pC s 3)
def fmV (s:List UInt8):Fm:=⟨t8 (pC s 0),t8 (pC s 1),t8 (pC s 2),unN (pC s 3)⟩
def vlB (s:List UInt8):Bool:=((c8 44 s).length==2)&&B7 (pC s 0)&&unB (pC s 1)
def ac (s:List UInt8):List UInt8×List UInt8×Bool:=a3d (a0o s [33]) [64]
def frB (s:List UInt8):Bool:=a2d s [33]&&(ac s).2.2&&B7 (ac s).1&&B7 (ac s).2.1
def psG {α:Type} (B:List UInt8->Bool) (N:List UInt8->α):List α->List (List UInt8)->List α×Bool
 | l,[]=>(l,true)
 | l,p::ps=>if (!B p||(l.length:Int)==16)=true then (l,false) else psG B N (l++[N p]) ps
theorem cK (c:UInt8) (s:List UInt8):d4 c s≠[]:=by rw [bt]; exact a3i _ _
theorem gq (c:UInt8) (r:List UInt8):∀ w:List UInt8,c ∉ w->d4 c (w++c::r)=w::d4 c r
 | [],_=>by simp [d4]
 | x::w,h=>by
  have hx:(x==c)=false:=by
   rw [beq_eq_false_iff_ne];rintro rfl;exact h (a0f ..)
  rw [List.cons_append,d4,hx,if_neg (by decide),gq c r w (λhm=>h (a0e _ hm))]
theorem gr (c:UInt8):∀ w:List UInt8,c ∉ w->d4 c w=[w]
 | [],_=>rfl
 | x::w,h=>by
  have hx:(x==c)=false:=by
   rw [beq_eq_false_iff_ne];rintro rfl;exact h (a0f ..)
  rw [d4,hx,if_neg (by decide),gr c w (λhm=>h (a0e _ hm))]
theorem cL (x y:List UInt8) (r:List (List UInt8)) (c:UInt8):a1u (x::y::r) [c]=x++c::a1u (y::r) [c]:=by
 rw [a6y,a6y];simp [a4w]
theorem iD (c:UInt8):∀ ws:List (List UInt8),ws≠[]->(∀ w∈ws,c ∉ w)->d4 c (a1u ws [c])=ws
 | [],h,_=>absurd rfl h
 | [w],_,h=>by rw [Lib.join_one]; exact gr c w (h w (a0f ..))
 | x::y::r,_,h=>by
  rw [cL,gq c _ x (h x (a0f ..)),iD c (y::r) (a3i _ _) (λw hw=>h w (a0e _ hw))]
theorem iE (c:UInt8):∀ s:List UInt8,a1u (d4 c s) [c]=s
 | []=>Lib.join_one _ _
 | x::l=>by
  have ih:=iE c l;rw [d4];by_cases hx:(x==c)=true
  ·rw [if_pos hx];have e:x=c:=by simpa using hx
   cases h:d4 c l with
   | nil=>exact absurd h (cK c l)
   | cons a t =>
    rw [h] at ih;rw [cL,ih,e]; rfl
  ·rw [if_neg hx];cases h:d4 c l with
   | nil=>exact absurd h (cK c l)
   | cons a t =>
    rw [h] at ih;simp only;rw [a6y] at ih ⊢;rw [List.cons_append,ih]
theorem dP (c:UInt8) (s:List UInt8):a1u (c8 c s) [c]=s:=by
 cases s with
 | nil=>rfl
 | cons x l=>exact iE c (x::l)
theorem iF (c:UInt8) (ws:List (List UInt8)) (h:∀ w∈ws,c ∉ w) (h0:∀ w∈ws,w≠[]):c8 c (a1u ws [c])=ws:=by
 cases ws with
 | nil=>rfl
 | cons x r =>
  have E0:a1u (x::r) [c]≠[]:=by
   rw [a6y];intro e;exact h0 x (a0f ..) (List.append_eq_nil_iff.1 e).1
  rw [X6 E0,iD c _ (a3i _ _) h]
theorem E6 {s:List UInt8} (h:B7 s=true):a0i (t8 s)=s/\n9 (t8 s)=true:=by
 unfold B7 at h;unfold t8;cases e:a4j s with
 | ok v =>
  rw [e] at h;simp only [a0g,beq_iff_eq] at h;exact ⟨h.2,h.1⟩
 | range=>rw [e] at h; cases h
 | _=>rw [e] at h; cases h
theorem T9 {n:Int}:n9 n=true↔-2147483648<n/\n<2147483648:=by unfold n9; simp
theorem w7 {n:Int} (h:n9 n=true):B7 (a0i n)=true/\t8 (a0i n)=n:=by
 have h1:=T9.1 h;have h2:=Bb (n:=n) (by omega);unfold B7 t8;rw [h2];simp [h]
theorem aP (c:UInt8) (s:List UInt8):a2d (c::s) [c]=true:=by simp [a2d]
theorem L3 (c:UInt8) (s:List UInt8):a0o (c::s) [c]=s:=by unfold a0o; rw [aP,if_pos rfl]; rfl
theorem gv {c:UInt8} {s:List UInt8} (h:a2d s [c]=true):s=c::a0o s [c]:=by
 cases s with
 | nil=>simp [a2d] at h
 | cons x l =>
  have e:c=x:=by simpa [a2d] using h
  subst e;rw [L3]
theorem oQ {s:List UInt8} (h:unB s=true):J2 (unN s)=s:=by
 unfold unN;rw [h];unfold unB at h;rw [a0g] at h;obtain ⟨r,hr⟩:=Option.isSome_iff_exists.1 h.2;rw [hr];simp only [cond_true,Option.getD_some,J2];rw [zv _ _ hr];exact (gv h.1).symm
theorem cM (s:List UInt8):unB (J2 s)=true/\unN (J2 s)=s:=by
 have h:unB (J2 s)=true:=by
  unfold unB J2;rw [aP,L3,sR]; rfl
 refine ⟨h,?_⟩;unfold unN;rw [h];unfold J2;rw [L3,sR]; rfl
theorem rm (t:Ty):y9 t=a1u [a0i t.k,a0i t.p,a0i t.q,ab t.v,J2 t.s] [44]:=by
 simp [y9,a6y,a4w]
theorem rn (f:Fm):E9 f=a1u [a0i f.k,a0i f.w,a0i f.d,J2 f.s] [44]:=by
 simp [E9,a6y,a4w]
theorem Bc (x:In):dO x=a1u [a0i x.vn,J2 x.vs] [44]:=by
 simp [dO,a6y,a4w]
def F2 (b:UInt8):Prop:=b=45∨b=61∨(48<=b.toNat/\b.toNat<=57)∨(97<=b.toNat/\b.toNat<=102)
theorem w5 (n:Int):∀ b∈a0i n,F2 b:=λb hb=>by
 rcases xD n b hb with h | h
 ·exact .inl h
 ·exact .inr (.inr (.inl h))
theorem X8 (s:List UInt8):∀ b∈J2 s,F2 b:=λb hb=>by
 rcases a0k.1 hb with rfl | hb
 ·exact .inr (.inl rfl)
 ·rcases oM s b hb with h | h
  ·exact .inr (.inr (.inl h))
  ·exact .inr (.inr (.inr h))
theorem iG (v:Bool):∀ b∈ab v,F2 b:=λb hb=>by
 cases v<;>(rw [a0d.1 hb]; exact .inr (.inr (.inl (by decide))))
theorem V4 {b c:UInt8} (h:F2 b) (hc:c≠45/\c≠61/\¬ (48<=c.toNat/\c.toNat<=57)/\¬ (97<=c.toNat/\c.toNat<=102)):c≠b:=by
 rintro rfl;rcases h with h | h | h | h
 ·exact hc.1 h
 ·exact hc.2.1 h
 ·exact hc.2.2.1 h
 ·exact hc.2.2.2 h
theorem RH {s:List UInt8} (h:∀ b∈s,F2 b):(44:UInt8) ∉ s:=λhm=>V4 (h _ hm) (by decide) rfl
theorem Lp {s:List UInt8} (h:(c8 44 s).length=5):c8 44 s=[pC s 0,pC s 1,pC s 2,pC s 3,pC s 4]:=by
 unfold pC;rcases e:c8 44 s with _ | ⟨a,_ | ⟨b,_ | ⟨c,_ | ⟨d,_ | ⟨f,_ | ⟨g,l⟩⟩⟩⟩⟩⟩<;>rw [e] at h<;>simp at h ⊢
theorem Lq {s:List UInt8} (h:(c8 44 s).length=4):c8 44 s=[pC s 0,pC s 1,pC s 2,pC s 3]:=by
 unfold pC;rcases e:c8 44 s with _ | ⟨a,_ | ⟨b,_ | ⟨c,_ | ⟨d,_ | ⟨f,l⟩⟩⟩⟩⟩<;>rw [e] at h<;>simp at h ⊢
theorem Lr {s:List UInt8} (h:(c8 44 s).length=2):c8 44 s=[pC s 0,pC s 1]:=by
 unfold pC;rcases e:c8 44 s with _ | ⟨a,_ | ⟨b,_ | ⟨c,l⟩⟩⟩<;>rw [e] at h<;>simp at h ⊢
theorem Bd {p:List UInt8} (h:(p==[48]||p==[49])=true):ab (p==[49])=p:=by
 rw [a3w,beq_iff_eq,beq_iff_eq] at h;rcases h with rfl|rfl<;>rfl
theorem vp {s:List UInt8} (h:tyB s=true):y9 (tyV s)=s:=by
 unfold tyB at h;simp only [a0g,beq_iff_eq] at h;obtain ⟨⟨⟨⟨⟨h0,h1⟩,h2⟩,h3⟩,h4⟩,h5⟩:=h;rw [rm];unfold tyV;simp only;rw [(E6 h2).1,(E6 h3).1,(E6 h4).1,oQ h5,Bd (by simpa using h1),<- Lp h0,dP]
theorem DB {s:List UInt8} (h:fmB s=true):E9 (fmV s)=s:=by
 unfold fmB at h;simp only [a0g,beq_iff_eq] at h;obtain ⟨⟨⟨⟨h0,h2⟩,h3⟩,h4⟩,h5⟩:=h;rw [rn];unfold fmV;simp only;rw [(E6 h2).1,(E6 h3).1,(E6 h4).1,oQ h5,<- Lq h0,dP]
theorem sS {s:List UInt8} {ws:List (List UInt8)} (e:s=a1u ws [44]) (h:∀ w∈ws,∀ b∈w,F2 b) (h0:∀ w∈ws,w≠[]):c8 44 s=ws:=by
 rw [e];exact iF 44 ws (λw hw=>RH (h w hw)) h0
theorem Hx (v:Bool):ab v≠[]:=by cases v<;>simp [ab]
theorem vq (t:Ty):c8 44 (y9 t)=[a0i t.k,a0i t.p,a0i t.q,ab t.v,J2 t.s]:=by
 refine sS (rm t) (λw hw=>?_) (λw hw=>?_) <;>
  (simp only [a0k,a1a,or_false] at hw; rcases hw with rfl|rfl|rfl|rfl|rfl)
 ·exact w5 _
 ·exact w5 _
 ·exact w5 _
 ·exact iG _
 ·exact X8 _
 ·exact dM _
 ·exact dM _
 ·exact dM _
 ·exact Hx _
 ·exact a3i _ _
theorem vr (t:Fm):c8 44 (E9 t)=[a0i t.k,a0i t.w,a0i t.d,J2 t.s]:=by
 refine sS (rn t) (λw hw=>?_) (λw hw=>?_) <;>
  (simp only [a0k,a1a,or_false] at hw; rcases hw with rfl|rfl|rfl|rfl)
 ·exact w5 _
 ·exact w5 _
 ·exact w5 _
 ·exact X8 _
 ·exact dM _
 ·exact dM _
 ·exact dM _
 ·exact a3i _ _
theorem vt (x:In):c8 44 (dO x)=[a0i x.vn,J2 x.vs]:=by
 refine sS (Bc x) (λw hw=>?_) (λw hw=>?_) <;>
  (simp only [a0k,a1a,or_false] at hw; rcases hw with rfl|rfl)
 ·exact w5 _
 ·exact X8 _
 ·exact dM _
 ·exact a3i _ _
theorem kZ (v:Bool):(ab v==[48]||ab v==[49])=true/\(ab v==[49])=v:=by cases v<;>decide
theorem DC {t:Ty} (h1:n9 t.k=true) (h2:n9 t.p=true) (h3:n9 t.q=true):tyB (y9 t)=true/\tyV (y9 t)=t:=by
 have e:=vq t;have p0:pC (y9 t) 0=a0i t.k:=by unfold pC; rw [e]; rfl
 have p1:pC (y9 t) 1=a0i t.p:=by unfold pC; rw [e]; rfl
 have p2:pC (y9 t) 2=a0i t.q:=by unfold pC; rw [e]; rfl
 have p3:pC (y9 t) 3=ab t.v:=by unfold pC; rw [e]; rfl
 have p4:pC (y9 t) 4=J2 t.s:=by unfold pC; rw [e]; rfl
 unfold tyB tyV;rw [p0,p1,p2,p3,p4,(w7 h1).1,(w7 h2).1,(w7 h3).1,(w7 h1).2,(w7 h2).2,(w7 h3).2,(cM _).1,(cM _).2,(kZ t.v).1,(kZ t.v).2,e];exact ⟨rfl,rfl⟩
theorem DD {t:Fm} (h1:n9 t.k=true) (h2:n9 t.w=true) (h3:n9 t.d=true):fmB (E9 t)=true/\fmV (E9 t)=t:=by
 have e:=vr t;have p0:pC (E9 t) 0=a0i t.k:=by unfold pC; rw [e]; rfl
 have p1:pC (E9 t) 1=a0i t.w:=by unfold pC; rw [e]; rfl
 have p2:pC (E9 t) 2=a0i t.d:=by unfold pC; rw [e]; rfl
 have p4:pC (E9 t) 3=J2 t.s:=by unfold pC; rw [e]; rfl
 unfold fmB fmV;rw [p0,p1,p2,p4,(w7 h1).1,(w7 h2).1,(w7 h3).1,(w7 h1).2,(w7 h2).2,(w7 h3).2,(cM _).1,(cM _).2,e];exact ⟨rfl,rfl⟩
theorem zw (t:Ty):(59:UInt8) ∉ y9 t:=by
 have h:∀ {s:List UInt8},(∀ b∈s,F2 b)->(59:UInt8) ∉ s:=λh hm=>V4 (h _ hm) (by decide) rfl;unfold y9;simp only [a2s,not_or];exact ⟨⟨⟨⟨⟨⟨⟨⟨h (w5 _),by decide⟩,h (w5 _)⟩,by decide⟩,h (w5 _)⟩,by decide⟩,h (iG _)⟩,by decide⟩,h (X8 _)⟩
theorem zx (t:Fm):(59:UInt8) ∉ E9 t:=by
 have h:∀ {s:List UInt8},(∀ b∈s,F2 b)->(59:UInt8) ∉ s:=λh hm=>V4 (h _ hm) (by decide) rfl;unfold E9;simp only [a2s,not_or];exact ⟨⟨⟨⟨⟨⟨h (w5 _),by decide⟩,h (w5 _)⟩,by decide⟩,h (w5 _)⟩,by decide⟩,h (X8 _)⟩
theorem DE (t:Ty):y9 t≠[]:=by
 unfold y9;exact List.append_ne_nil_of_right_ne_nil _ (a3i _ _)
theorem DF (t:Fm):E9 t≠[]:=by
 unfold E9;exact List.append_ne_nil_of_right_ne_nil _ (a3i _ _)
theorem rp {α:Type} {B:List UInt8->Bool} {N:List UInt8->α} (tx:α->List UInt8) (hB:∀ p,B p=true->tx (N p)=p):∀ (ps:List (List UInt8)) (l r:List α),psG B N l ps=(r,true)->r.map tx=l.map tx++ps
 | [],l,r,h=>by
  simp only [psG,a1f,and_true] at h;rw [h,a1q]
 | p::ps,l,r,h=>by
  rw [psG] at h;split at h
  ·simp at h
  ·rename_i hn;have hb:B p=true:=by
    revert hn;cases B p<;>simp
   rw [rp tx hB ps _ r h,List.map_append,List.map_singleton,hB p hb,a1g];rfl
theorem rq {α:Type} {B:List UInt8->Bool} {N:List UInt8->α} (tx:α->List UInt8):∀ (m l:List α),(∀ a∈m,B (tx a)=true/\N (tx a)=a)->l.length+m.length<=16->psG B N l (m.map tx)=(l++m,true)
 | [],l,_,_=>by simp [psG]
 | a::m,l,h,hl=>by
  have ha:=h a (a0f ..);simp only [a0p] at hl;rw [a3h,psG,ha.1,ha.2,if_neg (by simp; omega),rq tx m (l++[a]) (λb hb=>h b (a0e _ hb)) (by simp; omega),a1g];rfl
theorem la (s:List UInt8) (c:UInt8):a6w (s++[c]) [c]=s/\a3k (s++[c]) [c]=true:=by
 have h:a3k (s++[c]) [c]=true:=by
  unfold a3k;rw [List.isSuffixOf_iff_suffix];exact List.suffix_append _ _
 refine ⟨?_,h⟩;unfold a6w;rw [h,if_pos rfl];simp
theorem DG {s:List UInt8} {c:UInt8} (h:a3k s [c]=true):s=a6w s [c]++[c]:=by
 have h2:=h;unfold a3k at h2;rw [List.isSuffixOf_iff_suffix] at h2;obtain ⟨t,rfl⟩:=h2;rw [(la t c).1]
end Go.Proofs
end
section
namespace Go.Proofs
open Go Go.SX Go.RowKit
theorem mU {n:Nat} (h:n<4611686018427387904):a0h.wrap ((n:Int)+1)=((n+1:Nat):Int):=by
 simp [a1s,a1t,a1p];omega
theorem Ls:a0z.wrap (Go.bits BinOp.and a0z 16 (a0z.wrap (-16))*285870213051353865) / 288230376151711744=15:=by decide +kernel
theorem RJ (w:World) (W1:w.cell? ⟨10,15,none⟩=some (.int .u8 4)):Calls a0a 332 #[.int .u64 16] w λe w'=>e=.returned (.int .i64 4)/\w'=w:=by
 go_enter Tryz.func332,Tryz.ntmps332
 go_wp2_with (simp only [Ls])
 go_ret
 exact ⟨rfl,rfl⟩
theorem Hy {w:World} (h:jy w):w.cell? ⟨10,15,none⟩=some (.int .u8 4):=by
 have h1:=World.var?_cell (P:=a0a) (show a0a.globalNamed "math/bits.deBruijn64tab" = some 10 by kernel_rfl) h.db 15;rw [h1]; rfl
def sTz:Con a0a:=R7 332 [j7] [.one (.int .u64 16)] (.v (.one (.int .i64 4))) (fun ρ w hp =>
 (RJ w (Hy (xB hp))).mono λe w' ⟨h1,h2⟩=>⟨h1,by rw [h2]; exact Chg.refl _ _⟩)
def aTz:Con a0a:=r6 Tryz.func325 true [⟨sTz,[0]⟩] [j7] kq kq
def RK:Con a0a:=r6 Tryz.func324 true [] [] kq kq
def THX:List (Ent a0a):=[RK.e,⟨aTz,[0]⟩]
def oR (y:SV):List SV:=List.replicate 64 (.int .u8 0)++[y]
def sT:List UInt8:=[48,49,50,51,52,53,54,55,56,57,97,98,99,100,101,102,103,104,105,106,107,108,109,110,111,112,113,114,115,116,117,118,119,120,121,122]
theorem DH:∀ i:Fin 16,sT.getD i.val 0=I7 i.val:=by decide +kernel
theorem DJ {v:Nat} (hv:v<16):sT.getD (v:Int).toNat 0=I7 v:=by rw [a1h]; exact DH ⟨v,hv⟩
theorem DK {g:Nat} {c:UInt8} {k:Nat} {e:TypeId} {l:List SV} (h:(e8 (d5 bsv 0 [c] (some ⟨g,64,none⟩) 1 5 1 false)).D k):(r9 g l e).D k:=by
 obtain ⟨a,h1,h2,_⟩:=h;cases h1;exact h2.symm
theorem Be {g:Nat} {c:UInt8} {w:World} (h:(r9 g (oR (.int .u8 (c.toNat:Int))) 297).φ w):(e8 (d5 bsv 0 [c] (some ⟨g,64,none⟩) 1 5 1 false)).φ w:=by
 have hg:w.heap[g]?=some (.cells ((oR (.int .u8 (c.toNat:Int))).map a3n).toArray 297 (0,0)):=h;refine ⟨λi hi=>⟨rfl,λx hx=>?_⟩,λ_=>⟨g,64,rfl,λi j x hi hx=>?_⟩,(λh=>by cases h),(λo h=>by cases h)⟩
 ·simp only [d5,bsv,a0d] at hx; subst hx; trivial
 ·have ao:i<1:=hi;have e0:i=0:=by omega
  subst e0;cases j with
  | zero =>
   simp only [d5,bsv,List.getElem?_cons_zero,a0l] at hx;subst hx;rw [a4i hg];rfl
  | succ j=>simp [d5,bsv] at hx
theorem DL (v:Nat) (hv:v<16):CallsK a0a 305 [.one (.val (.slice none 0 0)),.one (.int .u64 (v:Int)),.one (.int .i64 16),.one (.sb false),.one (.bool false)] H0 (λ_:Unit=>True) (λ_=>.tup [.one (.val (.slice none 0 0)),.one (.str [I7 v])]) (λ_=>noF):=by
 exact a0j true Tryz.func305 fun ρ w=>V.t THX [] trivial<|m0 28 false false rfl<|V.t THX [] trivial<|m0 30 false false rfl<|V.t THX [] trivial<|m0 34 true true rfl<|V.runT THX [([CV.one (SV.int .u64 16)]:List CV)=[CV.one (SV.int .u64 16)]] kq kq rfl<|a1l<|V.t THX [] trivial<|m0 46 (decide ((v:Int)>=16)) false (decide_eq_false (by omega))<|V.t THX [(0:Int)<=v/\(v:Int)<36,(0:Int)<=64/\(64:Int)<65] ⟨⟨by omega,by omega⟩,by show (_:Int)<=_/\(_:Int)<_; omega⟩<|j3 0 64 ⟨oR (.int .u8 ((sT.getD (v:Int).toNat 0).toNat:Int)),297,true⟩ (.int .u8 ((sT.getD (v:Int).toNat 0).toNat:Int)) (.int .u8 ((I7 v).toNat:Int)) kq rfl kq (λ_=>by rw [DJ hv])<|V.absB 0 ⟨oR (.int .u8 ((I7 v).toNat:Int)),297,true⟩ kq kq (λg=>kq) λg=>O3 [(0,true)] [r9 g (oR (.int .u8 ((I7 v).toNat:Int))) 297] (e8 (d5 bsv 0 [I7 v] (some ⟨g,64,none⟩) 1 5 1 false)) kq (λk hk=>⟨_,a0d.2 rfl,DK hk⟩) (λw hw=>Be (hw _ (a0d.2 rfl))) (l7 _)<|m0 89 false false rfl<|V.t THX [(0:Int)<=64/\(64:Int)<=65/\(65:Int)<=65] (by show (_:Int)<=_/\(_:Int)<=_/\(_:Int)<=_; omega)<|G4 100 0 (d5 bsv 0 [I7 v] (some ⟨g,64,none⟩) 1 5 1 false)<|fX [I7 v] 0 (some ⟨g,64,none⟩) 1 5 false kq kq<|V.t THX [] trivial<|V.z
theorem Hz (v:Nat) (hv:v<16):CallsK a0a 285 [.one (.int .i64 (v:Int)),.one (.int .i64 16)] H0 (λ_:Unit=>True) (λ_=>ov (.str [I7 v])) (λ_=>noF):=by
 exact a0j true Tryz.func285 fun ρ w=>V.t THX [] trivial<|m0 11 false false rfl<|V.q<|V.s 46 (.one (.int .u64 (a0z.wrap (v:Int)))) (.one (.int .u64 (v:Int))) (λ_=>by rw [show a0z.wrap (v:Int)=(v:Int) by simp [a1s,a1t,a1p]; omega])<|V.c [(0,false)] (DL v hv) λ_ _=>V.q<|V.z
theorem oS (v:Nat) (hv:v<16):CallsK a0a 257 [.one (.int .i64 (v:Int)),.one (.int .i64 16)] H0 (λ_:Unit=>True) (λ_=>ov (.str [I7 v])) (λ_=>noF):=by
 exact a0j true Tryz.func257 fun ρ w=>V.q<|V.c [(0,false)] (Hz v hv) λ_ _=>V.q<|V.z
theorem Lt (c:UInt8):a0h.wrap (a1x.wrap ((c.toNat:Int).tdiv 16))=((c.toNat / 16:Nat):Int):=by
 have h:=c.toNat_lt;have e:(c.toNat:Int).tdiv 16=((c.toNat / 16:Nat):Int):=rfl;rw [e];simp [a1s,a1t,a1p];omega
theorem Lu (c:UInt8):a0h.wrap ((c.toNat:Int).tmod 16)=((c.toNat % 16:Nat):Int):=by
 have h:=c.toNat_lt;have e:(c.toNat:Int).tmod 16=((c.toNat % 16:Nat):Int):=rfl;rw [e];simp [a1s,a1t,a1p];omega
theorem lb {s:List UInt8} {i:Nat} (h:i<s.length):gQ (s.take (i+1))=gQ (s.take i)++[I7 ((s.getD i 0).toNat / 16),I7 ((s.getD i 0).toNat % 16)]:=by
 rw [a2c,a0r,a0b h];unfold gQ;rw [a3y];rfl
structure HXI where
 l:List UInt8
 q:Option Addr
 c:Nat
 i:Nat
def RL (s:List UInt8) (g cap:Nat) (j:HXI):St :=
 { n:=26,slots:=[(3,ov (.ptr 0 0)),(8,ov (.row 1 (some ⟨g,0,none⟩) s.length cap)),(9,ov (.int .i64 s.length)),(10,ov (.int .i64 j.i))],gs:=[],
    heap:=[(0,⟨[.ptr 0 0,.row 0 j.q j.l.length j.c],137,true⟩)],next:=1,rows:=[(0,d5 bsv 0 j.l j.q j.c 5 1 true),(1,d5 bsv 0 s (some ⟨g,0,none⟩) cap 5 1 false)],nr:=2,pers:=[j7],wr:=true,fx:=0 }
theorem RM (s:List UInt8) (hs:s.length<=1000000000):CallsK a0a 184 [.one (.str s)] H0 (λ_:Unit=>True) (λ_=>ov (.str (J2 s))) (λ_=>noF):=by
 refine a0j true Tryz.func184 fun ρ w=>V.q<|V.c [] (ra 61) λx _=>V.q<|qP 5 s kq (λq cap=>kq) λg cap=>V.q<|j6 [3,8,9,10] [true] (λj:HXI=>s.length - j.i) (RL s g cap) (λj=>j.i<=s.length/\j.l=61::gQ (s.take j.i)) ⟨[61],x.1,x.2,0⟩ kq ⟨a0s _,rfl⟩ (λj hj ih=>?_);obtain ⟨l,q,c,i⟩:=j;obtain ⟨hi,hl⟩:=hj;simp only at hi hl;have n8:l.length=2*i+1:=by rw [hl,a0p,fv,a2b,Nat.min_eq_left hi]
 refine a1l<|V.q<|f9 11 (decide ((i:Int)<s.length)) (λhb=>?_) (λhb=>?_)
 ·have e9:i<s.length:=by simpa using hb
  obtain ⟨b,Xu⟩:∃ b,s.getD i 0=b:=⟨_,rfl⟩;refine V.t [] [(0:Int)<=i/\(i:Int)<s.length,(16:Int)≠0] ⟨⟨by omega,by omega⟩,by show (16:Int)≠0; omega⟩<|V.s 16 (.one (.int .i64 (a0h.wrap (a1x.wrap (((s.getD i 0).toNat:Int).tdiv 16))))) (.one (.int .i64 (((s.getD i 0).toNat / 16:Nat):Int))) (λ_=>by rw [Lt])<|V.c [(0,false)] (oS ((s.getD i 0).toNat / 16) (by have:=(s.getD i 0).toNat_lt; omega)) λ_ _=>V.t [] [(16:Int)≠0] (by show (16:Int)≠0; omega)<|V.s 20 (.one (.int .i64 (a0h.wrap (((s.getD i 0).toNat:Int).tmod 16)))) (.one (.int .i64 (((s.getD i 0).toNat % 16:Nat):Int))) (λ_=>by rw [Lu])<|V.c [(0,false)] (oS ((s.getD i 0).toNat % 16) (by omega)) λ_ _=>V.t [] [(1+1:Nat)<=9223372036854775807] (by show (1+1:Nat)<=9223372036854775807; omega)<|V.c [] (kT l q c [I7 ((s.getD i 0).toNat / 16),I7 ((s.getD i 0).toNat % 16)] (by rw [n8]; simp; omega)) λy _=>V.q<|V.s 10 (.one (.int .i64 (a0h.wrap ((i:Int)+1)))) (.one (.int .i64 ((i+1:Nat):Int))) (λ_=>by rw [mU (by omega)])<|d9 [3,8,9,10] [true] (ih ⟨l++[I7 ((s.getD i 0).toNat / 16),I7 ((s.getD i 0).toNat % 16)],y.1,y.2,i+1⟩ ⟨e9,?_⟩ (by simp only; omega)) kq kq;simp only;rw [hl,lb e9];rfl
 ·have B0:i=s.length:=by
   have:¬ i<s.length:=by simpa using hb
   omega
  rw [B0,a1o] at hl;refine V.q<|V.c [] (gj l q c (by rw [n8]; omega)) λ_ _=>V.q ?_;subst hl;exact V.z
end Go.Proofs
end
section
namespace Go.Proofs
open Go Go.SX Go.RowKit
def RN:Con a0a:=r6 Tryz.func314 true [] [] kq kq
def loE (n:Int):Int:=a1x.wrap ((BitVec.ofInt 8 n ||| BitVec.ofInt 8 32).toNat:Int)
def Om:Con a0a:=RN.as (λxs=>match xs with
  | [.one (.int .u8 n)]=>some (.v (.one (.int .u8 (loE n))),[])
  | _=>none) (by
 intro xs v ob h q8;split at h
 ·rename_i n;simp only [a0l,a1f] at h;obtain ⟨rfl,rfl⟩:=h;exact ⟨.v (.one (.int .u8 (loE n))),[],kq,(λp hp=>by cases hp),λ_=>rfl⟩
 ·cases h)
def isD (c:UInt8):Bool:=decide (48<=(c.toNat:Int))&&decide ((c.toNat:Int)<=57)
def isA (c:UInt8):Bool:=decide (97<=loE c.toNat)&&decide (loE c.toNat<=122)
def duV (c:UInt8):Int:=bif isD c then a1x.wrap ((c.toNat:Int) - 48) else a1x.wrap (a1x.wrap (loE c.toNat - 97)+10)
def duB (c:UInt8):Bool:=(isD c||isA c)&&!decide (duV c>=16)
def puB (a b:UInt8):Bool:=duB a&&duB b
def puV (a b:UInt8):RV:=.tup [.one (.int .u64 (bif puB a b then duV a*16+duV b else 0)),.one (.val (bif puB a b then .nilIface else .iface 284 (.int .i64 2)))]
structure PUI where
 i:Nat
 n:Int
def RO (a b:UInt8) (g cap:Nat) (j:PUI):St :=
 { n:=172,slots:=[(1,ov (.int .i64 16)),(8,ov (.sb false)),(9,ov (.str [a,b])),(10,ov (.int .u64 1152921504606846976)),(11,ov (.int .u64 255)),(12,ov (.bool false)),(13,ov (.int .u64 j.n)),
      (99,.v (.one (.row 0 (some ⟨g,0,none⟩) 2 cap))),(100,.v (.one (.int .i64 2))),(101,.v (.one (.int .i64 j.i)))],gs:=[],heap:=[],next:=0,rows:=[(0,d5 bsv 0 [a,b] (some ⟨g,0,none⟩) cap 5 1 false)],nr:=1,pers:=[],wr:=true,fx:=0 }
def puI (a b:UInt8) (j:PUI):Prop:=(j.i=0/\j.n=0)∨(j.i=1/\j.n=duV a/\duB a=true)∨(j.i=2/\j.n=duV a*16+duV b/\duB a=true/\duB b=true)
theorem oT {c:UInt8} (h:duB c=true):0<=duV c/\duV c<16:=by
 unfold duB at h;rw [a0g] at h;have h2:¬ duV c>=16:=by simpa using h.2
 refine ⟨?_,by omega⟩;unfold duV;cases isD c<;>simp [a1s,a1t,a1p]<;>omega
theorem On {a b:UInt8} {j:PUI} (h:puI a b j) (hl:j.i<2):0<=j.n/\j.n<16:=by
 rcases h with h | h | h
 ·omega
 ·have:=oT h.2.2; omega
 ·omega
theorem DM {a b:UInt8} {j:PUI} (h:puI a b j) (hl:j.i<2) (hB:duB ([a,b].getD j.i 0)=false):puB a b=false:=by
 unfold puB;rcases h with h | h | h
 ·rw [h.1] at hB;rw [show duB a=false from hB]; rfl
 ·rw [h.1] at hB;rw [show duB b=false from hB,a6k]
 ·omega
theorem zy {a b:UInt8} {j:PUI} (h:puI a b j) (hl:j.i<2) (hB:duB ([a,b].getD j.i 0)=true):puI a b ⟨j.i+1,j.n*16+duV ([a,b].getD j.i 0)⟩:=by
 rcases h with h | h | h
 ·rw [h.1] at hB ⊢;rw [h.2];exact .inr (.inl ⟨rfl,by show 0*16+duV a=duV a; omega,hB⟩)
 ·rw [h.1] at hB ⊢;rw [h.2.1];exact .inr (.inr ⟨rfl,rfl,h.2.2,hB⟩)
 ·omega
theorem jA {n d:Int} (h0:0<=n) (h1:n<16) (h2:0<=d) (h3:d<16):(decide (a0z.wrap (a0z.wrap (n*16)+a0z.wrap d)<a0z.wrap (n*16))||decide (a0z.wrap (a0z.wrap (n*16)+a0z.wrap d)>255))=false /\
  a0z.wrap (a0z.wrap (n*16)+a0z.wrap d)=n*16+d:=by
 have e1:a0z.wrap (n*16)=n*16:=by simp [a1s,a1t,a1p]; omega
 have e2:a0z.wrap d=d:=by simp [a1s,a1t,a1p]; omega
 have e3:a0z.wrap (n*16+d)=n*16+d:=by simp [a1s,a1t,a1p]; omega
 rw [e1,e2,e3];refine ⟨?_,rfl⟩;rw [a2r];exact ⟨decide_eq_false (by omega),decide_eq_false (by omega)⟩
theorem JT (a b:UInt8):CallsK a0a 295 [.one (.str [a,b]),.one (.int .i64 16),.one (.int .i64 8)] noF (λ_:Unit=>True) (λ_=>puV a b) (λ_=>noF):=by
 refine a0j true Tryz.func295 fun ρ w=>l6 [] 40 [(0:Int)<=8] (by show (0:Int)<=8; omega)<|qP 5 [a,b] kq (λq cap=>kq) λg cap=>V.q<|j6 [1,8,9,10,11,12,13,99,100,101] [] (λj:PUI=>2 - j.i) (RO a b g cap) (puI a b) ⟨0,0⟩ kq (.inl ⟨rfl,rfl⟩) (λj hj ih=>?_);obtain ⟨i,n⟩:=j;refine a1l<|V.q<|f9 102 (decide ((i:Int)<2)) (λhb=>?_) (λhb=>?_)
 ·have e9:i<2:=by
   have:(i:Int)<2:=by simpa using hb
   omega
  refine V.t [] [(0:Int)<=i/\(i:Int)<(2:Nat)] ⟨by omega,by omega⟩<|m0 106 ((([a,b].getD i 0).toNat:Int)==95&&false) false (a6k _)<|V.q<|f9 112 (isD ([a,b].getD i 0)) (λhD=>?_) (λhD=>?_)
  ·refine V.q ?_;have Gx:duV ([a,b].getD i 0)=a1x.wrap ((([a,b].getD i 0).toNat:Int) - 48):=by unfold duV; rw [hD]; rfl
   refine f9 137 (decide (a1x.wrap ((([a,b].getD i 0).toNat:Int) - 48)>=16)) (λhG=>?_) (λhG=>?_)
   ·refine V.q ?_;have J8:=DM hj e9 (by unfold duB; rw [Gx,hG,Bool.not_true,a6k]);rw [show puV a b=.tup [.one (.int .u64 0),.one (.val (.iface 284 (.int .i64 2)))] by unfold puV; rw [J8]; rfl];exact V.z
   ·have hB:duB ([a,b].getD i 0)=true:=by unfold duB; rw [Gx,hG,hD]; rfl
    obtain ⟨pZ,iS⟩:=oT hB;rw [Gx] at pZ iS;obtain ⟨ib,Gs⟩:=On hj e9;simp only at ib Gs;exact V.q<|m0 141 (decide (n>=1152921504606846976)) false (decide_eq_false (by omega))<|V.q<|m0 159 (decide (a0z.wrap (a0z.wrap (n*16)+a0z.wrap (a1x.wrap ((([a,b].getD i 0).toNat:Int) - 48)))<a0z.wrap (n*16))||decide (a0z.wrap (a0z.wrap (n*16)+a0z.wrap (a1x.wrap ((([a,b].getD i 0).toNat:Int) - 48)))>255)) false (jA ib Gs pZ iS).1<|V.q<|V.s 13 (.one (.int .u64 (a0z.wrap (a0z.wrap (n*16)+a0z.wrap (a1x.wrap ((([a,b].getD i 0).toNat:Int) - 48)))))) (.one (.int .u64 (n*16+duV ([a,b].getD i 0)))) (λ_=>by rw [(jA ib Gs pZ iS).2,Gx])<|V.s 101 (.one (.int .i64 (a0h.wrap ((i:Int)+1)))) (.one (.int .i64 ((i+1:Nat):Int))) (λ_=>by rw [mU (by omega)])<|d9 [1,8,9,10,11,12,13,99,100,101] [] (ih ⟨i+1,n*16+duV ([a,b].getD i 0)⟩ (zy hj e9 hB) (by simp only; omega)) kq kq
  ·refine V.t [Om.e] [] trivial<|f9 121 (isA ([a,b].getD i 0)) (λhA=>?_) (λhA=>?_)
   ·refine V.t [Om.e] [] trivial ?_;have Gx:duV ([a,b].getD i 0)=a1x.wrap (a1x.wrap (loE (([a,b].getD i 0).toNat:Int) - 97)+10):=by unfold duV; rw [hD]; rfl
    refine f9 137 (decide (a1x.wrap (a1x.wrap (loE (([a,b].getD i 0).toNat:Int) - 97)+10)>=16)) (λhG=>?_) (λhG=>?_)
    ·refine V.q ?_;have J8:=DM hj e9 (by unfold duB; rw [Gx,hG,Bool.not_true,a6k]);rw [show puV a b=.tup [.one (.int .u64 0),.one (.val (.iface 284 (.int .i64 2)))] by unfold puV; rw [J8]; rfl];exact V.z
    ·have hB:duB ([a,b].getD i 0)=true:=by unfold duB; rw [Gx,hG,hD,hA]; rfl
     obtain ⟨pZ,iS⟩:=oT hB;rw [Gx] at pZ iS;obtain ⟨ib,Gs⟩:=On hj e9;simp only at ib Gs;exact V.q<|m0 141 (decide (n>=1152921504606846976)) false (decide_eq_false (by omega))<|V.q<|m0 159 (decide (a0z.wrap (a0z.wrap (n*16)+a0z.wrap (a1x.wrap (a1x.wrap (loE (([a,b].getD i 0).toNat:Int) - 97)+10)))<a0z.wrap (n*16))||decide (a0z.wrap (a0z.wrap (n*16)+a0z.wrap (a1x.wrap (a1x.wrap (loE (([a,b].getD i 0).toNat:Int) - 97)+10)))>255)) false (jA ib Gs pZ iS).1<|V.q<|V.s 13 (.one (.int .u64 (a0z.wrap (a0z.wrap (n*16)+a0z.wrap (a1x.wrap (a1x.wrap (loE (([a,b].getD i 0).toNat:Int) - 97)+10)))))) (.one (.int .u64 (n*16+duV ([a,b].getD i 0)))) (λ_=>by rw [(jA ib Gs pZ iS).2,Gx])<|V.s 101 (.one (.int .i64 (a0h.wrap ((i:Int)+1)))) (.one (.int .i64 ((i+1:Nat):Int))) (λ_=>by rw [mU (by omega)])<|d9 [1,8,9,10,11,12,13,99,100,101] [] (ih ⟨i+1,n*16+duV ([a,b].getD i 0)⟩ (zy hj e9 hB) (by simp only; omega)) kq kq
   ·refine V.q ?_;have J8:=DM hj e9 (by unfold duB; rw [hD,hA]; rfl);rw [show puV a b=.tup [.one (.int .u64 0),.one (.val (.iface 284 (.int .i64 2)))] by unfold puV; rw [J8]; rfl];exact V.z
 ·have bA:2<=i:=by
   have:¬ (i:Int)<2:=by simpa using hb
   omega
  rcases hj with hj | hj | hj
  ·have:=hj.1; simp only at this; omega
  ·have:=hj.1; simp only at this; omega
  obtain ⟨e1,e2,h1,h2⟩:=hj;simp only at e1 e2;subst e1 e2;rw [show puV a b=.tup [.one (.int .u64 (duV a*16+duV b)),.one (.val .nilIface)] by unfold puV puB; rw [h1,h2]; rfl];exact l6 [] 40 [] trivial<|V.z
end Go.Proofs
end
section
namespace Go.Proofs
open Go.Shelf
def Tryz.lays159_ren : Go.Shelf.Ren:=⟨λ| 159=>260 | 165=>237 | 166=>75 | 167=>256 | 169=>76 | 230=>296 | 204=>297 | 240=>146 | 241=>284 | 197=>307 | 118=>316 | 168=>317 | 270=>318 | 262=>319 | 276=>249 | 277=>301 | 260=>326 | 242=>329 | 313=>330 | 278=>333 | 274=>334 | 275=>335 | n=>n,λ| 9=>9 | 4=>4 | 3=>3 | 5=>5 | 72=>137 | 0=>0 | 76=>140 | 75=>139 | 107=>265 | 70=>135 | 20=>20 | 37=>97 | 127=>199 | 21=>21 | 105=>282 | 164=>239 | 162=>305 | 203=>303 | 119=>229 | 46=>236 | 139=>309 | 138=>308 | 51=>256 | 160=>313 | 208=>321 | 206=>319 | 80=>142 | n=>n,λ| 13=>6 | 3=>7 | 4=>8 | n=>n⟩
theorem Tryz.lays159 : Go.Proofs.Lays.n159 a0a Tryz.lays159_ren:={
  mixed:=kq
  f118:=Tryz.func316.trans (congrArg some kq)
  f159:=Tryz.func260.trans (congrArg some kq)
  f165:=Tryz.func237.trans (congrArg some kq)
  f166:=Tryz.func75.trans (congrArg some kq)
  f167:=Tryz.func256.trans (congrArg some kq)
  f168:=Tryz.func317.trans (congrArg some kq)
  f169:=Tryz.func76.trans (congrArg some kq)
  f197:=Tryz.func307.trans (congrArg some kq)
  f204:=Tryz.func297.trans (congrArg some kq)
  f230:=Tryz.func296.trans (congrArg some kq)
  f240:=Tryz.func146.trans (congrArg some kq)
  f241:=Tryz.func284.trans (congrArg some kq)
  f242:=Tryz.func329.trans (congrArg some kq)
  f260:=Tryz.func326.trans (congrArg some kq)
  f262:=Tryz.func319.trans (congrArg some kq)
  f270:=Tryz.func318.trans (congrArg some kq)
  f274:=Tryz.func334.trans (congrArg some kq)
  f275:=Tryz.func335.trans (congrArg some kq)
  f276:=Tryz.func249.trans (congrArg some kq)
  f277:=Tryz.func301.trans (congrArg some kq)
  f278:=Tryz.func333.trans (congrArg some kq)
  f313:=Tryz.func330.trans (congrArg some kq)
  t0:=a5n
  a0:=Tryz.isAgg0
  z0:=Tryz.sizeOf0
  v0:=a6b
  t3:=a3g
  a3:=a5o
  z3:=a5c
  v3:=a4c
  t4:=a3r
  a4:=a5p
  z4:=a5d
  v4:=a4d
  t5:=a4v
  a5:=Tryz.isAgg5
  z5:=a6v
  v5:=a5h
  t9:=a4f
  a9:=a6h
  z9:=a5s
  v9:=a4k
  t20:=Tryz.underlying20
  a20:=Tryz.isAgg20
  z20:=Tryz.sizeOf20
  v20:=Tryz.zeroValue20
  t21:=Tryz.underlying21
  a21:=Tryz.isAgg21
  z21:=Tryz.sizeOf21
  v21:=Tryz.zeroValue21
  t37:=Tryz.underlying97
  a37:=Tryz.isAgg97
  z37:=Tryz.sizeOf97
  v37:=Tryz.zeroValue97
  t46:=a4z
  a46:=Tryz.isAgg236
  z46:=a6p
  v46:=a5j
  t51:=a5v
  a51:=Tryz.isAgg256
  z51:=Tryz.sizeOf256
  v51:=a6i
  t70:=Tryz.underlying135
  a70:=Tryz.isAgg135
  z70:=Tryz.sizeOf135
  v70:=Tryz.zeroValue135
  t72:=Tryz.underlying137
  a72:=Tryz.isAgg137
  z72:=Tryz.sizeOf137
  v72:=Tryz.zeroValue137
  t75:=Tryz.underlying139
  a75:=Tryz.isAgg139
  z75:=Tryz.sizeOf139
  v75:=Tryz.zeroValue139
  t76:=Tryz.underlying140
  a76:=Tryz.isAgg140
  z76:=Tryz.sizeOf140
  v76:=Tryz.zeroValue140
  t105:=Tryz.underlying282
  a105:=Tryz.isAgg282
  z105:=Tryz.sizeOf282
  v105:=Tryz.zeroValue282
  t107:=Tryz.underlying265
  a107:=Tryz.isAgg265
  z107:=Tryz.sizeOf265
  v107:=Tryz.zeroValue265
  t119:=Tryz.underlying229
  a119:=Tryz.isAgg229
  z119:=Tryz.sizeOf229
  t127:=Tryz.underlying199
  a127:=Tryz.isAgg199
  z127:=Tryz.sizeOf199
  v127:=Tryz.zeroValue199
  t138:=Tryz.underlying308
  a138:=Tryz.isAgg308
  z138:=Tryz.sizeOf308
  v138:=Tryz.zeroValue308
  t139:=Tryz.underlying309
  a139:=Tryz.isAgg309
  z139:=Tryz.sizeOf309
  v139:=Tryz.zeroValue309
  t160:=Tryz.underlying313
  a160:=Tryz.isAgg313
  z160:=Tryz.sizeOf313
  v160:=Tryz.zeroValue313
  t162:=Tryz.underlying305
  a162:=Tryz.isAgg305
  z162:=Tryz.sizeOf305
  v162:=Tryz.zeroValue305
  t164:=Tryz.underlying239
  a164:=Tryz.isAgg239
  z164:=Tryz.sizeOf239
  v164:=Tryz.zeroValue239
  t203:=Tryz.underlying303
  a203:=Tryz.isAgg303
  z203:=Tryz.sizeOf303
  v203:=Tryz.zeroValue303
  t206:=Tryz.underlying319
  a206:=Tryz.isAgg319
  z206:=Tryz.sizeOf319
  v206:=Tryz.zeroValue319
  t208:=Tryz.underlying321
  a208:=Tryz.isAgg321
  z208:=Tryz.sizeOf321
  v208:=Tryz.zeroValue321
  g3:=kq
  g4:=kq
  g13:=kq }
theorem Tryz.Builder_Extra_159 : Builder.Extra a0a Tryz.lays159_ren:={
  sizeBuilder:=kq
  liesBuilder:=kq
  t5:=a4v
  a5:=Tryz.isAgg5
  z5:=a6v
  v5:=a5h
  infoByte:=kq
  cellsByte:=kq
  sizeByte:=kq
  neB5:=by decide }
def Tryz.laysC245_ren : Go.Shelf.Ren:=⟨λ| 245=>293 | 279=>310 | 280=>311 | 281=>312 | 282=>313 | 316=>327 | 171=>123 | 205=>328 | 243=>238 | 246=>285 | 283=>302 | 284=>303 | 285=>304 | 286=>305 | 129=>322 | 317=>321 | 318=>323 | 319=>324 | 320=>325 | 337=>331 | 338=>332 | n=>n,λ| 9=>9 | 3=>3 | 75=>139 | 167=>284 | 4=>4 | 168=>287 | 210=>300 | 37=>97 | 0=>0 | 127=>199 | 145=>312 | 143=>310 | 2=>2 | 171=>278 | 53=>106 | 5=>5 | 173=>280 | 212=>296 | 51=>256 | 20=>20 | 213=>297 | 46=>236 | 232=>316 | 233=>317 | 80=>142 | n=>n,λ| 15=>4 | 16=>5 | 17=>3 | 18=>9 | 19=>10 | n=>n⟩
theorem Tryz.laysC245 : Go.Proofs.LaysC.n245 a0a Tryz.laysC245_ren:={
  mixed:=kq
  f129:=Tryz.func322.trans (congrArg some kq)
  f171:=Tryz.func123.trans (congrArg some kq)
  f205:=Tryz.func328.trans (congrArg some kq)
  f243:=Tryz.func238.trans (congrArg some kq)
  f245:=Tryz.func293.trans (congrArg some kq)
  f246:=Tryz.func285.trans (congrArg some kq)
  f279:=Tryz.func310.trans (congrArg some kq)
  f280:=Tryz.func311.trans (congrArg some kq)
  f281:=Tryz.func312.trans (congrArg some kq)
  f282:=Tryz.func313.trans (congrArg some kq)
  f283:=Tryz.func302.trans (congrArg some kq)
  f284:=Tryz.func303.trans (congrArg some kq)
  f285:=Tryz.func304.trans (congrArg some kq)
  f286:=Tryz.func305.trans (congrArg some kq)
  f316:=Tryz.func327.trans (congrArg some kq)
  f317:=Tryz.func321.trans (congrArg some kq)
  f318:=Tryz.func323.trans (congrArg some kq)
  f319:=Tryz.func324.trans (congrArg some kq)
  f320:=Tryz.func325.trans (congrArg some kq)
  f337:=Tryz.func331.trans (congrArg some kq)
  f338:=Tryz.func332.trans (congrArg some kq)
  t0:=a5n
  a0:=Tryz.isAgg0
  z0:=Tryz.sizeOf0
  v0:=a6b
  t2:=Tryz.underlying2
  a2:=Tryz.isAgg2
  z2:=Tryz.sizeOf2
  v2:=Tryz.zeroValue2
  t3:=a3g
  a3:=a5o
  z3:=a5c
  v3:=a4c
  t4:=a3r
  a4:=a5p
  z4:=a5d
  v4:=a4d
  t5:=a4v
  a5:=Tryz.isAgg5
  z5:=a6v
  v5:=a5h
  t9:=a4f
  a9:=a6h
  z9:=a5s
  v9:=a4k
  t20:=Tryz.underlying20
  a20:=Tryz.isAgg20
  z20:=Tryz.sizeOf20
  v20:=Tryz.zeroValue20
  t37:=Tryz.underlying97
  a37:=Tryz.isAgg97
  z37:=Tryz.sizeOf97
  v37:=Tryz.zeroValue97
  t46:=a4z
  a46:=Tryz.isAgg236
  z46:=a6p
  v46:=a5j
  t51:=a5v
  a51:=Tryz.isAgg256
  z51:=Tryz.sizeOf256
  v51:=a6i
  t53:=Tryz.underlying106
  a53:=Tryz.isAgg106
  z53:=Tryz.sizeOf106
  v53:=Tryz.zeroValue106
  t75:=Tryz.underlying139
  a75:=Tryz.isAgg139
  z75:=Tryz.sizeOf139
  v75:=Tryz.zeroValue139
  t127:=Tryz.underlying199
  a127:=Tryz.isAgg199
  z127:=Tryz.sizeOf199
  v127:=Tryz.zeroValue199
  t143:=Tryz.underlying310
  a143:=Tryz.isAgg310
  z143:=Tryz.sizeOf310
  v143:=Tryz.zeroValue310
  t145:=Tryz.underlying312
  a145:=Tryz.isAgg312
  z145:=Tryz.sizeOf312
  v145:=Tryz.zeroValue312
  t167:=Tryz.underlying284
  a167:=Tryz.isAgg284
  z167:=Tryz.sizeOf284
  v167:=Tryz.zeroValue284
  t168:=Tryz.underlying287
  a168:=Tryz.isAgg287
  z168:=Tryz.sizeOf287
  v168:=Tryz.zeroValue287
  t171:=Tryz.underlying278
  a171:=Tryz.isAgg278
  z171:=Tryz.sizeOf278
  v171:=Tryz.zeroValue278
  t173:=Tryz.underlying280
  a173:=Tryz.isAgg280
  z173:=Tryz.sizeOf280
  v173:=Tryz.zeroValue280
  t210:=Tryz.underlying300
  a210:=Tryz.isAgg300
  z210:=Tryz.sizeOf300
  v210:=Tryz.zeroValue300
  t212:=Tryz.underlying296
  a212:=Tryz.isAgg296
  z212:=Tryz.sizeOf296
  v212:=Tryz.zeroValue296
  t213:=Tryz.underlying297
  a213:=Tryz.isAgg297
  z213:=Tryz.sizeOf297
  t232:=Tryz.underlying316
  a232:=Tryz.isAgg316
  z232:=Tryz.sizeOf316
  v232:=Tryz.zeroValue316
  t233:=Tryz.underlying317
  a233:=Tryz.isAgg317
  z233:=Tryz.sizeOf317
  v233:=Tryz.zeroValue317
  g15:=kq
  g16:=kq
  g17:=kq
  g18:=kq
  g19:=kq
  t80:=Tryz.underlying142
  a80:=Tryz.isAgg142
  z80:=Tryz.sizeOf142
  v80:=Tryz.zeroValue142
  i0:=kq
  i2:=kq
  i3:=kq
  i4:=kq
  i5:=kq
  i9:=kq
  i20:=kq
  i37:=kq
  i46:=kq
  i51:=kq
  i53:=kq
  i75:=kq
  i80:=kq
  i127:=kq
  i143:=kq
  i145:=kq
  i167:=kq
  i168:=kq
  i171:=kq
  i173:=kq
  i210:=kq
  i212:=kq
  i232:=kq
  i233:=kq
  m15:=kq
  m16:=kq
  m17:=kq
  m18:=kq
  m19:=kq
  c0:=kq
  c2:=kq
  c3:=kq
  c4:=kq
  c5:=kq
  c9:=kq
  c20:=kq
  c37:=kq
  c46:=kq
  c51:=kq
  c53:=kq
  c75:=kq
  c80:=kq
  c127:=kq
  c143:=kq
  c145:=kq
  c167:=kq
  c168:=kq
  c171:=kq
  c173:=kq
  c210:=kq
  c212:=kq
  c213:=kq
  c232:=kq
  c233:=kq }
open Go.RowKit in
theorem Tryz.strings_ToLower_ascii (s : ByteArray) (w : World) (hs : s.size <= 140737488355328) (hascii : ∀ (j : Nat) (b : UInt8),s.data.toList[j]? = some b -> b.toNat < 128) :
    Calls a0a 260 #[.string s] w λe w'=>e = .returned (.string ⟨(a4p s.data.toList).toArray⟩) /\ Below w.heap.size w w':=Any.strings_ToLower_ascii Tryz.lays159 Tryz.Builder_Extra_159 s w hs hascii
open Go.RowKit in
theorem Tryz.strconv_toError_syntax (fn s : ByteArray) (base bits : Int) (ev : Value) (w : World) (hlim : s.size <= 281474976710656) (hv : w.cell? ⟨4,0,none⟩ = some ev) (uo : ev = .nilIface ∨ ∃ te pe,ev = .iface te pe) :
    Calls a0a 293 #[.string fn,.string s,.int .i64 base,.int .i64 bits,.iface 284 (.int .i64 2)] w λe w'=>∃ N,e = .returned (.iface 287 (.pointer (some ⟨N,0,none⟩))) /\ w.heap.size <= N /\ w'.heap[N]? = some (.cells #[.string fn,.string s,ev] 300 (0,0)) /\ Below w.heap.size w w':=Any.strconv_toError_syntax Tryz.laysC245 fn s base bits ev w hlim hv uo
end Go.Proofs
end
section
namespace Go.Proofs
open Go Go.SX Go.RowKit
theorem zA {ρ:Nat->Nat} {ps:List m6} {w w':World} (v:Nat->RV) (N:Nat) (hb:Below w.heap.size w w') (hv:(v N).wf noF.W):N9 ρ ({ noF with pers:=ps }) (λ_:Nat=>True) v (λ_=>noF) w (.returned ((v N).den ρ)) w' :=
 ⟨N,ρ,trivial,rfl,λ_ _=>rfl,a0q _,λb _ h2=>absurd h2 (a0x b),⟨λb blk hb=>(by cases hb),λb c hb=>absurd hb (a0x b),λb hb=>absurd hb (a0x b),λr R hR=>(by cases hR),λr r' R R' hR=>(by cases hR),λp hp=>(by cases hp)⟩,
    λb hb=>absurd hb (a0x b),hv,⟨hb.os,hb.tape,hb.output,hb.size,λk hk _=>hb.block k hk⟩,λb blk hb=>absurd hb (a0x b),λr R hR=>(by cases hR),λp hp=>(by cases hp)⟩
theorem Lv (s:List UInt8) (hl:s.length<=281474976710656):CallsK a0a 293 [.one (.str [80,97,114,115,101,85,105,110,116]),.one (.str s),.one (.int .i64 16),.one (.int .i64 8),.one (.val (.iface 284 (.int .i64 2)))] H0 (λ_:Nat=>True)
  (λN=>ov (.val (.iface 287 (.pointer (some ⟨N,0,none⟩))))) (λ_=>noF):=by
 intro ρ w hF;have hg:jy w:=(hF.pers j7 (a0d.2 rfl)).1;obtain ⟨tp,p,hv⟩:=hg.syn;have hc:=World.var?_cell (P:=a0a) (show a0a.globalNamed "strconv.ErrSyntax" = some 4 by kernel_rfl) hv 0;refine (Tryz.strconv_toError_syntax ⟨[80,97,114,115,101,85,105,110,116].toArray⟩ ⟨s.toArray⟩ 16 8 (.iface tp p) w (by rw [Y7]; exact hl) hc (.inr ⟨tp,p,rfl⟩)).mono ?_;rintro e w' ⟨N,rfl,_,_,hb⟩;exact zA (ps:=[j7]) (λN=>ov (.val (.iface 287 (.pointer (some ⟨N,0,none⟩))))) N hb trivial
theorem vu (s:List UInt8) (hl:s.length<=140737488355328) (ha:s.all (λb=>decide (b.toNat<128))=true):CallsK a0a 260 [.one (.str s)] noF (λ_:Nat=>True) (λ_=>ov (.str (a4p s))) (λ_=>noF):=by
 intro ρ w hF;refine (Tryz.strings_ToLower_ascii ⟨s.toArray⟩ w (by rw [Y7]; exact hl) (λj b hb=>by
  have:=a0y.1 ha b (a0v hb);simpa using this)).mono ?_
 rintro e w' ⟨rfl,hb⟩;exact zA (ps:=[]) (λ_=>ov (.str (a4p s))) 0 hb trivial
theorem JU (a b:UInt8) (h:puB a b=true):CallsK a0a 259 [.one (.str [a,b]),.one (.int .i64 16),.one (.int .i64 8)] H0 (λ_:Unit=>True) (λ_=>.tup [.one (.int .u64 (duV a*16+duV b)),.one (.val .nilIface)]) (λ_=>noF):=by
 have h0:=JT a b;rw [show puV a b=.tup [.one (.int .u64 (duV a*16+duV b)),.one (.val .nilIface)] by unfold puV; rw [h]; rfl] at h0;exact a0j true Tryz.func259 fun ρ w=>V.q<|V.c [] h0 λ_ _=>l6 [] 40 [] trivial<|V.z
theorem JV (a b:UInt8) (h:puB a b=false):CallsK a0a 259 [.one (.str [a,b]),.one (.int .i64 16),.one (.int .i64 8)] H0 (λ_:Nat=>True) (λN=>.tup [.one (.int .u64 0),.one (.val (.iface 287 (.pointer (some ⟨N,0,none⟩))))]) (λ_=>noF):=by
 have h0:=JT a b;rw [show puV a b=.tup [.one (.int .u64 0),.one (.val (.iface 284 (.int .i64 2)))] by unfold puV; rw [h]; rfl] at h0;exact a0j true Tryz.func259 fun ρ w=>V.q<|V.c [] h0 λ_ _=>l6 [] 40 [] trivial<|V.c [(0,false)] (Lv [a,b] (by simp)) λN _=>l6 [] 40 [] trivial<|V.e N [] trivial
theorem sU:∀ n:Fin 256,(match eG (a1c n.val) with
  | some v=>duB (a1c n.val)&&(Lib.lowerB (a1c n.val)==a1c n.val)&&(duV (a1c n.val)==(v:Int))
  | none=>!(duB (a1c n.val)&&(Lib.lowerB (a1c n.val)==a1c n.val)))&&(!duB (a1c n.val)||decide (n.val<128))=true:=by decide +kernel
theorem mV {c:UInt8} {v:Nat} (h:eG c=some v):duB c=true/\Lib.lowerB c=c/\duV c=(v:Int):=by
 have h1:=sU ⟨c.toNat,c.toNat_lt⟩;have e:a1c c.toNat=c:=by simp
 simp only [e,h] at h1;simp only [a0g,beq_iff_eq] at h1;exact ⟨h1.1.1.1,h1.1.1.2,h1.1.2⟩
theorem zB {c:UInt8} (h:eG c=none):(duB c&&(Lib.lowerB c==c))=false:=by
 have h1:=sU ⟨c.toNat,c.toNat_lt⟩;have e:a1c c.toNat=c:=by simp
 simp only [e,h] at h1;rw [a0g,Bool.not_eq_true'] at h1;exact h1.1
theorem DN {c:UInt8} (h:duB c=true):c.toNat<128:=by
 have h1:=sU ⟨c.toNat,c.toNat_lt⟩;have e:a1c c.toNat=c:=by simp
 simp only [e,h] at h1;rw [a0g] at h1;simpa using h1.2
theorem rr:∀ (t s:List UInt8),au t=some s->t.length % 2=0
 | [],_,_=>rfl
 | [a],s,h=>by simp [au] at h
 | a::b::l,s,h=>by
  rw [au] at h;cases ha:eG a with
  | none=>rw [ha] at h; simp at h
  | some x =>
   cases hb:eG b with
   | none=>rw [ha,hb] at h; simp at h
   | some y =>
    rw [ha,hb] at h;cases hl:au l with
    | none=>rw [hl] at h; simp at h
    | some r =>
     have:=rr l r hl;simp only [a0p];omega
def uhP (t:List UInt8) (i:Nat) (l:List UInt8):Prop:=i<=t.length/\i % 2=0/\au t=(au (t.drop i)).map (l++·)
theorem sV {t:List UInt8} {i:Nat} (h:i+2<=t.length):t.drop i=t.getD i 0::t.getD (i+1) 0::t.drop (i+2)/\(t.take (i+2)).drop i=[t.getD i 0,t.getD (i+1) 0]:=by
 have h1:t.drop i=t.getD i 0::t.getD (i+1) 0::t.drop (i+2):=by
  rw [a2k (by omega),a2k (by omega),a0r,a0r,a0b (by omega),a0b (by omega)];rfl
 refine ⟨h1,?_⟩;rw [List.drop_take,h1,Nat.add_sub_cancel_left];rfl
theorem vv {t:List UInt8} {i:Nat} {l:List UInt8} (h:uhP t i l) (hi:i+2<=t.length) (hp:puB (t.getD i 0) (t.getD (i+1) 0)=true) (hl:a4p [t.getD i 0,t.getD (i+1) 0]=[t.getD i 0,t.getD (i+1) 0]) :
  uhP t (i+2) (l++[a1c (duV (t.getD i 0)*16+duV (t.getD (i+1) 0)).toNat]):=by
 obtain ⟨h1,h2,h3⟩:=h;refine ⟨hi,by omega,?_⟩;rw [h3,(sV hi).1,au];unfold puB at hp;rw [a0g] at hp;simp only [a4p,a3h,List.map_nil,List.cons.injEq,and_true] at hl;cases ha:eG (t.getD i 0) with
 | none=>have:=zB ha; rw [hp.1,hl.1] at this; simp at this
 | some x =>
  cases hb:eG (t.getD (i+1) 0) with
  | none=>have:=zB hb; rw [hp.2,hl.2] at this; simp at this
  | some y =>
   obtain ⟨_,_,e1⟩:=mV ha;obtain ⟨_,_,e2⟩:=mV hb;simp only;rw [e1,e2,show ((x:Int)*16+(y:Int)).toNat=16*x+y by omega];cases au (t.drop (i+2)) with
   | none=>rfl
   | some r=>simp
theorem sW {t:List UInt8} {i:Nat} {l:List UInt8} (h:uhP t i l) (hi:i+2<=t.length) (hp:puB (t.getD i 0) (t.getD (i+1) 0)=false∨a4p [t.getD i 0,t.getD (i+1) 0]≠[t.getD i 0,t.getD (i+1) 0]):au t=none:=by
 obtain ⟨h1,h2,h3⟩:=h;rw [h3,(sV hi).1,au];cases ha:eG (t.getD i 0) with
 | none=>rfl
 | some x =>
  cases hb:eG (t.getD (i+1) 0) with
  | none=>rfl
  | some y =>
   obtain ⟨b1,l1,_⟩:=mV ha;obtain ⟨b2,l2,_⟩:=mV hb;rcases hp with hp | hp
   ·unfold puB at hp;rw [b1,b2] at hp;cases hp
   ·exact absurd (show [Lib.lowerB _,Lib.lowerB _]=_ by rw [l1,l2]) hp
theorem DO {a b:UInt8} (h:puB a b=true):[a,b].all (λb=>decide (b.toNat<128))=true:=by
 unfold puB at h;rw [a0g] at h;have h1:=DN h.1;have h2:=DN h.2;simp [h1,h2]
theorem rt {s:List UInt8} (h:a2d s [61]=false∨au (a0o s [61])=none):unB s=false/\unN s=[]:=by
 have hb:unB s=false:=by
  unfold unB;rcases h with h | h
  ·rw [h]; rfl
  ·rw [h]; exact a6k _
 refine ⟨hb,?_⟩;unfold unN;rw [hb]; rfl
theorem Lw {s:List UInt8} (h:(!a2d s [61]||(((a0o s [61]).length:Int).tmod 2 != 0))=true):unB s=false/\unN s=[]:=by
 rw [a3w,Bool.not_eq_true'] at h;rcases h with h | h
 ·exact rt (.inl h)
 ·refine rt (.inr ?_);cases e:au (a0o s [61]) with
  | none=>rfl
  | some r =>
   have h1:=rr _ _ e;have h2:((a0o s [61]).length:Int).tmod 2=(((a0o s [61]).length % 2:Nat):Int):=rfl;rw [h2,h1] at h;cases h
theorem HA {s:List UInt8} (h:(!a2d s [61]||(((a0o s [61]).length:Int).tmod 2 != 0))=false):a2d s [61]=true/\(a0o s [61]).length % 2=0:=by
 rw [a2r,Bool.not_eq_false'] at h;refine ⟨h.1,?_⟩;have h2:((a0o s [61]).length:Int).tmod 2=(((a0o s [61]).length % 2:Nat):Int):=rfl;have h3:=h.2;rw [h2] at h3;simp at h3;omega
theorem DP {s l:List UInt8} (h:a2d s [61]=true) (h2:au (a0o s [61])=some l):unB s=true/\unN s=l:=by
 have hb:unB s=true:=by
  unfold unB;rw [h,h2]; rfl
 refine ⟨hb,?_⟩;unfold unN;rw [hb,h2]; rfl
theorem sX {n:Nat} (h:n<4611686018427387904):a0h.wrap ((n:Int)+2)=((n+2:Nat):Int):=by
 simp [a1s,a1t,a1p];omega
theorem zC {a b:UInt8} (h:puB a b=true):a1x.wrap (duV a*16+duV b)=((a1c (duV a*16+duV b).toNat).toNat:Int):=by
 unfold puB at h;rw [a0g] at h;have h1:=oT h.1;have h2:=oT h.2;have e:(a1c (duV a*16+duV b).toNat).toNat=(duV a*16+duV b).toNat:=by simp; omega
 rw [e];simp [a1s,a1t,a1p];omega
def RP (t:List UInt8) (j:HXI):St :=
 { n:=57,slots:=[(0,ov (.str t)),(5,ov (.ptr 0 0)),(6,ov (.int .i64 (j.i:Int)))],gs:=[],heap:=[(0,⟨[.ptr 0 0,.row 0 j.q j.l.length j.c],137,true⟩)],next:=1,rows:=[(0,d5 bsv 0 j.l j.q j.c 5 1 true)],nr:=1,pers:=[j7],wr:=true,fx:=0 }
theorem Lx (s:List UInt8) (hs:s.length<=1000000000):CallsK a0a 187 [.one (.str s)] H0 (λ_:Unit=>True) (λ_=>.tup [.one (.str (unN s)),.one (.sb (unB s))]) (λ_=>noF):=by
 obtain ⟨t,ht⟩:∃ t,a0o s [61]=t:=⟨_,rfl⟩;have Rm:t.length<=1000000000:=by rw [<- ht]; exact X7 s [61] hs
 obtain ⟨nv,KJ⟩:∃ nv,unN s=nv:=⟨_,rfl⟩;obtain ⟨bv,lP⟩:∃ bv,unB s=bv:=⟨_,rfl⟩;rw [KJ,lP];refine a0j true Tryz.func187 fun ρ w=>V.t [S5.e] [(!a2d s [61])=false->(2:Int)≠0] (λ_=>by decide)<|f9 21 (!a2d s [61]||(((a0o s [61]).length:Int).tmod 2 != 0)) (λhb=>?_) (λhb=>?_)
 ·have J8:=Lw hb;have e1:nv=[]:=KJ.symm.trans J8.2;have e2:bv=false:=lP.symm.trans J8.1;subst e1;subst e2;exact V.q<|a4o 3 false<|V.z
 ·obtain ⟨Y4,uo⟩:=HA hb;rw [ht] at uo;have cY:uhP t 0 []:=⟨a0s _,rfl,by simp⟩;refine V.s 0 (.one (.str (a0o s [61]))) (.one (.str t)) (λ_=>by rw [ht])<|V.q<|a1l<|V.q<|f9 25 (decide ((0:Int)<t.length)) (λhc=>?_) (λhc=>?_)
  ·refine V.s 6 (.one (.int .i64 0)) (.one (.int .i64 ((0:Nat):Int))) (λ_=>rfl) ?_;have h2:0+2<=t.length:=by
    have h3:=cY.2.1;have h4:((0:Nat):Int)<(t.length:Int):=by simpa using hc
    omega
   have bY:a0h.wrap (((0:Nat):Int)+2)=((0+2:Nat):Int):=sX (by omega);have q8:(0:Int)<=((0:Nat):Int)/\((0:Nat):Int)<=a0h.wrap (((0:Nat):Int)+2)/\a0h.wrap (((0:Nat):Int)+2)<=(t.length:Int):=by rw [bY]; omega
   have W2:((t.take (a0h.wrap ((0:Nat)+2)).toNat).drop ((0:Nat):Int).toNat)=[t.getD (0:Nat) 0,t.getD (0+1) 0]:=by rw [bY,<- (sV h2).2,a1h,a1h]
   refine V.t [] [(0:Int)<=((0:Nat):Int)/\((0:Nat):Int)<=a0h.wrap (((0:Nat):Int)+2)/\a0h.wrap (((0:Nat):Int)+2)<=(t.length:Int)] q8<|V.s 33 (.one (.str ((t.take (a0h.wrap ((0:Nat)+2)).toNat).drop ((0:Nat):Int).toNat))) (.one (.str [t.getD (0:Nat) 0,t.getD (0+1) 0])) (λ_=>by rw [W2]) ?_;by_cases hp:puB (t.getD (0:Nat) 0) (t.getD (0+1) 0)=true
   case neg =>
    have hp:puB (t.getD (0:Nat) 0) (t.getD (0+1) 0)=false:=by simpa using hp
    refine V.c [(0,false)] (JV _ _ hp) λ_ _=>V.q ?_;have J8:=rt (s:=s) (.inr (by rw [ht]; exact sW cY h2 (.inl hp)));have e1:nv=[]:=KJ.symm.trans J8.2;have e2:bv=false:=lP.symm.trans J8.1;subst e1;subst e2;exact a4o 3 false<|V.z
   have Gx:a1c (duV (t.getD (0:Nat) 0)*16+duV (t.getD (0+1) 0)).toNat=a1c (duV (t.getD (0:Nat) 0)*16+duV (t.getD (0+1) 0)).toNat:=rfl;refine V.c [(0,false)] (JU _ _ hp) λ_ _=>V.q<|p9 [] [] 15 kq<|@a1z _ [] [] 15 _ _ ([]:List (Ent a0a)) [(0:Int)<=((0:Nat):Int)/\((0:Nat):Int)<=a0h.wrap (((0:Nat):Int)+2)/\a0h.wrap (((0:Nat):Int)+2)<=(t.length:Int),(0:Int)<=((0:Nat):Int)/\((0:Nat):Int)<=a0h.wrap (((0:Nat):Int)+2)/\a0h.wrap (((0:Nat):Int)+2)<=(t.length:Int)] kq kq ⟨q8,q8⟩<|@a5u _ [] [] 15 _ _ Nat 260 [.one (.str ((t.take (a0h.wrap ((0:Nat)+2)).toNat).drop ((0:Nat):Int).toNat))] noF _ _ _ [] (vu ((t.take (a0h.wrap ((0:Nat)+2)).toNat).drop ((0:Nat):Int).toNat) (by rw [W2]; simp) (by rw [W2]; exact DO hp)) kq kq kq (λ_=>kq) λ_ _=>@a1z _ [] [] 15 _ _ ([]:List (Ent a0a)) [] kq kq trivial<|@o7 _ [] [] 15 _ _ kq<|f9 52 (!(a4p ((t.take (a0h.wrap ((0:Nat)+2)).toNat).drop ((0:Nat):Int).toNat)==((t.take (a0h.wrap ((0:Nat)+2)).toNat).drop ((0:Nat):Int).toNat))) (λun=>?_) (λun=>?_)
   ·have wE:a4p [t.getD (0:Nat) 0,t.getD (0+1) 0]≠[t.getD (0:Nat) 0,t.getD (0+1) 0]:=by rw [W2] at un; simpa using un
    refine V.q ?_;have J8:=rt (s:=s) (.inr (by rw [ht]; exact sW cY h2 (.inr wE)));have e1:nv=[]:=KJ.symm.trans J8.2;have e2:bv=false:=lP.symm.trans J8.1;subst e1;subst e2;exact a4o 3 false<|V.z
   have wE:a4p [t.getD (0:Nat) 0,t.getD (0+1) 0]=[t.getD (0:Nat) 0,t.getD (0+1) 0]:=by rw [W2] at un; simpa using un
   refine V.q<|V.s 54 (.one (.int .u8 (a1x.wrap (duV (t.getD (0:Nat) 0)*16+duV (t.getD (0+1) 0))))) (.one (.int .u8 (((a1c (duV (t.getD (0:Nat) 0)*16+duV (t.getD (0+1) 0)).toNat)).toNat:Int))) (λ_=>by rw [zC hp])<|V.c [] (ra (a1c (duV (t.getD (0:Nat) 0)*16+duV (t.getD (0+1) 0)).toNat)) λy _=>V.q<|V.s 6 (.one (.int .i64 (a0h.wrap (((0:Nat):Int)+2)))) (.one (.int .i64 ((0+2:Nat):Int))) (λ_=>by rw [bY])<|j6 [0,5,6] [true] (λj:HXI=>t.length - j.i) (RP t) (λj=>uhP t j.i j.l/\j.l.length<=j.i) ⟨[(a1c (duV (t.getD (0:Nat) 0)*16+duV (t.getD (0+1) 0)).toNat)],y.1,y.2,2⟩ kq ⟨vv cY h2 hp wE,by simp⟩ (λj hj ih=>?_);clear cY hc h2 q8 W2 hp un wE bY;obtain ⟨l,q,c,i⟩:=j;obtain ⟨cY,Xd⟩:=hj;simp only at cY Xd;have GT:=cY.1;refine a1l<|V.q<|f9 25 (decide ((i:Int)<t.length)) (λhc=>?_) (λhc=>?_)
   ·skip
    have h2:i+2<=t.length:=by
     have h3:=cY.2.1;have h4:((i:Nat):Int)<(t.length:Int):=by simpa using hc
     omega
    have bY:a0h.wrap (((i:Nat):Int)+2)=((i+2:Nat):Int):=sX (by omega);have q8:(0:Int)<=((i:Nat):Int)/\((i:Nat):Int)<=a0h.wrap (((i:Nat):Int)+2)/\a0h.wrap (((i:Nat):Int)+2)<=(t.length:Int):=by rw [bY]; omega
    have W2:((t.take (a0h.wrap ((i:Nat)+2)).toNat).drop ((i:Nat):Int).toNat)=[t.getD i 0,t.getD (i+1) 0]:=by rw [bY,<- (sV h2).2,a1h,a1h]
    refine V.t [] [(0:Int)<=((i:Nat):Int)/\((i:Nat):Int)<=a0h.wrap (((i:Nat):Int)+2)/\a0h.wrap (((i:Nat):Int)+2)<=(t.length:Int)] q8<|V.s 33 (.one (.str ((t.take (a0h.wrap ((i:Nat)+2)).toNat).drop ((i:Nat):Int).toNat))) (.one (.str [t.getD i 0,t.getD (i+1) 0])) (λ_=>by rw [W2]) ?_;by_cases hp:puB (t.getD i 0) (t.getD (i+1) 0)=true
    case neg =>
     have hp:puB (t.getD i 0) (t.getD (i+1) 0)=false:=by simpa using hp
     refine V.c [(0,false)] (JV _ _ hp) λ_ _=>V.q ?_;have J8:=rt (s:=s) (.inr (by rw [ht]; exact sW cY h2 (.inl hp)));have e1:nv=[]:=KJ.symm.trans J8.2;have e2:bv=false:=lP.symm.trans J8.1;subst e1;subst e2;exact a4o 3 false<|V.z
    have Gx:a1c (duV (t.getD i 0)*16+duV (t.getD (i+1) 0)).toNat=a1c (duV (t.getD i 0)*16+duV (t.getD (i+1) 0)).toNat:=rfl;refine V.c [(0,false)] (JU _ _ hp) λ_ _=>V.q<|p9 [] [] 15 kq<|@a1z _ [] [] 15 _ _ ([]:List (Ent a0a)) [(0:Int)<=((i:Nat):Int)/\((i:Nat):Int)<=a0h.wrap (((i:Nat):Int)+2)/\a0h.wrap (((i:Nat):Int)+2)<=(t.length:Int),(0:Int)<=((i:Nat):Int)/\((i:Nat):Int)<=a0h.wrap (((i:Nat):Int)+2)/\a0h.wrap (((i:Nat):Int)+2)<=(t.length:Int)] kq kq ⟨q8,q8⟩<|@a5u _ [] [] 15 _ _ Nat 260 [.one (.str ((t.take (a0h.wrap ((i:Nat)+2)).toNat).drop ((i:Nat):Int).toNat))] noF _ _ _ [] (vu ((t.take (a0h.wrap ((i:Nat)+2)).toNat).drop ((i:Nat):Int).toNat) (by rw [W2]; simp) (by rw [W2]; exact DO hp)) kq kq kq (λ_=>kq) λ_ _=>@a1z _ [] [] 15 _ _ ([]:List (Ent a0a)) [] kq kq trivial<|@o7 _ [] [] 15 _ _ kq<|f9 52 (!(a4p ((t.take (a0h.wrap ((i:Nat)+2)).toNat).drop ((i:Nat):Int).toNat)==((t.take (a0h.wrap ((i:Nat)+2)).toNat).drop ((i:Nat):Int).toNat))) (λun=>?_) (λun=>?_)
    ·have wE:a4p [t.getD i 0,t.getD (i+1) 0]≠[t.getD i 0,t.getD (i+1) 0]:=by rw [W2] at un; simpa using un
     refine V.q ?_;have J8:=rt (s:=s) (.inr (by rw [ht]; exact sW cY h2 (.inr wE)));have e1:nv=[]:=KJ.symm.trans J8.2;have e2:bv=false:=lP.symm.trans J8.1;subst e1;subst e2;exact a4o 3 false<|V.z
    have wE:a4p [t.getD i 0,t.getD (i+1) 0]=[t.getD i 0,t.getD (i+1) 0]:=by rw [W2] at un; simpa using un
    exact V.q<|V.s 54 (.one (.int .u8 (a1x.wrap (duV (t.getD i 0)*16+duV (t.getD (i+1) 0))))) (.one (.int .u8 (((a1c (duV (t.getD i 0)*16+duV (t.getD (i+1) 0)).toNat)).toNat:Int))) (λ_=>by rw [zC hp])<|V.c [] (xp l q c (a1c (duV (t.getD i 0)*16+duV (t.getD (i+1) 0)).toNat) (by omega)) λy _=>V.q<|V.s 6 (.one (.int .i64 (a0h.wrap (((i:Nat):Int)+2)))) (.one (.int .i64 ((i+2:Nat):Int))) (λ_=>by rw [bY])<|d9 [0,5,6] [true] (ih ⟨l++[(a1c (duV (t.getD i 0)*16+duV (t.getD (i+1) 0)).toNat)],y.1,y.2,i+2⟩ ⟨vv cY h2 hp wE,by simp only [a0c,a0p,a1r]; omega⟩ (by simp only; omega)) kq kq
   ·have bA:t.length<=i:=by
     have:¬ (i:Int)<(t.length:Int):=by simpa using hc
     omega
    have QS:=DP (s:=s) (l:=l) Y4 (by rw [ht,cY.2.2,List.drop_eq_nil_of_le bA]; simp [au]);have e1:nv=l:=KJ.symm.trans QS.2;have e2:bv=true:=lP.symm.trans QS.1;subst e1;subst e2;exact V.q<|V.c [] (gj nv q c (by omega)) λ_ _=>V.q<|a4o 3 true<|V.z
  ·have bA:t.length=0:=by
    have:¬ (0:Int)<(t.length:Int):=by simpa using hc
    omega
   have QS:=DP (s:=s) (l:=[]) Y4 (by rw [ht,List.length_eq_zero_iff.1 bA]; rfl);have e1:nv=[]:=KJ.symm.trans QS.2;have e2:bv=true:=lP.symm.trans QS.1;subst e1;subst e2;exact V.q<|V.c [] oI λ_ _=>V.q<|a4o 3 true<|V.z
end Go.Proofs
end
section
namespace Go.Proofs
open Go Go.SX
def RQ:Con a0a:=ix 184 [j7] (λs=>(.v (.one (.str (J2 s))),[s.length<=1000000000])) (λs ρ w q8 hp =>
 CallsK.gives (RM s (q8 _ (a0d.2 rfl))) ⟨rfl,rfl,rfl⟩ (λ_ _=>rfl) ρ w hp)
def Ly:Con a0a:=ix 187 [j7] (λs=>(.tup [.one (.str (unN s)),.one (.sb (unB s))],[s.length<=1000000000])) (λs ρ w q8 hp =>
 CallsK.gives (Lx s (q8 _ (a0d.2 rfl))) ⟨rfl,rfl,rfl⟩ (λ_ _=>rfl) ρ w hp)
def Bf:Con a0a:=r6 Tryz.func210 true [] [] kq kq
def T6:List (Ent a0a):=[⟨ai,[0]⟩,Bf.e,⟨RQ,[0]⟩]
def Bg:Con a0a:=r6 Tryz.func174 true T6 [j7] kq kq
def HB:Con a0a:=r6 Tryz.func199 true T6 [j7] kq kq
theorem mh (s:List UInt8):(J2 s).length=2*s.length+1:=by unfold J2; rw [a0p,fv]
def sY:Con a0a:=Bg.as (λxs=>match xs with
  | [.agg [.int .i64 k,.int .i64 p,.int .i64 q,.sb v,.str s]]=>some (.v (.one (.str (y9 ⟨k,p,q,v,s⟩))),[inK .i64 k/\inK .i64 p/\inK .i64 q/\s.length<=1000000000])
  | _=>none) (by
 intro xs v ob h q8;split at h
 ·rename_i k p q v s;simp only [a0l,a1f] at h;obtain ⟨rfl,rfl⟩:=h;obtain ⟨hk,hp,hq,hs⟩:=q8 _ (a0d.2 rfl);have h1:=a2e k hk.1 hk.2;have h2:=a2e p hp.1 hp.2;have h3:=a2e q hq.1 hq.2;have h4:(ab v).length=1:=by cases v<;>rfl
  have h5:=mh s;refine ⟨.v (.one (.str (y9 ⟨k,p,q,v,s⟩))),[inK .i64 k,
     ((a0i k:List UInt8).length+1:Nat)<=9223372036854775807,
     inK .i64 p,
     ((a0i k++[44]:List UInt8).length+(a0i p).length:Nat)<=9223372036854775807,
     ((a0i k++[44]++a0i p:List UInt8).length+1:Nat)<=9223372036854775807,
     inK .i64 q,
     ((a0i k++[44]++a0i p++[44]:List UInt8).length+(a0i q).length:Nat)<=9223372036854775807,
     ((a0i k++[44]++a0i p++[44]++a0i q:List UInt8).length+1:Nat)<=9223372036854775807,
     ((a0i k++[44]++a0i p++[44]++a0i q++[44]:List UInt8).length+(ab v).length:Nat)<=9223372036854775807,
     ((a0i k++[44]++a0i p++[44]++a0i q++[44]++ab v:List UInt8).length+1:Nat)<=9223372036854775807,
     s.length<=1000000000,
     ((a0i k++[44]++a0i p++[44]++a0i q++[44]++ab v++[44]:List UInt8).length+(J2 s).length:Nat)<=9223372036854775807],kq,?_,λ_=>rfl⟩
  intro r hr;simp only [a0k,a1a,or_false] at hr;rcases hr with rfl|rfl|rfl|rfl|rfl|rfl|rfl|rfl|rfl|rfl|rfl|rfl
  all_goals first
   | exact hk
   | exact hp
   | exact hq
   | exact hs
   | omega
   | (simp only [a0c,a0p,a1r,h4]<;>omega)
 ·cases h)
def HC:Con a0a:=HB.as (λxs=>match xs with
  | [.agg [.int .i64 k,.int .i64 p,.int .i64 q,.str s]]=>some (.v (.one (.str (E9 ⟨k,p,q,s⟩))),[inK .i64 k/\inK .i64 p/\inK .i64 q/\s.length<=1000000000])
  | _=>none) (by
 intro xs v ob h q8;split at h
 ·rename_i k p q s;simp only [a0l,a1f] at h;obtain ⟨rfl,rfl⟩:=h;obtain ⟨hk,hp,hq,hs⟩:=q8 _ (a0d.2 rfl);have h1:=a2e k hk.1 hk.2;have h2:=a2e p hp.1 hp.2;have h3:=a2e q hq.1 hq.2;have h5:=mh s;refine ⟨.v (.one (.str (E9 ⟨k,p,q,s⟩))),[inK .i64 k,
     ((a0i k:List UInt8).length+1:Nat)<=9223372036854775807,
     inK .i64 p,
     ((a0i k++[44]:List UInt8).length+(a0i p).length:Nat)<=9223372036854775807,
     ((a0i k++[44]++a0i p:List UInt8).length+1:Nat)<=9223372036854775807,
     inK .i64 q,
     ((a0i k++[44]++a0i p++[44]:List UInt8).length+(a0i q).length:Nat)<=9223372036854775807,
     ((a0i k++[44]++a0i p++[44]++a0i q:List UInt8).length+1:Nat)<=9223372036854775807,
     s.length<=1000000000,
     ((a0i k++[44]++a0i p++[44]++a0i q++[44]:List UInt8).length+(J2 s).length:Nat)<=9223372036854775807],kq,?_,λ_=>rfl⟩
  intro r hr;simp only [a0k,a1a,or_false] at hr;rcases hr with rfl|rfl|rfl|rfl|rfl|rfl|rfl|rfl|rfl|rfl
  all_goals first
   | exact hk
   | exact hp
   | exact hq
   | exact hs
   | omega
   | (simp only [a0c,a0p,a1r]<;>omega)
 ·cases h)
def C7 (x:In) (A:IA):Row:=d5 Fm.cells fm0 x.f A.qf A.cf 93 4 false
def C1 (x:In) (A:IA):Row:=d5 C6 0 x.l A.ql A.cl 3 1 false
def E7 (x:In) (A:IA):Row:=d5 Ty.cells ty0 x.y A.qy A.cy 23 5 false
def z8 (ps:List m6):St:={ noF with pers:=ps }
theorem dQ {α:Type} {l:List α} {f:α->Bool} {i:Nat} (h:i<l.length) (d:α) (hf:f (l.getD i d)=false):l.all f=false:=by
 rw [List.all_eq_false];refine ⟨l.getD i d,?_,by simpa using hf⟩;rw [a0r,a0b h];exact a5b h
theorem K3 {α:Type} {l:List α} {f:α->Bool} {i:Nat} (h:i<l.length) (d:α) (ha:(l.take i).all f=true) (hf:f (l.getD i d)=true):(l.take (i+1)).all f=true:=by
 rw [a2c,a0b h,List.all_append,ha];rw [a0r,a0b h] at hf;simpa using hf
theorem av {i:Nat} (h:i<4000000000000000000):a0h.wrap ((i:Int)+1)=((i+1:Nat):Int):=by
 simp [a1s,a1t,a1p];omega
def fnV (f:Nat):SV:=.val (.func (.func f) #[] #[])
def N0 (n:Int):Bool:=decide (n>=0)&&cH n
def Q9 (f:Fm):Bool:=n9 f.k&&n9 f.w&&n9 f.d&&decide ((f.s.length:Int)<=255)
def Lz:Con a0a:=r6 Tryz.func152 true [] [] kq kq
def dR:Con a0a:=r6 Tryz.func191 true [Lz.e] [] kq kq
def dT:Con a0a:=r6 Tryz.func168 true [sQ.e] [] kq kq
def dU:Con a0a:=r6 Tryz.func196 true [sQ.e] [] kq kq
def Q0:Con a0a:=Con.p1 190 25 (λg o w hg=>by
 exact w6 g o hg false Tryz.func190 kq kq<|V.u<|a4g (.v (.one (.ptr 0 (o+25)))) kq kq (fun ρ a w' hS=>bU rfl kq rfl rfl hS))
def Q1:Con a0a:=Con.p1 195 26 (λg o w hg=>by
 exact w6 g o hg false Tryz.func195 kq kq<|V.u<|a4g (.v (.one (.ptr 0 (o+26)))) kq kq (fun ρ a w' hS=>bU rfl kq rfl rfl hS))
def Q2:Con a0a:=Con.p1 202 24 (λg o w hg=>by
 exact w6 g o hg false Tryz.func202 kq kq<|V.u<|a4g (.v (.one (.ptr 0 (o+24)))) kq kq (fun ρ a w' hS=>bU rfl kq rfl rfl hS))
def lfI (x:In) (A:IA) (cb cf:Nat) (i:Nat):St :=
 { n:=27,slots:=[(1,ov (.val (.pointer (some ⟨cb,0,none⟩)))),(2,ov (.val (.pointer (some ⟨cf,0,none⟩)))),(3,ov (.ptr 0 0)),(10,ov (.row 0 A.ql x.l.length A.cl)),(11,ov (.int .i64 x.l.length)),(12,ov (.int .i64 i))],gs:=[],
    heap:=[(0,⟨inV x A,30,true⟩)],next:=1,rows:=[(0,C1 x A)],nr:=1,pers:=[r9 cb [fnV 190] 212,r9 cf [fnV 191] 95],wr:=true,fx:=0 }
theorem LA (x:In) (A:IA) (cb cf:Nat) (hl:x.l.length<=100000):CallsK a0a 262 [.agg (inV x A),.one (.val (.pointer (some ⟨cb,0,none⟩))),.one (.val (.pointer (some ⟨cf,0,none⟩)))] (z8 [r9 cb [fnV 190] 212,r9 cf [fnV 191] 95,e8 (C1 x A)])
  (λ_:Unit=>True) (λ_=>ov (.sb (x.l.all N0&&decide ((x.l.length:Int)<=16)))) (λ_=>noF):=by
 refine a0j true Tryz.func262 fun ρ w=>V.t [Q0.e,dR.e] [] trivial<|y8 0 212 cb 0 [fnV 190] 212 (.one (fnV 190))<|V.t [Q0.e,dR.e] [] trivial<|G4 10 2 (C1 x A)<|j6 [1,2,3,10,11,12] [true,true] (λi:Nat=>x.l.length - i) (lfI x A cb cf) (λi=>i<=x.l.length/\(x.l.take i).all N0=true) 0 kq ⟨a0s _,rfl⟩ (λi hi ih=>?_);obtain ⟨hi,q7⟩:=hi;refine a1l<|V.t [Q0.e,dR.e] [] trivial<|f9 13 (decide ((i:Int)<x.l.length)) (λhb=>?_) (λhb=>?_)
 ·have e9:i<x.l.length:=by simpa using hb
  refine V.t [Q0.e,dR.e] [(0:Int)<=i/\(i:Int)<x.l.length] ⟨by omega,by omega⟩<|y8 1 95 cf 0 [fnV 191] 95 (.one (fnV 191))<|V.t [Q0.e,dR.e] [] trivial<|f9 19 (!N0 (x.l.getD i 0)) (λhf=>?_) (λhf=>?_)
  ·refine V.t [Q0.e,dR.e] [] trivial ?_;rw [show (x.l.all N0&&decide ((x.l.length:Int)<=16))=false by rw [dQ e9 0 (by simpa using hf),a6r]];exact a4o 4 false<|V.z
  ·refine V.t [Q0.e,dR.e] [] trivial<|a3v 12 i (by omega)<|d9 [1,2,3,10,11,12] [true,true] (ih (i+1) ⟨e9,K3 e9 0 q7 (by simpa using hf)⟩ (by omega)) kq kq
 ·have n8:x.l.length=i:=by
   have:¬ i<x.l.length:=by simpa using hb
   omega
  refine V.t [Q0.e,dR.e] [] trivial<|y8 0 212 cb 0 [fnV 190] 212 (.one (fnV 190))<|V.t [Q0.e,dR.e] [] trivial ?_;rw [show x.l.all N0=true by rw [<- n8,a1o] at q7; exact q7,a5a];exact V.z
def lfT (x:In) (A:IA) (cb cf:Nat) (i:Nat):St :=
 { n:=27,slots:=[(1,ov (.val (.pointer (some ⟨cb,0,none⟩)))),(2,ov (.val (.pointer (some ⟨cf,0,none⟩)))),(3,ov (.ptr 0 0)),(10,ov (.row 0 A.qy x.y.length A.cy)),(11,ov (.int .i64 x.y.length)),(12,ov (.int .i64 i))],gs:=[],
    heap:=[(0,⟨inV x A,30,true⟩)],next:=1,rows:=[(0,E7 x A)],nr:=1,pers:=[r9 cb [fnV 195] 217,r9 cf [fnV 168] 180],wr:=true,fx:=0 }
theorem LB (x:In) (A:IA) (cb cf:Nat) (hl:x.y.length<=100000):CallsK a0a 269 [.agg (inV x A),.one (.val (.pointer (some ⟨cb,0,none⟩))),.one (.val (.pointer (some ⟨cf,0,none⟩)))] (z8 [r9 cb [fnV 195] 217,r9 cf [fnV 168] 180,e8 (E7 x A)])
  (λ_:Unit=>True) (λ_=>ov (.sb (x.y.all J4&&decide ((x.y.length:Int)<=16)))) (λ_=>noF):=by
 refine a0j true Tryz.func269 fun ρ w=>V.t [Q1.e,dT.e] [] trivial<|y8 0 217 cb 0 [fnV 195] 217 (.one (fnV 195))<|V.t [Q1.e,dT.e] [] trivial<|G4 10 2 (E7 x A)<|j6 [1,2,3,10,11,12] [true,true] (λi:Nat=>x.y.length - i) (lfT x A cb cf) (λi=>i<=x.y.length/\(x.y.take i).all J4=true) 0 kq ⟨a0s _,rfl⟩ (λi hi ih=>?_);obtain ⟨hi,q7⟩:=hi;refine a1l<|V.t [Q1.e,dT.e] [] trivial<|f9 13 (decide ((i:Int)<x.y.length)) (λhb=>?_) (λhb=>?_)
 ·have e9:i<x.y.length:=by simpa using hb
  refine V.t [Q1.e,dT.e] [(0:Int)<=i/\(i:Int)<x.y.length] ⟨by omega,by omega⟩<|y8 1 180 cf 0 [fnV 168] 180 (.one (fnV 168))<|V.t [Q1.e,dT.e] [] trivial<|f9 19 (!J4 (x.y.getD i ty0)) (λhf=>?_) (λhf=>?_)
  ·refine V.t [Q1.e,dT.e] [] trivial ?_;rw [show (x.y.all J4&&decide ((x.y.length:Int)<=16))=false by rw [dQ e9 ty0 (by simpa using hf),a6r]];exact a4o 4 false<|V.z
  ·refine V.t [Q1.e,dT.e] [] trivial<|a3v 12 i (by omega)<|d9 [1,2,3,10,11,12] [true,true] (ih (i+1) ⟨e9,K3 e9 ty0 q7 (by simpa using hf)⟩ (by omega)) kq kq
 ·have n8:x.y.length=i:=by
   have:¬ i<x.y.length:=by simpa using hb
   omega
  refine V.t [Q1.e,dT.e] [] trivial<|y8 0 217 cb 0 [fnV 195] 217 (.one (fnV 195))<|V.t [Q1.e,dT.e] [] trivial ?_;rw [show x.y.all J4=true by rw [<- n8,a1o] at q7; exact q7,a5a];exact V.z
def lfF (x:In) (A:IA) (cb cf:Nat) (i:Nat):St :=
 { n:=27,slots:=[(1,ov (.val (.pointer (some ⟨cb,0,none⟩)))),(2,ov (.val (.pointer (some ⟨cf,0,none⟩)))),(3,ov (.ptr 0 0)),(10,ov (.row 0 A.qf x.f.length A.cf)),(11,ov (.int .i64 x.f.length)),(12,ov (.int .i64 i))],gs:=[],
    heap:=[(0,⟨inV x A,30,true⟩)],next:=1,rows:=[(0,C7 x A)],nr:=1,pers:=[r9 cb [fnV 202] 226,r9 cf [fnV 196] 181],wr:=true,fx:=0 }
theorem LC (x:In) (A:IA) (cb cf:Nat) (hl:x.f.length<=100000):CallsK a0a 275 [.agg (inV x A),.one (.val (.pointer (some ⟨cb,0,none⟩))),.one (.val (.pointer (some ⟨cf,0,none⟩)))] (z8 [r9 cb [fnV 202] 226,r9 cf [fnV 196] 181,e8 (C7 x A)])
  (λ_:Unit=>True) (λ_=>ov (.sb (x.f.all Q9&&decide ((x.f.length:Int)<=16)))) (λ_=>noF):=by
 refine a0j true Tryz.func275 fun ρ w=>V.t [Q2.e,dU.e] [] trivial<|y8 0 226 cb 0 [fnV 202] 226 (.one (fnV 202))<|V.t [Q2.e,dU.e] [] trivial<|G4 10 2 (C7 x A)<|j6 [1,2,3,10,11,12] [true,true] (λi:Nat=>x.f.length - i) (lfF x A cb cf) (λi=>i<=x.f.length/\(x.f.take i).all Q9=true) 0 kq ⟨a0s _,rfl⟩ (λi hi ih=>?_);obtain ⟨hi,q7⟩:=hi;refine a1l<|V.t [Q2.e,dU.e] [] trivial<|f9 13 (decide ((i:Int)<x.f.length)) (λhb=>?_) (λhb=>?_)
 ·have e9:i<x.f.length:=by simpa using hb
  refine V.t [Q2.e,dU.e] [(0:Int)<=i/\(i:Int)<x.f.length] ⟨by omega,by omega⟩<|y8 1 181 cf 0 [fnV 196] 181 (.one (fnV 196))<|V.t [Q2.e,dU.e] [] trivial<|f9 19 (!Q9 (x.f.getD i fm0)) (λhf=>?_) (λhf=>?_)
  ·refine V.t [Q2.e,dU.e] [] trivial ?_;rw [show (x.f.all Q9&&decide ((x.f.length:Int)<=16))=false by rw [dQ e9 fm0 (by simpa using hf),a6r]];exact a4o 4 false<|V.z
  ·refine V.t [Q2.e,dU.e] [] trivial<|a3v 12 i (by omega)<|d9 [1,2,3,10,11,12] [true,true] (ih (i+1) ⟨e9,K3 e9 fm0 q7 (by simpa using hf)⟩ (by omega)) kq kq
 ·have n8:x.f.length=i:=by
   have:¬ i<x.f.length:=by simpa using hb
   omega
  refine V.t [Q2.e,dU.e] [] trivial<|y8 0 226 cb 0 [fnV 202] 226 (.one (fnV 202))<|V.t [Q2.e,dU.e] [] trivial ?_;rw [show x.f.all Q9=true by rw [<- n8,a1o] at q7; exact q7,a5a];exact V.z
theorem vw (n:Int) (b:WSt) (h1:-2147483648<=n) (h2:n<=2147483647) (hb:b.bs.length<=1000000000):CallsK a0a 54 [.one (.ptr 0 0),.one (.int .i64 n)] (wrF [] b)
  (λb':WSt=>b'.bs=b.bs++N3 n/\b'.rs=b.rs++[]) (λ_=>.tup []) (wrF []):=d8 (λ_=>rfl) (bS n b h1 h2 hb)
theorem RR (l:List UInt8) (b:WSt) (hl:l.length<=1000000000) (hb:b.bs.length<=900000000):CallsK a0a 180 [.one (.ptr 0 0),.one (.str l)] (wrF [] b)
  (λb':WSt=>b'.bs=b.bs++fl l/\b'.rs=b.rs++[]) (λ_=>.tup []) (wrF []):=d8 (λ_=>rfl) (Lg l b hl hb)
theorem RS (t:Ty) (b:WSt) (h1:I3 t.k) (h2:I3 t.p) (h3:I3 t.q) (hl:t.s.length<=50000000) (hb:b.bs.length<=800000000):CallsK a0a 170 [.one (.ptr 0 0),.agg t.cells] (wrF [] b)
  (λb':WSt=>b'.bs=b.bs++M9 t/\b'.rs=b.rs++[]) (λ_=>.tup []) (wrF []):=d8 (λ_=>rfl) (Oi t b h1 h2 h3 hl hb)
theorem x5 (n:Int):(N3 n).length<=10:=I0 9 (zz n)
theorem oU (l:List UInt8):(fl l).length<=10+l.length:=by
 have:=x5 l.length;unfold fl; rw [a0c]; omega
theorem cN (t:Ty):(M9 t).length<=41+t.s.length:=by
 have h1:=x5 t.k; have h2:=x5 t.p; have h3:=x5 t.q; have h4:=oU t.s;unfold M9; simp only [a0c,a0p,a1r]; omega
def eI (n:Int):List UInt8:=N3 (n+1)
def W4 (f:Fm):List UInt8:=N3 f.k++(N3 f.w++(N3 f.d++fl f.s))
theorem ru (f:Fm):(W4 f).length<=40+f.s.length:=by
 have h1:=x5 f.k; have h2:=x5 f.w; have h3:=x5 f.d; have h4:=oU f.s;unfold W4; simp only [a0c]; omega
theorem pI (n:Int) (b:WSt) (hn:N0 n=true) (hb:b.bs.length<=700000000):CallsK a0a 192 [.one (.ptr 0 0),.one (.int .i64 n)] (wrF [] b)
  (λb':WSt=>b'.bs=b.bs++eI n/\b'.rs=b.rs++[]) (λ_=>.tup []) (wrF []):=by
 have Gs:0<=n/\n<4000:=by
  simp [N0,cH] at hn; omega
 exact a0j true Tryz.func192 fun ρ w=>V.q<|V.s 6 (.one (.int .i64 (a0h.wrap (n+1)))) (.one (.int .i64 (n+1))) (λ_=>by rw [ja (by constructor<;>omega)])<|V.c [] (vw (n+1) b (by omega) (by omega) (by omega)) λb1 e1=>V.q<|V.e b1 [] e1
theorem pT (t:Ty) (b:WSt) (ht:J4 t=true) (hb:b.bs.length<=700000000):CallsK a0a 170 [.one (.ptr 0 0),.agg t.cells] (wrF [] b)
  (λb':WSt=>b'.bs=b.bs++M9 t/\b'.rs=b.rs++[]) (λ_=>.tup []) (wrF []):=by
 simp only [J4,a0g,decide_eq_true_eq] at ht;exact RS t b (q5 ht.1.1.1) (q5 ht.1.1.2) (q5 ht.1.2) (by omega) (by omega)
theorem pF (f:Fm) (b:WSt) (hf:Q9 f=true) (hb:b.bs.length<=700000000):CallsK a0a 197 [.one (.ptr 0 0),.agg f.cells] (wrF [] b)
  (λb':WSt=>b'.bs=b.bs++W4 f/\b'.rs=b.rs++[]) (λ_=>.tup []) (wrF []):=by
 obtain ⟨k,w,d,s⟩:=f;simp only [Q9,a0g,decide_eq_true_eq] at hf;refine a0j true Tryz.func197 fun ρ W=>V.q<|V.c [] (vw k b (q5 hf.1.1.1).1 (q5 hf.1.1.1).2 (by omega)) (λb1 e1=>?_);have l1:b1.bs.length<=b.bs.length+10:=by rw [e1.1,a0c]; have:=x5 k; omega
 refine V.q<|V.c [] (vw w b1 (q5 hf.1.1.2).1 (q5 hf.1.1.2).2 (by omega)) (λb2 e2=>?_);have l2:b2.bs.length<=b1.bs.length+10:=by rw [e2.1,a0c]; have:=x5 w; omega
 refine V.q<|V.c [] (vw d b2 (q5 hf.1.2).1 (q5 hf.1.2).2 (by omega)) (λb3 e3=>?_);have l3:b3.bs.length<=b2.bs.length+10:=by rw [e3.1,a0c]; have:=x5 d; omega
 exact V.q<|V.c [] (RR s b3 (by omega) (by omega)) λb4 e4=>V.q<|V.e b4 [] ⟨by rw [e4.1,e3.1,e2.1,e1.1]; simp [W4],by rw [e4.2,e3.2,e2.2,e1.2]; simp⟩
theorem V5 {α:Type} {l:List α} {f:α->Bool} {i:Nat} (h:i<l.length) (d:α) (ha:l.all f=true):f (l.getD i d)=true:=by
 rw [a0r,a0b h];exact a0y.1 ha _ (a5b h)
theorem lc {α:Type} {l:List α} {f:α->List UInt8} {i:Nat} (h:i<l.length) (d:α):(l.take (i+1)).flatMap f=(l.take i).flatMap f++f (l.getD i d):=by
 rw [a2c,a0b h,a0r,a0b h,a3y];simp
def ae {α:Type} (f:α->List UInt8) (l:List α):List UInt8:=N3 l.length++l.flatMap f
def lpI (x:In) (A:IA) (cp:Nat) (j:WSt×Nat):St :=
 { n:=29,slots:=[(0,ov (.ptr 0 0)),(3,ov (.val (.pointer (some ⟨cp,0,none⟩)))),(18,ov (.row 2 A.ql x.l.length A.cl)),(19,ov (.int .i64 x.l.length)),(20,ov (.int .i64 j.2))],gs:=[],
    heap:=(wrF [] j.1).heap,next:=1,rows:=[(0,d5 bsv 0 j.1.bs j.1.q j.1.c 5 1 true),(1,d5 rlv (0,0) j.1.rs j.1.q2 j.1.c2 62 2 true),(2,C1 x A)],nr:=3,pers:=[r9 cp [fnV 192] 213],wr:=true,fx:=1 }
theorem Oo (x:In) (A:IA) (cb cp:Nat) (b:WSt) (hl:x.l.length<=1000) (hf:x.l.all N0=true) (hb:b.bs.length<=600000000):CallsK a0a 263 [.one (.ptr 0 0),.agg (inV x A),.one (.val (.pointer (some ⟨cb,0,none⟩))),.one (.val (.pointer (some ⟨cp,0,none⟩)))] (wrF [r9 cb [fnV 190] 212,r9 cp [fnV 192] 213,e8 (C1 x A)] b)
  (λb':WSt=>b'.bs=b.bs++ae eI x.l/\b'.rs=b.rs++[]) (λ_=>.tup []) (wrF []):=by
 refine a0j true Tryz.func263 fun ρ w=>V.t [Q0.e] [] trivial<|y8 0 212 cb 0 [fnV 190] 212 (.one (fnV 190))<|V.t [Q0.e] [] trivial<|V.c [] (vw x.l.length b (by omega) (by omega) (by omega)) (λb1 e1=>?_);have l1:b1.bs.length<=b.bs.length+10:=by rw [e1.1,a0c]; have:=x5 x.l.length; omega
 refine V.t [Q0.e] [] trivial<|y8 0 212 cb 0 [fnV 190] 212 (.one (fnV 190))<|V.t [Q0.e] [] trivial<|G4 18 2 (C1 x A)<|j6 [0,3,18,19,20] [false,true] (λj:WSt×Nat=>x.l.length - j.2) (lpI x A cp) (λj=>j.2<=x.l.length/\j.1.bs=b1.bs++(x.l.take j.2).flatMap eI/\j.1.rs=b.rs++[]/\j.1.bs.length<=b1.bs.length+10*j.2) (b1,0) kq
  ⟨a0s _,by simp,e1.2,a0q _⟩ (λj hj ih=>?_)
 obtain ⟨b2,i⟩:=j;obtain ⟨hi,e2,e3,l2⟩:=hj;simp only at hi e2 e3 l2;refine a1l<|V.t [Q0.e] [] trivial<|aY 21 (decide ((i:Int)<x.l.length)) kq (λB8=>?_) (λB8=>?_)
 ·have e9:i<x.l.length:=by simpa using B8
  have mC:=V5 e9 0 hf;refine V.t [Q0.e] [(0:Int)<=i/\(i:Int)<x.l.length] ⟨by omega,by omega⟩<|y8 0 213 cp 0 [fnV 192] 213 (.one (fnV 192))<|V.t [Q0.e] [] trivial<|V.c [] (pI (x.l.getD i 0) b2 mC (by omega)) (λb3 e4=>?_);have l3:(eI (x.l.getD i 0)).length<=10:=by have:=x5 (x.l.getD i 0+1); show (N3 (x.l.getD i 0+1)).length<=_; omega
  refine V.t [Q0.e] [] trivial<|a3v 20 i (by omega)<|d9 [0,3,18,19,20] [true] (ih (b3,i+1) ⟨e9,?_,?_,?_⟩ (by simp only; omega)) kq kq
  ·simp only;rw [e4.1,e2,lc e9 0,a1g]
  ·simp only;rw [e4.2,e3,a1q,a1q]
  ·simp only;rw [e4.1,a0c]; omega
 ·have n8:x.l.length=i:=by
   have:¬ i<x.l.length:=by simpa using B8
   omega
  exact V.t [Q0.e] [] trivial<|V.e b2 [] ⟨by rw [e2,e1.1,<- n8,a1o,a1g]; rfl,e3⟩
def lpT (x:In) (A:IA) (cp:Nat) (j:WSt×Nat):St :=
 { n:=29,slots:=[(0,ov (.ptr 0 0)),(3,ov (.val (.pointer (some ⟨cp,0,none⟩)))),(18,ov (.row 2 A.qy x.y.length A.cy)),(19,ov (.int .i64 x.y.length)),(20,ov (.int .i64 j.2))],gs:=[],
    heap:=(wrF [] j.1).heap,next:=1,rows:=[(0,d5 bsv 0 j.1.bs j.1.q j.1.c 5 1 true),(1,d5 rlv (0,0) j.1.rs j.1.q2 j.1.c2 62 2 true),(2,E7 x A)],nr:=3,pers:=[r9 cp [fnV 170] 218],wr:=true,fx:=1 }
theorem Oq (x:In) (A:IA) (cb cp:Nat) (b:WSt) (hl:x.y.length<=1000) (hf:x.y.all J4=true) (hb:b.bs.length<=600000000):CallsK a0a 270 [.one (.ptr 0 0),.agg (inV x A),.one (.val (.pointer (some ⟨cb,0,none⟩))),.one (.val (.pointer (some ⟨cp,0,none⟩)))] (wrF [r9 cb [fnV 195] 217,r9 cp [fnV 170] 218,e8 (E7 x A)] b)
  (λb':WSt=>b'.bs=b.bs++ae M9 x.y/\b'.rs=b.rs++[]) (λ_=>.tup []) (wrF []):=by
 refine a0j true Tryz.func270 fun ρ w=>V.t [Q1.e] [] trivial<|y8 0 217 cb 0 [fnV 195] 217 (.one (fnV 195))<|V.t [Q1.e] [] trivial<|V.c [] (vw x.y.length b (by omega) (by omega) (by omega)) (λb1 e1=>?_);have l1:b1.bs.length<=b.bs.length+10:=by rw [e1.1,a0c]; have:=x5 x.y.length; omega
 refine V.t [Q1.e] [] trivial<|y8 0 217 cb 0 [fnV 195] 217 (.one (fnV 195))<|V.t [Q1.e] [] trivial<|G4 18 2 (E7 x A)<|j6 [0,3,18,19,20] [false,true] (λj:WSt×Nat=>x.y.length - j.2) (lpT x A cp) (λj=>j.2<=x.y.length/\j.1.bs=b1.bs++(x.y.take j.2).flatMap M9/\j.1.rs=b.rs++[]/\j.1.bs.length<=b1.bs.length+300*j.2) (b1,0) kq
  ⟨a0s _,by simp,e1.2,a0q _⟩ (λj hj ih=>?_)
 obtain ⟨b2,i⟩:=j;obtain ⟨hi,e2,e3,l2⟩:=hj;simp only at hi e2 e3 l2;refine a1l<|V.t [Q1.e] [] trivial<|aY 21 (decide ((i:Int)<x.y.length)) kq (λB8=>?_) (λB8=>?_)
 ·have e9:i<x.y.length:=by simpa using B8
  have mC:=V5 e9 ty0 hf;refine V.t [Q1.e] [(0:Int)<=i/\(i:Int)<x.y.length] ⟨by omega,by omega⟩<|y8 0 218 cp 0 [fnV 170] 218 (.one (fnV 170))<|V.t [Q1.e] [] trivial<|V.c [] (pT (x.y.getD i ty0) b2 mC (by omega)) (λb3 e4=>?_);have l3:(M9 (x.y.getD i ty0)).length<=300:=by have:=cN (x.y.getD i ty0); have h5:=mC; simp only [J4,a0g,decide_eq_true_eq] at h5; omega
  refine V.t [Q1.e] [] trivial<|a3v 20 i (by omega)<|d9 [0,3,18,19,20] [true] (ih (b3,i+1) ⟨e9,?_,?_,?_⟩ (by simp only; omega)) kq kq
  ·simp only;rw [e4.1,e2,lc e9 ty0,a1g]
  ·simp only;rw [e4.2,e3,a1q,a1q]
  ·simp only;rw [e4.1,a0c]; omega
 ·have n8:x.y.length=i:=by
   have:¬ i<x.y.length:=by simpa using B8
   omega
  exact V.t [Q1.e] [] trivial<|V.e b2 [] ⟨by rw [e2,e1.1,<- n8,a1o,a1g]; rfl,e3⟩
def lpF (x:In) (A:IA) (cp:Nat) (j:WSt×Nat):St :=
 { n:=29,slots:=[(0,ov (.ptr 0 0)),(3,ov (.val (.pointer (some ⟨cp,0,none⟩)))),(18,ov (.row 2 A.qf x.f.length A.cf)),(19,ov (.int .i64 x.f.length)),(20,ov (.int .i64 j.2))],gs:=[],
    heap:=(wrF [] j.1).heap,next:=1,rows:=[(0,d5 bsv 0 j.1.bs j.1.q j.1.c 5 1 true),(1,d5 rlv (0,0) j.1.rs j.1.q2 j.1.c2 62 2 true),(2,C7 x A)],nr:=3,pers:=[r9 cp [fnV 197] 220],wr:=true,fx:=1 }
theorem Ot (x:In) (A:IA) (cb cp:Nat) (b:WSt) (hl:x.f.length<=1000) (hf:x.f.all Q9=true) (hb:b.bs.length<=600000000):CallsK a0a 276 [.one (.ptr 0 0),.agg (inV x A),.one (.val (.pointer (some ⟨cb,0,none⟩))),.one (.val (.pointer (some ⟨cp,0,none⟩)))] (wrF [r9 cb [fnV 202] 226,r9 cp [fnV 197] 220,e8 (C7 x A)] b)
  (λb':WSt=>b'.bs=b.bs++ae W4 x.f/\b'.rs=b.rs++[]) (λ_=>.tup []) (wrF []):=by
 refine a0j true Tryz.func276 fun ρ w=>V.t [Q2.e] [] trivial<|y8 0 226 cb 0 [fnV 202] 226 (.one (fnV 202))<|V.t [Q2.e] [] trivial<|V.c [] (vw x.f.length b (by omega) (by omega) (by omega)) (λb1 e1=>?_);have l1:b1.bs.length<=b.bs.length+10:=by rw [e1.1,a0c]; have:=x5 x.f.length; omega
 refine V.t [Q2.e] [] trivial<|y8 0 226 cb 0 [fnV 202] 226 (.one (fnV 202))<|V.t [Q2.e] [] trivial<|G4 18 2 (C7 x A)<|j6 [0,3,18,19,20] [false,true] (λj:WSt×Nat=>x.f.length - j.2) (lpF x A cp) (λj=>j.2<=x.f.length/\j.1.bs=b1.bs++(x.f.take j.2).flatMap W4/\j.1.rs=b.rs++[]/\j.1.bs.length<=b1.bs.length+300*j.2) (b1,0) kq
  ⟨a0s _,by simp,e1.2,a0q _⟩ (λj hj ih=>?_)
 obtain ⟨b2,i⟩:=j;obtain ⟨hi,e2,e3,l2⟩:=hj;simp only at hi e2 e3 l2;refine a1l<|V.t [Q2.e] [] trivial<|aY 21 (decide ((i:Int)<x.f.length)) kq (λB8=>?_) (λB8=>?_)
 ·have e9:i<x.f.length:=by simpa using B8
  have mC:=V5 e9 fm0 hf;refine V.t [Q2.e] [(0:Int)<=i/\(i:Int)<x.f.length] ⟨by omega,by omega⟩<|y8 0 220 cp 0 [fnV 197] 220 (.one (fnV 197))<|V.t [Q2.e] [] trivial<|V.c [] (pF (x.f.getD i fm0) b2 mC (by omega)) (λb3 e4=>?_);have l3:(W4 (x.f.getD i fm0)).length<=300:=by have:=ru (x.f.getD i fm0); have h5:=mC; simp only [Q9,a0g,decide_eq_true_eq] at h5; omega
  refine V.t [Q2.e] [] trivial<|a3v 20 i (by omega)<|d9 [0,3,18,19,20] [true] (ih (b3,i+1) ⟨e9,?_,?_,?_⟩ (by simp only; omega)) kq kq
  ·simp only;rw [e4.1,e2,lc e9 fm0,a1g]
  ·simp only;rw [e4.2,e3,a1q,a1q]
  ·simp only;rw [e4.1,a0c]; omega
 ·have n8:x.f.length=i:=by
   have:¬ i<x.f.length:=by simpa using B8
   omega
  exact V.t [Q2.e] [] trivial<|V.e b2 [] ⟨by rw [e2,e1.1,<- n8,a1o,a1g]; rfl,e3⟩
theorem mi (X:RIn) (r:RSt) (h:j8 X r):CallsK a0a 57 [.one (.ptr 0 0)] (rdF [] X r) (λr':RSt=>r'=(c7 X r).2) (λ_=>ov (.int .i64 (c7 X r).1)) (rdF [] X):=d8 (λ_=>rfl) (bT X r h)
def gI (X:RIn) (r:RSt):Int×RSt:=((c7 X r).1 - 1,(c7 X r).2)
theorem cgI (X:RIn) (r:RSt) (h:j8 X r):CallsK a0a 193 [.one (.ptr 0 0)] (rdF [] X r) (λr':RSt=>r'=(gI X r).2) (λ_=>ov (.int .i64 (gI X r).1)) (rdF [] X):=by
 obtain ⟨q1,q2⟩:I3 (c7 X r).1:=q5 (l9 h).2;refine a0j true Tryz.func193 fun ρ w=>V.q<|V.c [] (mi X r h) (λr1 e1=>?_);subst e1;exact V.q<|V.s 2 (.one (.int .i64 (a0h.wrap ((c7 X r).1 - 1)))) (.one (.int .i64 ((c7 X r).1 - 1))) (λ_=>by rw [ja (by constructor<;>omega)])<|V.e (c7 X r).2 [] rfl
def o6 {α:Type} (g:RSt->α×RSt):Nat->RSt->List α×RSt
 | 0,r=>([],r)
 | k+1,r=>((g r).1::(o6 g k (g r).2).1,(o6 g k (g r).2).2)
def s4 {α:Type} (X:RIn) (g:RSt->α×RSt) (l:List α) (r:RSt):List α×RSt :=
 if (decide ((c7 X r).1<0)||decide ((c7 X r).1>16))=true then (l,⟨(c7 X r).2.at_,true⟩) else (l++(o6 g (c7 X r).1.toNat (c7 X r).2).1,(o6 g (c7 X r).1.toNat (c7 X r).2).2)
theorem Ou (X:RIn) (r:RSt) (h:j8 X r):CallsK a0a 182 [.one (.ptr 0 0)] (rdF [] X r) (λr':RSt=>r'=(B4 X r).2) (λ_=>ov (.str (B4 X r).1)) (rdF [] X):=d8 (λ_=>rfl) (Lh X r h)
theorem cgT (X:RIn) (r:RSt) (h:j8 X r):CallsK a0a 172 [.one (.ptr 0 0)] (rdF [] X r) (λr':RSt=>r'=(E8 X r).2) (λ_=>.v (.agg (E8 X r).1.cells)) (rdF [] X):=d8 (λ_=>rfl) (Oj X r h)
def Q3 (X:RIn) (r:RSt):Fm×RSt :=
 let a:=c7 X r
 let b:=c7 X a.2
 let c:=c7 X b.2
 let d:=B4 X c.2
 (⟨a.1,b.1,c.1,d.1⟩,d.2)
theorem dV {X:RIn} {r:RSt} (h:j8 X r):j8 X (E8 X r).2:=jx (aL (l9 (l9 (l9 h).1).1).1)
theorem mW {X:RIn} {r:RSt} (h:j8 X r):j8 X (Q3 X r).2:=jx (l9 (l9 (l9 h).1).1).1
theorem cgF (X:RIn) (r:RSt) (h:j8 X r):CallsK a0a 198 [.one (.ptr 0 0)] (rdF [] X r) (λr':RSt=>r'=(Q3 X r).2) (λ_=>.v (.agg (Q3 X r).1.cells)) (rdF [] X):=by
 have h1:=(l9 h).1;have h2:=(l9 h1).1;have h3:=(l9 h2).1;refine a0j true Tryz.func198 fun ρ w=>V.q<|V.c [] (mi X r h) (λr1 e1=>?_);subst e1;refine V.q<|V.c [] (mi X _ h1) (λr2 e2=>?_);subst e2;refine V.q<|V.c [] (mi X _ h2) (λr3 e3=>?_);subst e3;refine V.q<|V.c [] (Ou X _ h3) (λr4 e4=>?_);subst e4;exact V.q<|V.e (Q3 X r).2 [] rfl
theorem DQ {X:RIn} {r:RSt} (h:j8 X r):j8 X (gI X r).2:=(l9 h).1
structure GL (α:Type) where
 r:RSt
 l:List α
 q:Option Addr
 c:Nat
 i:Nat
def xI (x:In) (j:GL Int):In:={ x with l:=j.l }
def aI (A:IA) (j:GL Int):IA:={ A with ql:=j.q,cl:=j.c }
def lgI (X:RIn) (x:In) (A:IA) (n:Int) (j:GL Int):St :=
 { n:=36,slots:=[(0,ov (.ptr 0 0)),(1,ov (.ptr 1 0)),(2,ov (.ptr 2 0)),(3,ov (.ptr 3 0)),(18,ov (.int .i64 n)),(19,ov (.int .i64 j.i))],gs:=[],
    heap:=[(0,⟨[.str X.s,.int .i64 (j.r.at_:Int),.val (.slice X.q X.n X.c),.sb j.r.bad],104,true⟩),(1,⟨inO (xI x j) (aI A j),30,true⟩),(2,⟨[fnV 190],212,false⟩),(3,⟨[fnV 193],214,false⟩)],next:=4,rows:=S4 (xI x j) (aI A j),nr:=3,pers:=[],wr:=true,fx:=2 }
theorem Ov (X:RIn) (r:RSt) (h:j8 X r) (x:In) (A:IA) (cb cg:Nat) (hl:x.l.length<=1000):CallsK a0a 264 [.one (.ptr 0 0),.one (.ptr 1 0),.one (.val (.pointer (some ⟨cb,0,none⟩))),.one (.val (.pointer (some ⟨cg,0,none⟩)))]
  (gtF [r9 cb [fnV 190] 212,r9 cg [fnV 193] 214] X r x A)
  (λy:RSt×In×IA=>y.1=(s4 X (gI X) x.l r).2/\y.2.1={ x with l:=(s4 X (gI X) x.l r).1 }) (λ_=>.tup []) (λy=>gtF [] X y.1 y.2.1 y.2.2):=by
 refine a0j true Tryz.func264 fun ρ w=>V.q<|V.c [] (mi X r h) (λr1 e1=>?_);subst e1;obtain ⟨h1,JH⟩:=l9 h;refine V.q<|f9 14 (decide ((c7 X r).1<0)||decide ((c7 X r).1>16)) (λhb=>?_) (λhb=>?_)
 ·refine V.q<|j3 0 3 ⟨[.str X.s,.int .i64 ((c7 X r).2.at_:Int),.val (.slice X.q X.n X.c),.bool true],104,true⟩ (.bool true) (.sb true) kq rfl kq (λ_=>rfl)<|dw (⟨(c7 X r).2.at_,true⟩,x,A) [] kq kq kq ?_;unfold s4;rw [if_pos hb];exact ⟨rfl,rfl⟩
 ·refine V.q<|L9 2 cb [fnV 190] 212 [r9 cg [fnV 193] 214] kq kq kq kq kq (λw h1 h2 p hp=>by
   rw [a0d] at hp;subst hp;exact aK (by decide) w h1 (h2 _ (a0d.2 rfl))) ?_
  refine L9 3 cg [fnV 193] 214 [] kq kq kq kq kq (λw h1 h2 p hp=>by cases hp) ?_;have hn:0<=(c7 X r).1/\(c7 X r).1<=16:=by
   simp only [a2r,decide_eq_false_iff_not] at hb; omega
  have iT:s4 X (gI X) x.l r=(x.l++(o6 (gI X) (c7 X r).1.toNat (c7 X r).2).1,(o6 (gI X) (c7 X r).1.toNat (c7 X r).2).2):=by unfold s4; rw [if_neg (by rw [hb]; simp)]
  refine j6 [0,1,2,3,18,19] [] (λj:GL Int=>(c7 X r).1.toNat - j.i) (lgI X x A (c7 X r).1)
   (λj=>j8 X j.r/\j.i<=(c7 X r).1.toNat/\j.l.length<=x.l.length+j.i/\j.l++(o6 (gI X) ((c7 X r).1.toNat - j.i) j.r).1=(s4 X (gI X) x.l r).1/\(o6 (gI X) ((c7 X r).1.toNat - j.i) j.r).2=(s4 X (gI X) x.l r).2)
   ⟨(c7 X r).2,x.l,A.ql,A.cl,0⟩ kq ⟨h1,a0s _,a0q _,by rw [iT]; rfl,by rw [iT]; rfl⟩ (λj hj ih=>?_)
  obtain ⟨r2,l2,q2,c2,i⟩:=j;obtain ⟨h2,hi,cZ,e1,e2⟩:=hj;simp only at h2 hi cZ e1 e2;refine a1l<|V.q<|f9 20 (decide ((i:Int)<(c7 X r).1)) (λhc=>?_) (λhc=>?_)
  ·have e9:(i:Int)<(c7 X r).1:=by simpa using hc
   have uj:i<(c7 X r).1.toNat:=by omega
   obtain ⟨m,hm⟩:∃ m,(c7 X r).1.toNat - i=m+1:=⟨(c7 X r).1.toNat - i - 1,by omega⟩;have fS:(c7 X r).1.toNat - (i+1)=m:=by omega
   rw [hm,o6] at e1 e2;refine V.q<|p9 [0] [1] 14 kq<|@a1z _ [0] [1] 14 _ _ ([Q0.e]:List (Ent a0a)) [] kq kq trivial<|@a5u _ [0] [1] 14 _ _ _ _ _ _ _ _ _ [] (cgI X r2 h2) kq kq kq (λ_=>kq) (λr3 e3=>?_);subst e3;refine @a1z _ [0] [1] 14 _ _ ([Q0.e]:List (Ent a0a)) [] kq kq trivial<|@a6s _ [0] [1] 14 _ _ _ C6 0 l2 (gI X r2).1 1 q2 c2 3 1 [.int .i64 (gI X r2).1] 8 kq kq kq (by omega) rfl (λ_ _=>kq) λq3 c3=>@a1z _ [0] [1] 14 _ _ ([Q0.e]:List (Ent a0a)) [] kq kq trivial<|@o7 _ [0] [1] 14 _ _ kq<|V.q<|a3v 19 i (by omega)<|d9 [0,1,2,3,18,19] [] (ih ⟨(gI X r2).2,l2++[(gI X r2).1],q3,c3,i+1⟩ ⟨DQ h2,by simp only; omega,by simp only [a0c,a0p,a1r]; omega,?_,?_⟩ (by simp only; omega)) kq kq
   ·simp only;rw [fS,<- e1,a1g]; rfl
   ·simp only;rw [fS]; exact e2
  ·have bA:¬ (i:Int)<(c7 X r).1:=by simpa using hc
   have h0:(c7 X r).1.toNat - i=0:=by omega
   rw [h0,o6] at e1 e2;simp only [a1q] at e1;simp only at e2;exact V.q<|V.e (r2,{ x with l:=l2 },{ A with ql:=q2,cl:=c2 }) [] ⟨e2,by rw [e1]⟩
def xT (x:In) (j:GL Ty):In:={ x with y:=j.l }
def aT (A:IA) (j:GL Ty):IA:={ A with qy:=j.q,cy:=j.c }
def lgT (X:RIn) (x:In) (A:IA) (n:Int) (j:GL Ty):St :=
 { n:=36,slots:=[(0,ov (.ptr 0 0)),(1,ov (.ptr 1 0)),(2,ov (.ptr 2 0)),(3,ov (.ptr 3 0)),(18,ov (.int .i64 n)),(19,ov (.int .i64 j.i))],gs:=[],
    heap:=[(0,⟨[.str X.s,.int .i64 (j.r.at_:Int),.val (.slice X.q X.n X.c),.sb j.r.bad],104,true⟩),(1,⟨inO (xT x j) (aT A j),30,true⟩),(2,⟨[fnV 195],217,false⟩),(3,⟨[fnV 172],219,false⟩)],next:=4,rows:=S4 (xT x j) (aT A j),nr:=3,pers:=[],wr:=true,fx:=2 }
theorem Ox (X:RIn) (r:RSt) (h:j8 X r) (x:In) (A:IA) (cb cg:Nat) (hl:x.y.length<=1000):CallsK a0a 271 [.one (.ptr 0 0),.one (.ptr 1 0),.one (.val (.pointer (some ⟨cb,0,none⟩))),.one (.val (.pointer (some ⟨cg,0,none⟩)))]
  (gtF [r9 cb [fnV 195] 217,r9 cg [fnV 172] 219] X r x A)
  (λy:RSt×In×IA=>y.1=(s4 X (E8 X) x.y r).2/\y.2.1={ x with y:=(s4 X (E8 X) x.y r).1 }) (λ_=>.tup []) (λy=>gtF [] X y.1 y.2.1 y.2.2):=by
 refine a0j true Tryz.func271 fun ρ w=>V.q<|V.c [] (mi X r h) (λr1 e1=>?_);subst e1;obtain ⟨h1,JH⟩:=l9 h;refine V.q<|f9 14 (decide ((c7 X r).1<0)||decide ((c7 X r).1>16)) (λhb=>?_) (λhb=>?_)
 ·refine V.q<|j3 0 3 ⟨[.str X.s,.int .i64 ((c7 X r).2.at_:Int),.val (.slice X.q X.n X.c),.bool true],104,true⟩ (.bool true) (.sb true) kq rfl kq (λ_=>rfl)<|dw (⟨(c7 X r).2.at_,true⟩,x,A) [] kq kq kq ?_;unfold s4;rw [if_pos hb];exact ⟨rfl,rfl⟩
 ·refine V.q<|L9 2 cb [fnV 195] 217 [r9 cg [fnV 172] 219] kq kq kq kq kq (λw h1 h2 p hp=>by
   rw [a0d] at hp;subst hp;exact aK (by decide) w h1 (h2 _ (a0d.2 rfl))) ?_
  refine L9 3 cg [fnV 172] 219 [] kq kq kq kq kq (λw h1 h2 p hp=>by cases hp) ?_;have hn:0<=(c7 X r).1/\(c7 X r).1<=16:=by
   simp only [a2r,decide_eq_false_iff_not] at hb; omega
  have iT:s4 X (E8 X) x.y r=(x.y++(o6 (E8 X) (c7 X r).1.toNat (c7 X r).2).1,(o6 (E8 X) (c7 X r).1.toNat (c7 X r).2).2):=by unfold s4; rw [if_neg (by rw [hb]; simp)]
  refine j6 [0,1,2,3,18,19] [] (λj:GL Ty=>(c7 X r).1.toNat - j.i) (lgT X x A (c7 X r).1)
   (λj=>j8 X j.r/\j.i<=(c7 X r).1.toNat/\j.l.length<=x.y.length+j.i/\j.l++(o6 (E8 X) ((c7 X r).1.toNat - j.i) j.r).1=(s4 X (E8 X) x.y r).1/\(o6 (E8 X) ((c7 X r).1.toNat - j.i) j.r).2=(s4 X (E8 X) x.y r).2)
   ⟨(c7 X r).2,x.y,A.qy,A.cy,0⟩ kq ⟨h1,a0s _,a0q _,by rw [iT]; rfl,by rw [iT]; rfl⟩ (λj hj ih=>?_)
  obtain ⟨r2,l2,q2,c2,i⟩:=j;obtain ⟨h2,hi,cZ,e1,e2⟩:=hj;simp only at h2 hi cZ e1 e2;refine a1l<|V.q<|f9 20 (decide ((i:Int)<(c7 X r).1)) (λhc=>?_) (λhc=>?_)
  ·have e9:(i:Int)<(c7 X r).1:=by simpa using hc
   have uj:i<(c7 X r).1.toNat:=by omega
   obtain ⟨m,hm⟩:∃ m,(c7 X r).1.toNat - i=m+1:=⟨(c7 X r).1.toNat - i - 1,by omega⟩;have fS:(c7 X r).1.toNat - (i+1)=m:=by omega
   rw [hm,o6] at e1 e2;refine V.q<|p9 [0] [2] 14 kq<|@a1z _ [0] [2] 14 _ _ ([Q1.e]:List (Ent a0a)) [] kq kq trivial<|@a5u _ [0] [2] 14 _ _ _ _ _ _ _ _ _ [] (cgT X r2 h2) kq kq kq (λ_=>kq) (λr3 e3=>?_);subst e3;refine @a1z _ [0] [2] 14 _ _ ([Q1.e]:List (Ent a0a)) [] kq kq trivial<|@a6s _ [0] [2] 14 _ _ _ Ty.cells ty0 l2 (E8 X r2).1 2 q2 c2 23 5 (E8 X r2).1.cells 48 kq kq kq (by omega) rfl (λ_ _=>kq) λq3 c3=>@a1z _ [0] [2] 14 _ _ ([Q1.e]:List (Ent a0a)) [] kq kq trivial<|@o7 _ [0] [2] 14 _ _ kq<|V.q<|a3v 19 i (by omega)<|d9 [0,1,2,3,18,19] [] (ih ⟨(E8 X r2).2,l2++[(E8 X r2).1],q3,c3,i+1⟩ ⟨dV h2,by simp only; omega,by simp only [a0c,a0p,a1r]; omega,?_,?_⟩ (by simp only; omega)) kq kq
   ·simp only;rw [fS,<- e1,a1g]; rfl
   ·simp only;rw [fS]; exact e2
  ·have bA:¬ (i:Int)<(c7 X r).1:=by simpa using hc
   have h0:(c7 X r).1.toNat - i=0:=by omega
   rw [h0,o6] at e1 e2;simp only [a1q] at e1;simp only at e2;exact V.q<|V.e (r2,{ x with y:=l2 },{ A with qy:=q2,cy:=c2 }) [] ⟨e2,by rw [e1]⟩
def xF (x:In) (j:GL Fm):In:={ x with f:=j.l }
def aF (A:IA) (j:GL Fm):IA:={ A with qf:=j.q,cf:=j.c }
def lgF (X:RIn) (x:In) (A:IA) (n:Int) (j:GL Fm):St :=
 { n:=36,slots:=[(0,ov (.ptr 0 0)),(1,ov (.ptr 1 0)),(2,ov (.ptr 2 0)),(3,ov (.ptr 3 0)),(18,ov (.int .i64 n)),(19,ov (.int .i64 j.i))],gs:=[],
    heap:=[(0,⟨[.str X.s,.int .i64 (j.r.at_:Int),.val (.slice X.q X.n X.c),.sb j.r.bad],104,true⟩),(1,⟨inO (xF x j) (aF A j),30,true⟩),(2,⟨[fnV 202],226,false⟩),(3,⟨[fnV 198],221,false⟩)],next:=4,rows:=S4 (xF x j) (aF A j),nr:=3,pers:=[],wr:=true,fx:=2 }
theorem Oy (X:RIn) (r:RSt) (h:j8 X r) (x:In) (A:IA) (cb cg:Nat) (hl:x.f.length<=1000):CallsK a0a 277 [.one (.ptr 0 0),.one (.ptr 1 0),.one (.val (.pointer (some ⟨cb,0,none⟩))),.one (.val (.pointer (some ⟨cg,0,none⟩)))]
  (gtF [r9 cb [fnV 202] 226,r9 cg [fnV 198] 221] X r x A)
  (λy:RSt×In×IA=>y.1=(s4 X (Q3 X) x.f r).2/\y.2.1={ x with f:=(s4 X (Q3 X) x.f r).1 }) (λ_=>.tup []) (λy=>gtF [] X y.1 y.2.1 y.2.2):=by
 refine a0j true Tryz.func277 fun ρ w=>V.q<|V.c [] (mi X r h) (λr1 e1=>?_);subst e1;obtain ⟨h1,JH⟩:=l9 h;refine V.q<|f9 14 (decide ((c7 X r).1<0)||decide ((c7 X r).1>16)) (λhb=>?_) (λhb=>?_)
 ·refine V.q<|j3 0 3 ⟨[.str X.s,.int .i64 ((c7 X r).2.at_:Int),.val (.slice X.q X.n X.c),.bool true],104,true⟩ (.bool true) (.sb true) kq rfl kq (λ_=>rfl)<|dw (⟨(c7 X r).2.at_,true⟩,x,A) [] kq kq kq ?_;unfold s4;rw [if_pos hb];exact ⟨rfl,rfl⟩
 ·refine V.q<|L9 2 cb [fnV 202] 226 [r9 cg [fnV 198] 221] kq kq kq kq kq (λw h1 h2 p hp=>by
   rw [a0d] at hp;subst hp;exact aK (by decide) w h1 (h2 _ (a0d.2 rfl))) ?_
  refine L9 3 cg [fnV 198] 221 [] kq kq kq kq kq (λw h1 h2 p hp=>by cases hp) ?_;have hn:0<=(c7 X r).1/\(c7 X r).1<=16:=by
   simp only [a2r,decide_eq_false_iff_not] at hb; omega
  have iT:s4 X (Q3 X) x.f r=(x.f++(o6 (Q3 X) (c7 X r).1.toNat (c7 X r).2).1,(o6 (Q3 X) (c7 X r).1.toNat (c7 X r).2).2):=by unfold s4; rw [if_neg (by rw [hb]; simp)]
  refine j6 [0,1,2,3,18,19] [] (λj:GL Fm=>(c7 X r).1.toNat - j.i) (lgF X x A (c7 X r).1)
   (λj=>j8 X j.r/\j.i<=(c7 X r).1.toNat/\j.l.length<=x.f.length+j.i/\j.l++(o6 (Q3 X) ((c7 X r).1.toNat - j.i) j.r).1=(s4 X (Q3 X) x.f r).1/\(o6 (Q3 X) ((c7 X r).1.toNat - j.i) j.r).2=(s4 X (Q3 X) x.f r).2)
   ⟨(c7 X r).2,x.f,A.qf,A.cf,0⟩ kq ⟨h1,a0s _,a0q _,by rw [iT]; rfl,by rw [iT]; rfl⟩ (λj hj ih=>?_)
  obtain ⟨r2,l2,q2,c2,i⟩:=j;obtain ⟨h2,hi,cZ,e1,e2⟩:=hj;simp only at h2 hi cZ e1 e2;refine a1l<|V.q<|f9 20 (decide ((i:Int)<(c7 X r).1)) (λhc=>?_) (λhc=>?_)
  ·have e9:(i:Int)<(c7 X r).1:=by simpa using hc
   have uj:i<(c7 X r).1.toNat:=by omega
   obtain ⟨m,hm⟩:∃ m,(c7 X r).1.toNat - i=m+1:=⟨(c7 X r).1.toNat - i - 1,by omega⟩;have fS:(c7 X r).1.toNat - (i+1)=m:=by omega
   rw [hm,o6] at e1 e2;refine V.q<|p9 [0] [0] 14 kq<|@a1z _ [0] [0] 14 _ _ ([Q2.e]:List (Ent a0a)) [] kq kq trivial<|@a5u _ [0] [0] 14 _ _ _ _ _ _ _ _ _ [] (cgF X r2 h2) kq kq kq (λ_=>kq) (λr3 e3=>?_);subst e3;refine @a1z _ [0] [0] 14 _ _ ([Q2.e]:List (Ent a0a)) [] kq kq trivial<|@a6s _ [0] [0] 14 _ _ _ Fm.cells fm0 l2 (Q3 X r2).1 0 q2 c2 93 4 (Q3 X r2).1.cells 40 kq kq kq (by omega) rfl (λ_ _=>kq) λq3 c3=>@a1z _ [0] [0] 14 _ _ ([Q2.e]:List (Ent a0a)) [] kq kq trivial<|@o7 _ [0] [0] 14 _ _ kq<|V.q<|a3v 19 i (by omega)<|d9 [0,1,2,3,18,19] [] (ih ⟨(Q3 X r2).2,l2++[(Q3 X r2).1],q3,c3,i+1⟩ ⟨mW h2,by simp only; omega,by simp only [a0c,a0p,a1r]; omega,?_,?_⟩ (by simp only; omega)) kq kq
   ·simp only;rw [fS,<- e1,a1g]; rfl
   ·simp only;rw [fS]; exact e2
  ·have bA:¬ (i:Int)<(c7 X r).1:=by simpa using hc
   have h0:(c7 X r).1.toNat - i=0:=by omega
   rw [h0,o6] at e1 e2;simp only [a1q] at e1;simp only at e2;exact V.q<|V.e (r2,{ x with f:=l2 },{ A with qf:=q2,cf:=c2 }) [] ⟨e2,by rw [e1]⟩
theorem LD (x y:In) (A B:IA) (cb:Nat):CallsK a0a 261 [.one (.ptr 0 0),.agg (inV x A),.one (.val (.pointer (some ⟨cb,0,none⟩)))] (mvF [r9 cb [fnV 190] 212] y B)
  (λ_:Unit=>True) (λ_=>.tup []) (λ_=>mvF [] { y with l:=x.l } { B with ql:=A.ql,cl:=A.cl }):=by
 exact a0j true Tryz.func261 fun ρ w=>L9 2 cb [fnV 190] 212 [] kq kq kq kq kq (λw h1 h2 p hp=>by cases hp)<|V.t [Q0.e] [] trivial<|V.z
theorem LE (x y:In) (A B:IA) (cb:Nat):CallsK a0a 268 [.one (.ptr 0 0),.agg (inV x A),.one (.val (.pointer (some ⟨cb,0,none⟩)))] (mvF [r9 cb [fnV 195] 217] y B)
  (λ_:Unit=>True) (λ_=>.tup []) (λ_=>mvF [] { y with y:=x.y } { B with qy:=A.qy,cy:=A.cy }):=by
 exact a0j true Tryz.func268 fun ρ w=>L9 2 cb [fnV 195] 217 [] kq kq kq kq kq (λw h1 h2 p hp=>by cases hp)<|V.t [Q1.e] [] trivial<|V.z
theorem LF (x y:In) (A B:IA) (cb:Nat):CallsK a0a 274 [.one (.ptr 0 0),.agg (inV x A),.one (.val (.pointer (some ⟨cb,0,none⟩)))] (mvF [r9 cb [fnV 202] 226] y B)
  (λ_:Unit=>True) (λ_=>.tup []) (λ_=>mvF [] { y with f:=x.f } { B with qf:=A.qf,cf:=A.cf }):=by
 exact a0j true Tryz.func274 fun ρ w=>L9 2 cb [fnV 202] 226 [] kq kq kq kq kq (λw h1 h2 p hp=>by cases hp)<|V.t [Q2.e] [] trivial<|V.z
def eqL {α:Type} (f:α->α->Bool):List α->List α->Bool
 | [],[]=>true
 | x::l,y::m=>f x y&&eqL f l m
 | _,_=>false
theorem dW {α:Type} {f:α->α->Bool}:∀ {l m:List α},l.length≠m.length->eqL f l m=false
 | [],[],h=>absurd rfl h
 | [],y::m,_=>rfl
 | x::l,[],_=>rfl
 | x::l,y::m,h=>by
  unfold eqL;rw [dW (l:=l) (m:=m) (by simpa using h),a6k]
theorem dX {α:Type} {f:α->α->Bool} (d:α):∀ {l m:List α} {i:Nat},i<l.length->i<m.length->f (l.getD i d) (m.getD i d)=false->eqL f l m=false
 | x::l,y::m,0,_,_,h=>by
  unfold eqL;have:f x y=false:=h;rw [this,a6r]
 | x::l,y::m,i+1,h1,h2,h=>by
  unfold eqL;rw [dX d (l:=l) (m:=m) (i:=i) (by simpa using h1) (by simpa using h2) (by simpa using h),a6k]
 | [],_,i,h1,_,_=>absurd h1 (a0x i)
 | _::_,[],i,_,h2,_=>absurd h2 (a0x i)
theorem aw {α:Type} {f:α->α->Bool} (d:α):∀ {l m:List α},l.length=m.length->(∀ i,i<l.length->f (l.getD i d) (m.getD i d)=true)->eqL f l m=true
 | [],[],_,_=>rfl
 | x::l,y::m,h,ha=>by
  unfold eqL;have h0:f x y=true:=ha 0 (by simp);rw [h0,a5a];exact aw d (by simpa using h) (λi hi=>by have:=ha (i+1) (by simp; omega); simpa using this)
 | [],_::_,h,_=>by simp at h
 | _::_,[],h,_=>by simp at h
def eqI (a b:Int):Bool:=a==b
def eqT (a b:Ty):Bool:=(a.k==b.k)&&((a.p==b.p)&&((a.q==b.q)&&((a.v==b.v)&&(a.s==b.s))))
def eqF (a b:Fm):Bool:=(a.k==b.k)&&((a.w==b.w)&&((a.d==b.d)&&(a.s==b.s)))
def eqR (a b:Int×Int):Bool:=(a.1==b.1)&&(a.2==b.2)
def sqI (l m:List (Int)) (q q':Option Addr) (c c':Nat) (i:Nat):St :=
 { n:=26,slots:=[(0,ov (.row 0 q l.length c)),(1,ov (.row 1 q' m.length c')),(12,ov (.int .i64 l.length)),(13,ov (.int .i64 i))],gs:=[],heap:=[],next:=0,
    rows:=[(0,d5 C6 0 l q c 3 1 false),(1,d5 C6 0 m q' c' 3 1 false)],nr:=2,pers:=[],wr:=true,fx:=0 }
theorem Oz (l m:List (Int)) (q q':Option Addr) (c c':Nat) (hl:l.length<=100000):CallsK a0a 50 [.one (.val (.slice q l.length c)),.one (.val (.slice q' m.length c'))]
  (z8 [e8 (d5 C6 0 l q c 3 1 false),e8 (d5 C6 0 m q' c' 3 1 false)]) (λ_:Unit=>True) (λ_=>ov (.sb (eqL eqI l m))) (λ_=>noF):=by
 refine a0j true Tryz.func50 fun ρ w=>G4 0 0 (d5 C6 0 l q c 3 1 false)<|G4 1 1 (d5 C6 0 m q' c' 3 1 false)<|V.q<|f9 10 (!((l.length:Int)==m.length)) (λhb=>?_) (λhb=>?_)
 ·have E0:l.length≠m.length:=λe=>by rw [e] at hb; simp at hb
  refine V.q ?_;rw [dW E0];exact a4o 4 false<|V.z
 ·have n8:l.length=m.length:=by
   simp at hb; omega
  refine V.q<|j6 [0,1,12,13] [] (λi:Nat=>l.length - i) (sqI l m q q' c c') (λi=>i<=l.length/\∀ j,j<i->eqI (l.getD j 0) (m.getD j 0)=true) 0 kq ⟨a0s _,λj hj=>absurd hj (a0x j)⟩ (λi hi ih=>?_);obtain ⟨hi,q7⟩:=hi;refine a1l<|V.q<|f9 14 (decide ((i:Int)<l.length)) (λhc=>?_) (λhc=>?_)
  ·have e9:i<l.length:=by simpa using hc
   refine V.t [] [(0:Int)<=i/\(i:Int)<l.length,(0:Int)<=i/\(i:Int)<m.length] ⟨⟨by omega,by omega⟩,⟨by omega,by omega⟩⟩<|f9 24 (!eqI (l.getD i 0) (m.getD i 0)) (λhf=>?_) (λhf=>?_)
   ·refine V.q ?_;rw [dX 0 e9 (by omega) (by simpa using hf)];exact a4o 4 false<|V.z
   ·refine V.q<|a3v 13 i (by omega)<|d9 [0,1,12,13] [] (ih (i+1) ⟨e9,λj hj=>?_⟩ (by omega)) kq kq;by_cases e:j=i
    ·subst e; simpa using hf
    ·exact q7 j (by omega)
  ·have B0:l.length=i:=by
    have:¬ i<l.length:=by simpa using hc
    omega
   refine V.q ?_;rw [aw 0 n8 (λj hj=>q7 j (by omega))];exact a4o 4 true<|V.z
def sqT (l m:List (Ty)) (q q':Option Addr) (c c':Nat) (i:Nat):St :=
 { n:=26,slots:=[(0,ov (.row 0 q l.length c)),(1,ov (.row 1 q' m.length c')),(12,ov (.int .i64 l.length)),(13,ov (.int .i64 i))],gs:=[],heap:=[],next:=0,
    rows:=[(0,d5 Ty.cells ty0 l q c 23 5 false),(1,d5 Ty.cells ty0 m q' c' 23 5 false)],nr:=2,pers:=[],wr:=true,fx:=0 }
theorem RT (l m:List (Ty)) (q q':Option Addr) (c c':Nat) (hl:l.length<=100000):CallsK a0a 236 [.one (.val (.slice q l.length c)),.one (.val (.slice q' m.length c'))]
  (z8 [e8 (d5 Ty.cells ty0 l q c 23 5 false),e8 (d5 Ty.cells ty0 m q' c' 23 5 false)]) (λ_:Unit=>True) (λ_=>ov (.sb (eqL eqT l m))) (λ_=>noF):=by
 refine a0j true Tryz.func236 fun ρ w=>G4 0 0 (d5 Ty.cells ty0 l q c 23 5 false)<|G4 1 1 (d5 Ty.cells ty0 m q' c' 23 5 false)<|V.q<|f9 10 (!((l.length:Int)==m.length)) (λhb=>?_) (λhb=>?_)
 ·have E0:l.length≠m.length:=λe=>by rw [e] at hb; simp at hb
  refine V.q ?_;rw [dW E0];exact a4o 4 false<|V.z
 ·have n8:l.length=m.length:=by
   simp at hb; omega
  refine V.q<|j6 [0,1,12,13] [] (λi:Nat=>l.length - i) (sqT l m q q' c c') (λi=>i<=l.length/\∀ j,j<i->eqT (l.getD j ty0) (m.getD j ty0)=true) 0 kq ⟨a0s _,λj hj=>absurd hj (a0x j)⟩ (λi hi ih=>?_);obtain ⟨hi,q7⟩:=hi;refine a1l<|V.q<|f9 14 (decide ((i:Int)<l.length)) (λhc=>?_) (λhc=>?_)
  ·have e9:i<l.length:=by simpa using hc
   refine V.t [] [(0:Int)<=i/\(i:Int)<l.length,(0:Int)<=i/\(i:Int)<m.length] ⟨⟨by omega,by omega⟩,⟨by omega,by omega⟩⟩<|f9 24 (!eqT (l.getD i ty0) (m.getD i ty0)) (λhf=>?_) (λhf=>?_)
   ·refine V.q ?_;rw [dX ty0 e9 (by omega) (by simpa using hf)];exact a4o 4 false<|V.z
   ·refine V.q<|a3v 13 i (by omega)<|d9 [0,1,12,13] [] (ih (i+1) ⟨e9,λj hj=>?_⟩ (by omega)) kq kq;by_cases e:j=i
    ·subst e; simpa using hf
    ·exact q7 j (by omega)
  ·have B0:l.length=i:=by
    have:¬ i<l.length:=by simpa using hc
    omega
   refine V.q ?_;rw [aw ty0 n8 (λj hj=>q7 j (by omega))];exact a4o 4 true<|V.z
def sqF (l m:List (Fm)) (q q':Option Addr) (c c':Nat) (i:Nat):St :=
 { n:=26,slots:=[(0,ov (.row 0 q l.length c)),(1,ov (.row 1 q' m.length c')),(12,ov (.int .i64 l.length)),(13,ov (.int .i64 i))],gs:=[],heap:=[],next:=0,
    rows:=[(0,d5 Fm.cells fm0 l q c 93 4 false),(1,d5 Fm.cells fm0 m q' c' 93 4 false)],nr:=2,pers:=[],wr:=true,fx:=0 }
theorem RU (l m:List (Fm)) (q q':Option Addr) (c c':Nat) (hl:l.length<=100000):CallsK a0a 235 [.one (.val (.slice q l.length c)),.one (.val (.slice q' m.length c'))]
  (z8 [e8 (d5 Fm.cells fm0 l q c 93 4 false),e8 (d5 Fm.cells fm0 m q' c' 93 4 false)]) (λ_:Unit=>True) (λ_=>ov (.sb (eqL eqF l m))) (λ_=>noF):=by
 refine a0j true Tryz.func235 fun ρ w=>G4 0 0 (d5 Fm.cells fm0 l q c 93 4 false)<|G4 1 1 (d5 Fm.cells fm0 m q' c' 93 4 false)<|V.q<|f9 10 (!((l.length:Int)==m.length)) (λhb=>?_) (λhb=>?_)
 ·have E0:l.length≠m.length:=λe=>by rw [e] at hb; simp at hb
  refine V.q ?_;rw [dW E0];exact a4o 4 false<|V.z
 ·have n8:l.length=m.length:=by
   simp at hb; omega
  refine V.q<|j6 [0,1,12,13] [] (λi:Nat=>l.length - i) (sqF l m q q' c c') (λi=>i<=l.length/\∀ j,j<i->eqF (l.getD j fm0) (m.getD j fm0)=true) 0 kq ⟨a0s _,λj hj=>absurd hj (a0x j)⟩ (λi hi ih=>?_);obtain ⟨hi,q7⟩:=hi;refine a1l<|V.q<|f9 14 (decide ((i:Int)<l.length)) (λhc=>?_) (λhc=>?_)
  ·have e9:i<l.length:=by simpa using hc
   refine V.t [] [(0:Int)<=i/\(i:Int)<l.length,(0:Int)<=i/\(i:Int)<m.length] ⟨⟨by omega,by omega⟩,⟨by omega,by omega⟩⟩<|f9 24 (!eqF (l.getD i fm0) (m.getD i fm0)) (λhf=>?_) (λhf=>?_)
   ·refine V.q ?_;rw [dX fm0 e9 (by omega) (by simpa using hf)];exact a4o 4 false<|V.z
   ·refine V.q<|a3v 13 i (by omega)<|d9 [0,1,12,13] [] (ih (i+1) ⟨e9,λj hj=>?_⟩ (by omega)) kq kq;by_cases e:j=i
    ·subst e; simpa using hf
    ·exact q7 j (by omega)
  ·have B0:l.length=i:=by
    have:¬ i<l.length:=by simpa using hc
    omega
   refine V.q ?_;rw [aw fm0 n8 (λj hj=>q7 j (by omega))];exact a4o 4 true<|V.z
def sqR (l m:List (Int×Int)) (q q':Option Addr) (c c':Nat) (i:Nat):St :=
 { n:=26,slots:=[(0,ov (.row 0 q l.length c)),(1,ov (.row 1 q' m.length c')),(12,ov (.int .i64 l.length)),(13,ov (.int .i64 i))],gs:=[],heap:=[],next:=0,
    rows:=[(0,d5 rlv (0,0) l q c 62 2 false),(1,d5 rlv (0,0) m q' c' 62 2 false)],nr:=2,pers:=[],wr:=true,fx:=0 }
theorem LG (l m:List (Int×Int)) (q q':Option Addr) (c c':Nat) (hl:l.length<=1000000000):CallsK a0a 36 [.one (.val (.slice q l.length c)),.one (.val (.slice q' m.length c'))]
  (z8 [e8 (d5 rlv (0,0) l q c 62 2 false),e8 (d5 rlv (0,0) m q' c' 62 2 false)]) (λ_:Unit=>True) (λ_=>ov (.sb (eqL eqR l m))) (λ_=>noF):=by
 refine a0j true Tryz.func36 fun ρ w=>G4 0 0 (d5 rlv (0,0) l q c 62 2 false)<|G4 1 1 (d5 rlv (0,0) m q' c' 62 2 false)<|V.q<|f9 10 (!((l.length:Int)==m.length)) (λhb=>?_) (λhb=>?_)
 ·have E0:l.length≠m.length:=λe=>by rw [e] at hb; simp at hb
  refine V.q ?_;rw [dW E0];exact a4o 4 false<|V.z
 ·have n8:l.length=m.length:=by
   simp at hb; omega
  refine V.q<|j6 [0,1,12,13] [] (λi:Nat=>l.length - i) (sqR l m q q' c c') (λi=>i<=l.length/\∀ j,j<i->eqR (l.getD j (0,0)) (m.getD j (0,0))=true) 0 kq ⟨a0s _,λj hj=>absurd hj (a0x j)⟩ (λi hi ih=>?_);obtain ⟨hi,q7⟩:=hi;refine a1l<|V.q<|f9 14 (decide ((i:Int)<l.length)) (λhc=>?_) (λhc=>?_)
  ·have e9:i<l.length:=by simpa using hc
   refine V.t [] [(0:Int)<=i/\(i:Int)<l.length,(0:Int)<=i/\(i:Int)<m.length] ⟨⟨by omega,by omega⟩,⟨by omega,by omega⟩⟩<|f9 24 (!eqR (l.getD i (0,0)) (m.getD i (0,0))) (λhf=>?_) (λhf=>?_)
   ·refine V.q ?_;rw [dX (0,0) e9 (by omega) (by simpa using hf)];exact a4o 4 false<|V.z
   ·refine V.q<|a3v 13 i (by omega)<|d9 [0,1,12,13] [] (ih (i+1) ⟨e9,λj hj=>?_⟩ (by omega)) kq kq;by_cases e:j=i
    ·subst e; simpa using hf
    ·exact q7 j (by omega)
  ·have B0:l.length=i:=by
    have:¬ i<l.length:=by simpa using hc
    omega
   refine V.q ?_;rw [aw (0,0) n8 (λj hj=>q7 j (by omega))];exact a4o 4 true<|V.z
section
variable (x y:In) (A B:IA)
def RW (h:x.l.length<=100000):Con a0a:=R7 50 [e8 (C1 x A),e8 (C1 y B)] [.one (.val (.slice A.ql x.l.length A.cl)),.one (.val (.slice B.ql y.l.length B.cl))] (.v (.one (.sb (eqL eqI x.l y.l))))
 (CallsK.gives (Oz x.l y.l A.ql B.ql A.cl B.cl h) ⟨rfl,rfl,rfl⟩ (λ_ _=>rfl))
def RX (h:x.y.length<=100000):Con a0a:=R7 236 [e8 (E7 x A),e8 (E7 y B)] [.one (.val (.slice A.qy x.y.length A.cy)),.one (.val (.slice B.qy y.y.length B.cy))] (.v (.one (.sb (eqL eqT x.y y.y))))
 (CallsK.gives (RT x.y y.y A.qy B.qy A.cy B.cy h) ⟨rfl,rfl,rfl⟩ (λ_ _=>rfl))
def RY (h:x.f.length<=100000):Con a0a:=R7 235 [e8 (C7 x A),e8 (C7 y B)] [.one (.val (.slice A.qf x.f.length A.cf)),.one (.val (.slice B.qf y.f.length B.cf))] (.v (.one (.sb (eqL eqF x.f y.f))))
 (CallsK.gives (RU x.f y.f A.qf B.qf A.cf B.cf h) ⟨rfl,rfl,rfl⟩ (λ_ _=>rfl))
def lsP:List m6:=[e8 (C7 x A),e8 (C1 x A),e8 (E7 x A)]
def TS6 (hf:x.f.length<=100000) (hl:x.l.length<=100000) (hy:x.y.length<=100000):List (Ent a0a):=[⟨RY x y A B hf,[5,2]⟩,⟨RW x y A B hl,[4,1]⟩,⟨RX x y A B hy,[3,0]⟩]
def OA (hf:x.f.length<=100000) (hl:x.l.length<=100000) (hy:x.y.length<=100000):Con a0a:=r6 Tryz.func117 true (TS6 x y A B hf hl hy) (lsP x A++lsP y B) kq kq
end
def oV (x y:In):Bool:=x.op==y.op&&x.d==y.d&&x.a==y.a&&x.b==y.b&&eqT x.t y.t&&eqT x.u y.u&&eqT x.w y.w&&x.n==y.n&&x.m==y.m&&x.p==y.p&&(x.vn==y.vn&&x.vs==y.vs)
def Z3 (x y:In):Bool:=oV x y&&eqL eqF x.f y.f&&eqL eqI x.l y.l&&eqL eqT x.y y.y&&x.size==y.size&&x.range==y.range
def OB (x y:In) (A B:IA) (hf:x.f.length<=100000) (hl:x.l.length<=100000) (hy:x.y.length<=100000):Con a0a :=
 R7 117 (lsP x A++lsP y B) [.agg (inV x A),.agg (inV y B)] (.v (.one (.sb (Z3 x y)))) (fun ρ w hp =>
  (OA x y A B hf hl hy).ok [.agg (inV x A),.agg (inV y B)] (.v (.one (.sb (Z3 x y))))
   [oV x y=true->([.one (.val (.slice A.qf x.f.length A.cf)),.one (.val (.slice B.qf y.f.length B.cf))]:List CV)=[.one (.val (.slice A.qf x.f.length A.cf)),.one (.val (.slice B.qf y.f.length B.cf))],
       (oV x y&&eqL eqF x.f y.f)=true->([.one (.val (.slice A.ql x.l.length A.cl)),.one (.val (.slice B.ql y.l.length B.cl))]:List CV)=[.one (.val (.slice A.ql x.l.length A.cl)),.one (.val (.slice B.ql y.l.length B.cl))],
       (oV x y&&eqL eqF x.f y.f&&eqL eqI x.l y.l)=true->([.one (.val (.slice A.qy x.y.length A.cy)),.one (.val (.slice B.qy y.y.length B.cy))]:List CV)=[.one (.val (.slice A.qy x.y.length A.cy)),.one (.val (.slice B.qy y.y.length B.cy))]]
   kq (by
    intro p hp;rcases a0k.1 hp with rfl | hp
    ·exact λ_=>rfl
    ·rcases a0k.1 hp with rfl | hp
     ·exact λ_=>rfl
     ·rw [a0d.1 hp]; exact λ_=>rfl) ρ w hp (by
    intro z hz y' AA;rcases a0k.1 hz with rfl | hz
    ·simp only [CV.svs,inV,inC,a0k,a1a,or_false] at AA;rcases AA with rfl|rfl|rfl|rfl|rfl|rfl|rfl|rfl|rfl|rfl|rfl|rfl|rfl|rfl|rfl|rfl|rfl|rfl|rfl|rfl|rfl|rfl|rfl|rfl|rfl|rfl|rfl|rfl|rfl<;>trivial
    ·rw [a0d.1 hz] at AA;simp only [CV.svs,inV,inC,a0k,a1a,or_false] at AA;rcases AA with rfl|rfl|rfl|rfl|rfl|rfl|rfl|rfl|rfl|rfl|rfl|rfl|rfl|rfl|rfl|rfl|rfl|rfl|rfl|rfl|rfl|rfl|rfl|rfl|rfl|rfl|rfl|rfl|rfl<;>trivial))
end Go.Proofs
end
