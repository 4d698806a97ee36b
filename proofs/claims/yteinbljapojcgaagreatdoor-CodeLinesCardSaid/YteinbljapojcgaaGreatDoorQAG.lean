/- A symbolic run of the program that Lean checks, and what the functions of the program come to by it: part 7 of 12. -/
import Derived.Lib.AtoiTie
import Derived.Lib.ItoaLen
import Derived.Lib.Join
import Derived.Shelf.Lays
import Derived.Shelf.LaysC
import Derived.Ground.Names2Prog
import Derived.Shelf.Strings.OnBuilder
import Derived.Shelf.Strconv.ToError
import Derived.Test.YteinbljapojcgaaGreatDoorProg
import Derived.Test.YteinbljapojcgaaGreatDoorQAF
set_option linter.unusedVariables false
section
namespace Go.Proofs
open Go
theorem decFrom_app (m:List UInt8):∀ (l:List UInt8) (acc:Nat),Lib.decFrom acc (l++m)=(Lib.decFrom acc l).bind fun a=>Lib.decFrom a m
 | [],acc=>rfl
 | b::l,acc=>by
  simp only [List.cons_append,Lib.decFrom];cases Lib.digitVal b with
  | none=>rfl
  | some d=>exact decFrom_app m l _
theorem digVal_of {d:Nat} (h:d<10):Lib.digitVal (UInt8.ofNat (48+d))=some d:=by
 unfold Lib.digitVal;have e:(UInt8.ofNat (48+d)).toNat=48+d:=by simp; omega
 rw [e,if_pos (by omega)];simp
theorem dec_digits (u:Nat):Lib.decFrom 0 (Lib.decDigits u)=some u:=by
 induction u using Nat.strongRecOn with
 | _ u ih =>
  by_cases h:u<10
  ·rw [Lib.decDigits,dif_pos h];simp only [Lib.decFrom,digVal_of h];simp
  ·rw [Lib.decDigits,dif_neg h,decFrom_app,ih (u / 10) (by omega)];simp only [Option.bind_some,Lib.decFrom,digVal_of (show u % 10<10 by omega)];congr 1; omega
theorem digits_ne (u:Nat):Lib.decDigits u≠[]:=by
 intro h;have h1:=Lib.decDigits_length u;have h2:=Lib.nDigits_pos u;rw [h] at h1;simp at h1;omega
theorem digits_dig (u:Nat):∀ b∈Lib.decDigits u,48≤b.toNat∧b.toNat≤57:=by
 intro b hb;obtain ⟨k,hk⟩:=List.getElem?_of_mem hb;obtain ⟨d,hd⟩:=Lib.digit_of_decFrom _ 0 u (dec_digits u) k b hk;have:=Lib.digitVal_eq hd;omega
theorem nDigits_le (k:Nat):∀ u:Nat,u<10 ^ (k+1)→Lib.nDigits u≤k+1:=by
 induction k with
 | zero=>intro u h; rw [Lib.nDigits_small (by simpa using h)]; exact Nat.le_refl _
 | succ k ih =>
  intro u h;by_cases hs:u<10
  ·rw [Lib.nDigits_small hs]; omega
  ·rw [Lib.nDigits_big hs];have:=ih (u / 10) (by rw [Nat.pow_succ] at h; omega);omega
theorem digits_len {u:Nat} (h:u<10000000000):(Lib.decDigits u).length≤10:=by
 rw [Lib.decDigits_length];exact nDigits_le 9 u (by simpa using h)
theorem decNat_digits (u:Nat):Lib.decNat (Lib.decDigits u)=some u:=by
 unfold Lib.decNat;cases h:Lib.decDigits u with
 | nil=>exact absurd h (digits_ne u)
 | cons b l=>rw [← h,dec_digits]; simp [h]
theorem digits_head (u:Nat):∃ b l,Lib.decDigits u=b::l∧48≤b.toNat∧b.toNat≤57:=by
 cases h:Lib.decDigits u with
 | nil=>exact absurd h (digits_ne u)
 | cons b l=>exact ⟨b,l,rfl,digits_dig u b (by rw [h]; exact List.mem_cons_self ..)⟩
theorem itoa_bytes (n:Int):∀ b∈Lib.itoa n,b=45∨(48≤b.toNat∧b.toNat≤57):=by
 intro b hb;unfold Lib.itoa at hb;split at hb
 ·rcases List.mem_cons.1 hb with rfl | hb
  ·exact .inl rfl
  ·exact .inr (digits_dig _ b hb)
 ·exact .inr (digits_dig _ b hb)
theorem itoa_ne (n:Int):Lib.itoa n≠[]:=by
 unfold Lib.itoa;split
 ·exact List.cons_ne_nil _ _
 ·exact digits_ne _
theorem atoi_itoa {n:Int} (h:-4294967296≤n∧n≤4294967296):Lib.atoiAll (Lib.itoa n)=.ok n:=by
 by_cases hn:n<0
 ·have e:Lib.itoa n=45::Lib.decDigits n.natAbs:=by unfold Lib.itoa; rw [if_pos hn]
  have hl:=digits_len (u:=n.natAbs) (by omega);rw [e,Lib.atoiAll_short _ (by simp; omega)];have e2:Lib.atoi (45::Lib.decDigits n.natAbs)=(Lib.decNat (Lib.decDigits n.natAbs)).map fun (m:Nat)=>-(m:Int):=rfl;rw [e2,decNat_digits];simp only [Option.map_some,Lib.NumEnd.ofOption];congr 1; omega
 ·have e:Lib.itoa n=Lib.decDigits n.toNat:=by unfold Lib.itoa; rw [if_neg hn]
  have hl:=digits_len (u:=n.toNat) (by omega);obtain ⟨b,l,hd,hb⟩:=digits_head n.toNat;rw [e,Lib.atoiAll_short _ (by omega)];have hv:=decNat_digits n.toNat;rw [hd] at hv ⊢;unfold Lib.atoi;have h45:(b==45)=false:=by
   rw [beq_eq_false_iff_ne];rintro rfl;simp at hb
  have h43:(b==43)=false:=by
   rw [beq_eq_false_iff_ne];rintro rfl;simp at hb
  simp only [h45,h43,hv,Bool.false_eq_true,if_false,Option.map_some,Lib.NumEnd.ofOption];congr 1; omega
def rIntL:Nat→List UInt8→Nat→Option Nat
 | 0,_,n=>some n
 | _+1,[],n=>some n
 | k+1,c::r,n=>if c.toNat<48∨57<c.toNat then none else rIntL k r (10*n+(c.toNat - 48))
def rInt (s:List UInt8):Int:=if s.head?=some 45 then (match rIntL 11 s.tail 0 with
  | some n=>-(n:Int)
  | none=>0) else match rIntL 11 s 0 with
  | some n=>(n:Int)
  | none=>0
theorem rIntL_dec:∀ (k:Nat) (l:List UInt8) (n:Nat),l.length≤k→rIntL k l n=Lib.decFrom n l
 | 0,[],_,_=>rfl
 | 0,c::r,n,h=>by simp at h
 | k+1,[],_,_=>rfl
 | k+1,c::r,n,h=>by
  simp only [rIntL,Lib.decFrom,Lib.digitVal];by_cases hc:48≤c.toNat∧c.toNat≤57
  ·rw [if_neg (by omega),if_pos hc];simp only;rw [rIntL_dec k r _ (by simp at h; omega),Nat.mul_comm]
  ·rw [if_pos (by omega),if_neg hc]
theorem rInt_itoa {n:Int} (h:-4294967296≤n∧n≤4294967296):rInt (Lib.itoa n)=n:=by
 by_cases hn:n<0
 ·have e:Lib.itoa n=45::Lib.decDigits n.natAbs:=by unfold Lib.itoa; rw [if_pos hn]
  have hl:=digits_len (u:=n.natAbs) (by omega);rw [e];unfold rInt;simp only [List.head?_cons,List.tail_cons,if_true,rIntL_dec 11 _ 0 (show (Lib.decDigits n.natAbs).length≤11 by omega),dec_digits];omega
 ·have e:Lib.itoa n=Lib.decDigits n.toNat:=by unfold Lib.itoa; rw [if_neg hn]
  have hl:=digits_len (u:=n.toNat) (by omega);obtain ⟨b,l,hd,hb⟩:=digits_head n.toNat;rw [e];unfold rInt;rw [if_neg (by
   rw [hd];intro h2;simp only [List.head?_cons,Option.some.injEq] at h2;subst h2;simp at hb),rIntL_dec 11 _ 0 (by omega),dec_digits]
  simp only;omega
def hexD (v:Nat):UInt8:=([48,49,50,51,52,53,54,55,56,57,97,98,99,100,101,102]:List UInt8).getD v 0
def hexL (s:List UInt8):List UInt8:=s.flatMap fun c=>[hexD (c.toNat / 16),hexD (c.toNat % 16)]
def hexT (s:List UInt8):List UInt8:=61::hexL s
def hexV (c:UInt8):Option Nat:=if 48≤c.toNat∧c.toNat≤57 then some (c.toNat - 48) else if 97≤c.toNat∧c.toNat≤102 then some (c.toNat - 87) else none
def unhL:List UInt8→Option (List UInt8)
 | []=>some []
 | [_]=>none
 | a::b::l=>match hexV a,hexV b with
  | some x,some y=>(unhL l).map (UInt8.ofNat (16*x+y)::·)
  | _,_=>none
theorem hexV_D_fin:∀ i:Fin 16,hexV (hexD i.val)=some i.val:=by decide +kernel
theorem hexV_D {v:Nat} (h:v<16):hexV (hexD v)=some v:=hexV_D_fin ⟨v,h⟩
theorem hexD_V {c:UInt8} {v:Nat} (h:hexV c=some v):v<16∧hexD v=c:=by
 have h2:∀ n:Fin 256,∀ v,hexV (UInt8.ofNat n.val)=some v→v<16∧hexD v=UInt8.ofNat n.val:=by
  intro n v hv;have h3:∀ n:Fin 256,(match hexV (UInt8.ofNat n.val) with | some v=>decide (v<16)&&hexD v==UInt8.ofNat n.val | none=>true)=true:=by decide +kernel
  have:=h3 n;rw [hv] at this;simpa using this
 have:=h2 ⟨c.toNat,c.toNat_lt⟩ v (by simpa using h);simpa using this
theorem hexL_cons (c:UInt8) (s:List UInt8):hexL (c::s)=hexD (c.toNat / 16)::hexD (c.toNat % 16)::hexL s:=rfl
theorem unh_hex:∀ s:List UInt8,unhL (hexL s)=some s
 | []=>rfl
 | c::s=>by
  have hc:=c.toNat_lt;rw [hexL_cons,unhL,hexV_D (show c.toNat / 16<16 by omega),hexV_D (show c.toNat % 16<16 by omega),unh_hex s];simp only [Option.map_some];rw [show 16*(c.toNat / 16)+c.toNat % 16=c.toNat by omega];simp
theorem hex_unh:∀ (t s:List UInt8),unhL t=some s→hexL s=t
 | [],s,h=>by simp only [unhL,Option.some.injEq] at h; subst h; rfl
 | [a],s,h=>by simp [unhL] at h
 | a::b::l,s,h=>by
  rw [unhL] at h;cases ha:hexV a with
  | none=>rw [ha] at h; simp at h
  | some x =>
   cases hb:hexV b with
   | none=>rw [ha,hb] at h; simp at h
   | some y =>
    rw [ha,hb] at h;cases hl:unhL l with
    | none=>rw [hl] at h; simp at h
    | some r =>
     rw [hl] at h;simp only [Option.map_some,Option.some.injEq] at h;subst h;obtain ⟨x1,x2⟩:=hexD_V ha;obtain ⟨y1,y2⟩:=hexD_V hb;have e:(UInt8.ofNat (16*x+y)).toNat=16*x+y:=by simp; omega
     rw [hexL_cons,e,show (16*x+y) / 16=x by omega,show (16*x+y) % 16=y by omega,x2,y2,hex_unh l r hl]
def digR (c:UInt8):UInt8:=if c≥97 then c - 97+10 else c - 48
def unhR:List UInt8→List UInt8
 | a::b::l=>(digR a*16+digR b)::unhR l
 | _=>[]
theorem digR_two:∀ n:Fin 256,digR (hexD (n.val / 16))*16+digR (hexD (n.val % 16))=UInt8.ofNat n.val:=by decide +kernel
theorem unhR_hex:∀ s:List UInt8,unhR (hexL s)=s
 | []=>rfl
 | c::s=>by
  rw [hexL_cons,unhR,unhR_hex s];have:=digR_two ⟨c.toNat,c.toNat_lt⟩;simp only at this;rw [this];simp
theorem hexL_len:∀ s:List UInt8,(hexL s).length=2*s.length
 | []=>rfl
 | c::s=>by rw [hexL_cons,List.length_cons,List.length_cons,hexL_len s,List.length_cons]; omega
theorem hexD_byte_fin:∀ i:Fin 16,(48≤(hexD i.val).toNat∧(hexD i.val).toNat≤57)∨(97≤(hexD i.val).toNat∧(hexD i.val).toNat≤102):=by decide +kernel
theorem hexL_bytes:∀ (s:List UInt8),∀ b∈hexL s,(48≤b.toNat∧b.toNat≤57)∨(97≤b.toNat∧b.toNat≤102)
 | [],b,hb=>by cases hb
 | c::s,b,hb=>by
  rw [hexL_cons] at hb;have hc:=c.toNat_lt;rcases List.mem_cons.1 hb with rfl | hb
  ·exact hexD_byte_fin ⟨c.toNat / 16,by omega⟩
  rcases List.mem_cons.1 hb with rfl | hb
  ·exact hexD_byte_fin ⟨c.toNat % 16,by omega⟩
  exact hexL_bytes s b hb
end Go.Proofs
end
section
namespace Go.Proofs
open Go Go.SX
set_option maxRecDepth 10000
def _root_.Go.SX.Con.p1 {P:Program} (f off:Nat) (ok:∀ g o w,g<w.heap.size→Calls P f #[.pointer (some ⟨g,o,none⟩)] w (Gives (.pointer (some ⟨g,o+off,none⟩)) w)):Con P where
 f:=f
 need:=[]
 fn:=fun xs=>match xs with
  | [.one (.ptr b o)]=>some (.v (.one (.ptr b (o+off))),[])
  | _=>none
 ok:=by
  intro xs v ob h _ ρ w _ hlt;split at h
  ·rename_i b o;simp only [Option.some.injEq,Prod.mk.injEq] at h;obtain ⟨rfl,rfl⟩:=h;exact ok (ρ b) o w (hlt _ (List.mem_singleton.2 rfl) _ (List.mem_singleton.2 rfl))
  ·cases h
noncomputable def selC (s:Sel):Con Tryz.prog:=Con.p1 s.fn s.off (sel_calls s)
def regN (s:List UInt8):Int:=bif s==[45] then -1 else decN (Lib.trimPrefix s [114])
def regB (s:List UInt8):Bool:=bif s==[45] then true else decB (Lib.trimPrefix s [114])&&decide (decN (Lib.trimPrefix s [114])≥0)&&(((s.getD 0 0).toNat:Int)==114)
noncomputable def sRegOf:Con Tryz.prog:=aRegOf.as (fun xs=>match xs with
  | [.one (.str s)]=>some (.tup [.one (.int .i64 (regN s)),.one (.sb (regB s))],[s.length≤281474976710656])
  | _=>none) (by
 intro xs v ob h hob;split at h
 ·rename_i s;simp only [Option.some.injEq,Prod.mk.injEq] at h;obtain ⟨rfl,rfl⟩:=h;have hs:=hob _ (List.mem_singleton.2 rfl);have hl:(Lib.trimPrefix s [114]).length≤281474976710656:=by
   unfold Lib.trimPrefix;split
   ·simp; omega
   ·exact hs
  refine ⟨.tup [.one (.int .i64 (regN s)),.one (.sb (regB s))],[(s==[45])=false→(Lib.trimPrefix s [114]).length≤281474976710656,(s==[45])=false→(decB (Lib.trimPrefix s [114])&&decide (decN (Lib.trimPrefix s [114])≥0))=true→(0:Int)≤0∧(0:Int)<(s.length:Int)],kq,?_,fun _=>rfl⟩;intro p hp;rcases List.mem_cons.1 hp with rfl | hp
  ·exact fun _=>hl
  ·rw [List.mem_singleton.1 hp];intro _ hb;refine ⟨Int.le_refl _,?_⟩;cases s with
   | nil=>cases hb
   | cons x l=>simp
 ·cases h)
noncomputable def TP (s:Sel):List (Ent Tryz.prog):=[(selC s).e,⟨sDecimal,[0]⟩,⟨sRegOf,[0]⟩,sCutPrefix.e]
set_option maxHeartbeats 2000000 in
theorem numParse (s:Sel) (l:List UInt8) (x:In) (A:IA) (cb:Nat) (hl:l.length≤281474976710656):CallsK Tryz.prog 164 [.one (.str l),.one (.ptr 0 0),.one (.val (.pointer (some ⟨cb,0,none⟩)))] (psF [s.blk cb,glbP] x A)
  (fun _:Unit=>True) (fun _=>.v (.one (.sb (decB l)))) (fun _=>psF [] (s.set x (decN l)) A):=by
 have tg:Tg s:=⟨⟩;cases s
 all_goals
  refine CallsK.m false Tryz.func164 (fun ρ w=>?_);refine V.t (TP tg.i) [] trivial ?_;refine V.lp 0 159 cb 0 [Sel.val tg.i] 159 (.one (Sel.val tg.i)) ?_;refine V.t (TP tg.i) [l.length≤281474976710656] (by exact hl) ?_;exact V.z
set_option maxHeartbeats 2000000 in
theorem regParse (s:Sel) (l:List UInt8) (x:In) (A:IA) (cb:Nat) (hl:l.length≤281474976710656):CallsK Tryz.prog 157 [.one (.str l),.one (.ptr 0 0),.one (.val (.pointer (some ⟨cb,0,none⟩)))] (psF [s.blk cb,glbP] x A)
  (fun _:Unit=>True) (fun _=>.v (.one (.sb (regB l)))) (fun _=>psF [] (s.set x (regN l)) A):=by
 have tg:Tg s:=⟨⟩;cases s
 all_goals
  refine CallsK.m false Tryz.func157 (fun ρ w=>?_);refine V.t (TP tg.i) [] trivial ?_;refine V.lp 0 159 cb 0 [Sel.val tg.i] 159 (.one (Sel.val tg.i)) ?_;refine V.t (TP tg.i) [l.length≤281474976710656] (by exact hl) ?_;exact V.z
def prN (l:List UInt8):Int:=bif Lib.trimPrefix l [33]==[45] then -1 else decN (Lib.trimPrefix l [33])
def prB (l:List UInt8):Bool:=bif Lib.trimPrefix l [33]==[45] then Lib.hasPrefix l [33] else decB (Lib.trimPrefix l [33])&&Lib.hasPrefix l [33]&&decide (decN (Lib.trimPrefix l [33])≥0)
theorem trimP_len (s t:List UInt8) {n:Nat} (h:s.length≤n):(Lib.trimPrefix s t).length≤n:=by
 unfold Lib.trimPrefix;split
 ·simp; omega
 ·exact h
set_option maxHeartbeats 2000000 in
theorem placeParse (s:Sel) (l:List UInt8) (x:In) (A:IA) (cb:Nat) (hl:l.length≤281474976710656):CallsK Tryz.prog 218 [.one (.str l),.one (.ptr 0 0),.one (.val (.pointer (some ⟨cb,0,none⟩)))] (psF [s.blk cb,glbP] x A)
  (fun _:Unit=>True) (fun _=>.v (.one (.sb (decB (Lib.trimPrefix l [64])&&Lib.hasPrefix l [64])))) (fun _=>psF [] (s.set x (decN (Lib.trimPrefix l [64]))) A):=by
 have tg:Tg s:=⟨⟩;cases s
 all_goals
  refine CallsK.m false Tryz.func218 (fun ρ w=>?_);refine V.t (TP tg.i) [] trivial ?_;refine V.lp 0 159 cb 0 [Sel.val tg.i] 159 (.one (Sel.val tg.i)) ?_;refine V.t (TP tg.i) [(Lib.trimPrefix l [64]).length≤281474976710656] (trimP_len l [64] hl) ?_;exact V.z
set_option maxHeartbeats 4000000 in
theorem procParse (s:Sel) (l:List UInt8) (x:In) (A:IA) (cb:Nat) (hl:l.length≤281474976710656):CallsK Tryz.prog 226 [.one (.str l),.one (.ptr 0 0),.one (.val (.pointer (some ⟨cb,0,none⟩)))] (psF [s.blk cb,glbP] x A)
  (fun _:Unit=>True) (fun _=>.v (.one (.sb (prB l)))) (fun _=>psF [] (s.set x (prN l)) A):=by
 have tg:Tg s:=⟨⟩;cases s
 all_goals
  refine CallsK.m false Tryz.func226 (fun ρ w=>?_);refine V.t (TP tg.i) [] trivial ?_;refine V.bn 13 (Lib.trimPrefix l [33]==[45]) (fun hb=>?_) (fun hb=>?_)
  ·refine V.t (TP tg.i) [] trivial ?_;refine V.lp 0 159 cb 0 [Sel.val tg.i] 159 (.one (Sel.val tg.i)) ?_;refine V.t (TP tg.i) [] trivial ?_;rw [show prB l=Lib.hasPrefix l [33] by simp only [prB,hb,cond_true],show prN l=-1 by simp only [prN,hb,cond_true]];exact V.z
  ·refine V.t (TP tg.i) [] trivial ?_;refine V.lp 0 159 cb 0 [Sel.val tg.i] 159 (.one (Sel.val tg.i)) ?_;refine V.t (TP tg.i) [(Lib.trimPrefix l [33]).length≤281474976710656] (trimP_len l [33] hl) ?_;rw [show prN l=decN (Lib.trimPrefix l [33]) by simp only [prN,hb,cond_false]];cases h2:(decB (Lib.trimPrefix l [33])&&Lib.hasPrefix l [33]) with
   | true =>
    rw [show prB l=decide (decN (Lib.trimPrefix l [33])≥0) by simp only [prB,hb,cond_false,h2,Bool.true_and]];refine V.kn 32 (decB (Lib.trimPrefix l [33])&&Lib.hasPrefix l [33]) true h2 ?_;refine V.lp 0 159 cb 0 [Sel.val tg.i] 159 (.one (Sel.val tg.i)) ?_;refine V.t (TP tg.i) [] trivial ?_;exact V.z
   | false =>
    rw [show prB l=false by simp only [prB,hb,cond_false,h2,Bool.false_and]];refine V.kn 32 (decB (Lib.trimPrefix l [33])&&Lib.hasPrefix l [33]) false h2 ?_;refine V.t (TP tg.i) [] trivial ?_;refine V.sb 5 false ?_;exact V.z
end Go.Proofs
end
section
namespace Go.Proofs
open Go
def bitU (v:Bool):List UInt8:=bif v then [49] else [48]
def tyTx (t:Ty):List UInt8:=Lib.itoa t.k++[44]++Lib.itoa t.p++[44]++Lib.itoa t.q++[44]++bitU t.v++[44]++hexT t.s
def fmTx (f:Fm):List UInt8:=Lib.itoa f.k++[44]++Lib.itoa f.w++[44]++Lib.itoa f.d++[44]++hexT f.s
def vlTx (x:In):List UInt8:=Lib.itoa x.vn++[44]++hexT x.vs
def farTx (x:In):List UInt8:=[33]++Lib.itoa x.p++[64]++Lib.itoa x.n
def unB (s:List UInt8):Bool:=Lib.hasPrefix s [61]&&(unhL (Lib.trimPrefix s [61])).isSome
def unN (s:List UInt8):List UInt8:=bif unB s then (unhL (Lib.trimPrefix s [61])).getD [] else []
def pC (s:List UInt8) (i:Nat):List UInt8:=(partsC 44 s).getD i []
def tyB (s:List UInt8):Bool:=((partsC 44 s).length==5)&&(pC s 3==[48]||pC s 3==[49])&&decB (pC s 0)&&decB (pC s 1)&&decB (pC s 2)&&unB (pC s 4)
def tyV (s:List UInt8):Ty:=⟨decN (pC s 0),decN (pC s 1),decN (pC s 2),pC s 3==[49],unN (pC s 4)⟩
def fmB (s:List UInt8):Bool:=((partsC 44 s).length==4)&&decB (pC s 0)&&decB (pC s 1)&&decB (pC s 2)&&unB (pC s 3)
def fmV (s:List UInt8):Fm:=⟨decN (pC s 0),decN (pC s 1),decN (pC s 2),unN (pC s 3)⟩
def vlB (s:List UInt8):Bool:=((partsC 44 s).length==2)&&decB (pC s 0)&&unB (pC s 1)
def farC (s:List UInt8):List UInt8×List UInt8×Bool:=Lib.cut (Lib.trimPrefix s [33]) [64]
def frB (s:List UInt8):Bool:=Lib.hasPrefix s [33]&&(farC s).2.2&&decB (farC s).1&&decB (farC s).2.1
def psG {α:Type} (B:List UInt8→Bool) (N:List UInt8→α):List α→List (List UInt8)→List α×Bool
 | l,[]=>(l,true)
 | l,p::ps=>if (!B p||(l.length:Int)==16)=true then (l,false) else psG B N (l++[N p]) ps
theorem split_ne (c:UInt8) (s:List UInt8):splitC c s≠[]:=by rw [splitC_cut]; exact List.cons_ne_nil _ _
theorem split_app (c:UInt8) (r:List UInt8):∀ w:List UInt8,c ∉ w→splitC c (w++c::r)=w::splitC c r
 | [],_=>by simp [splitC]
 | x::w,h=>by
  have hx:(x==c)=false:=by
   rw [beq_eq_false_iff_ne];rintro rfl;exact h (List.mem_cons_self ..)
  rw [List.cons_append,splitC,hx,if_neg (by decide),split_app c r w (fun hm=>h (List.mem_cons_of_mem _ hm))]
theorem split_one (c:UInt8):∀ w:List UInt8,c ∉ w→splitC c w=[w]
 | [],_=>rfl
 | x::w,h=>by
  have hx:(x==c)=false:=by
   rw [beq_eq_false_iff_ne];rintro rfl;exact h (List.mem_cons_self ..)
  rw [splitC,hx,if_neg (by decide),split_one c w (fun hm=>h (List.mem_cons_of_mem _ hm))]
theorem join_two (x y:List UInt8) (r:List (List UInt8)) (c:UInt8):Lib.join (x::y::r) [c]=x++c::Lib.join (y::r) [c]:=by
 rw [Lib.join_cons,Lib.join_cons];simp [Lib.joinTail]
theorem split_join (c:UInt8):∀ ws:List (List UInt8),ws≠[]→(∀ w∈ws,c ∉ w)→splitC c (Lib.join ws [c])=ws
 | [],h,_=>absurd rfl h
 | [w],_,h=>by rw [Lib.join_one]; exact split_one c w (h w (List.mem_cons_self ..))
 | x::y::r,_,h=>by
  rw [join_two,split_app c _ x (h x (List.mem_cons_self ..)),split_join c (y::r) (List.cons_ne_nil _ _) (fun w hw=>h w (List.mem_cons_of_mem _ hw))]
theorem join_split (c:UInt8):∀ s:List UInt8,Lib.join (splitC c s) [c]=s
 | []=>Lib.join_one _ _
 | x::l=>by
  have ih:=join_split c l;rw [splitC];by_cases hx:(x==c)=true
  ·rw [if_pos hx];have e:x=c:=by simpa using hx
   cases h:splitC c l with
   | nil=>exact absurd h (split_ne c l)
   | cons a t =>
    rw [h] at ih;rw [join_two,ih,e]; rfl
  ·rw [if_neg hx];cases h:splitC c l with
   | nil=>exact absurd h (split_ne c l)
   | cons a t =>
    rw [h] at ih;simp only;rw [Lib.join_cons] at ih ⊢;rw [List.cons_append,ih]
theorem join_parts (c:UInt8) (s:List UInt8):Lib.join (partsC c s) [c]=s:=by
 cases s with
 | nil=>rfl
 | cons x l=>exact join_split c (x::l)
theorem parts_join (c:UInt8) (ws:List (List UInt8)) (h:∀ w∈ws,c ∉ w) (h0:∀ w∈ws,w≠[]):partsC c (Lib.join ws [c])=ws:=by
 cases ws with
 | nil=>rfl
 | cons x r =>
  have hne:Lib.join (x::r) [c]≠[]:=by
   rw [Lib.join_cons];intro e;exact h0 x (List.mem_cons_self ..) (List.append_eq_nil_iff.1 e).1
  rw [partsC_ne hne,split_join c _ (List.cons_ne_nil _ _) h]
theorem dec_sound {s:List UInt8} (h:decB s=true):Lib.itoa (decN s)=s∧isNum (decN s)=true:=by
 unfold decB at h;unfold decN;cases e:Lib.atoiAll s with
 | ok v =>
  rw [e] at h;simp only [Bool.and_eq_true,beq_iff_eq] at h;exact ⟨h.2,h.1⟩
 | range=>rw [e] at h; cases h
 | _=>rw [e] at h; cases h
theorem isNum_iff {n:Int}:isNum n=true↔-2147483648<n∧n<2147483648:=by unfold isNum; simp
theorem dec_compl {n:Int} (h:isNum n=true):decB (Lib.itoa n)=true∧decN (Lib.itoa n)=n:=by
 have h1:=isNum_iff.1 h;have h2:=atoi_itoa (n:=n) (by omega);unfold decB decN;rw [h2];simp [h]
theorem hasP_cons (c:UInt8) (s:List UInt8):Lib.hasPrefix (c::s) [c]=true:=by simp [Lib.hasPrefix]
theorem trimP_cons (c:UInt8) (s:List UInt8):Lib.trimPrefix (c::s) [c]=s:=by unfold Lib.trimPrefix; rw [hasP_cons,if_pos rfl]; rfl
theorem hasP_eq {c:UInt8} {s:List UInt8} (h:Lib.hasPrefix s [c]=true):s=c::Lib.trimPrefix s [c]:=by
 cases s with
 | nil=>simp [Lib.hasPrefix] at h
 | cons x l =>
  have e:c=x:=by simpa [Lib.hasPrefix] using h
  subst e;rw [trimP_cons]
theorem un_sound {s:List UInt8} (h:unB s=true):hexT (unN s)=s:=by
 unfold unN;rw [h];unfold unB at h;rw [Bool.and_eq_true] at h;obtain ⟨r,hr⟩:=Option.isSome_iff_exists.1 h.2;rw [hr];simp only [cond_true,Option.getD_some,hexT];rw [hex_unh _ _ hr];exact (hasP_eq h.1).symm
theorem un_compl (s:List UInt8):unB (hexT s)=true∧unN (hexT s)=s:=by
 have h:unB (hexT s)=true:=by
  unfold unB hexT;rw [hasP_cons,trimP_cons,unh_hex]; rfl
 refine ⟨h,?_⟩;unfold unN;rw [h];unfold hexT;rw [trimP_cons,unh_hex]; rfl
theorem tyTx_join (t:Ty):tyTx t=Lib.join [Lib.itoa t.k,Lib.itoa t.p,Lib.itoa t.q,bitU t.v,hexT t.s] [44]:=by
 simp [tyTx,Lib.join_cons,Lib.joinTail]
theorem fmTx_join (f:Fm):fmTx f=Lib.join [Lib.itoa f.k,Lib.itoa f.w,Lib.itoa f.d,hexT f.s] [44]:=by
 simp [fmTx,Lib.join_cons,Lib.joinTail]
theorem vlTx_join (x:In):vlTx x=Lib.join [Lib.itoa x.vn,hexT x.vs] [44]:=by
 simp [vlTx,Lib.join_cons,Lib.joinTail]
def plainB (b:UInt8):Prop:=b=45∨b=61∨(48≤b.toNat∧b.toNat≤57)∨(97≤b.toNat∧b.toNat≤102)
theorem itoa_plain (n:Int):∀ b∈Lib.itoa n,plainB b:=fun b hb=>by
 rcases itoa_bytes n b hb with h | h
 ·exact .inl h
 ·exact .inr (.inr (.inl h))
theorem hexT_plain (s:List UInt8):∀ b∈hexT s,plainB b:=fun b hb=>by
 rcases List.mem_cons.1 hb with rfl | hb
 ·exact .inr (.inl rfl)
 ·rcases hexL_bytes s b hb with h | h
  ·exact .inr (.inr (.inl h))
  ·exact .inr (.inr (.inr h))
theorem bitU_plain (v:Bool):∀ b∈bitU v,plainB b:=fun b hb=>by
 cases v<;>(rw [List.mem_singleton.1 hb]; exact .inr (.inr (.inl (by decide))))
theorem plain_no {b c:UInt8} (h:plainB b) (hc:c≠45∧c≠61∧¬ (48≤c.toNat∧c.toNat≤57)∧¬ (97≤c.toNat∧c.toNat≤102)):c≠b:=by
 rintro rfl;rcases h with h | h | h | h
 ·exact hc.1 h
 ·exact hc.2.1 h
 ·exact hc.2.2.1 h
 ·exact hc.2.2.2 h
theorem no44 {s:List UInt8} (h:∀ b∈s,plainB b):(44:UInt8) ∉ s:=fun hm=>plain_no (h _ hm) (by decide) rfl
theorem parts5 {s:List UInt8} (h:(partsC 44 s).length=5):partsC 44 s=[pC s 0,pC s 1,pC s 2,pC s 3,pC s 4]:=by
 unfold pC;rcases e:partsC 44 s with _ | ⟨a,_ | ⟨b,_ | ⟨c,_ | ⟨d,_ | ⟨f,_ | ⟨g,l⟩⟩⟩⟩⟩⟩<;>rw [e] at h<;>simp at h ⊢
theorem parts4 {s:List UInt8} (h:(partsC 44 s).length=4):partsC 44 s=[pC s 0,pC s 1,pC s 2,pC s 3]:=by
 unfold pC;rcases e:partsC 44 s with _ | ⟨a,_ | ⟨b,_ | ⟨c,_ | ⟨d,_ | ⟨f,l⟩⟩⟩⟩⟩<;>rw [e] at h<;>simp at h ⊢
theorem parts2 {s:List UInt8} (h:(partsC 44 s).length=2):partsC 44 s=[pC s 0,pC s 1]:=by
 unfold pC;rcases e:partsC 44 s with _ | ⟨a,_ | ⟨b,_ | ⟨c,l⟩⟩⟩<;>rw [e] at h<;>simp at h ⊢
theorem bit_sound {p:List UInt8} (h:(p==[48]||p==[49])=true):bitU (p==[49])=p:=by
 rw [Bool.or_eq_true,beq_iff_eq,beq_iff_eq] at h;rcases h with rfl | rfl<;>rfl
theorem ty_sound {s:List UInt8} (h:tyB s=true):tyTx (tyV s)=s:=by
 unfold tyB at h;simp only [Bool.and_eq_true,beq_iff_eq] at h;obtain ⟨⟨⟨⟨⟨h0,h1⟩,h2⟩,h3⟩,h4⟩,h5⟩:=h;rw [tyTx_join];unfold tyV;simp only;rw [(dec_sound h2).1,(dec_sound h3).1,(dec_sound h4).1,un_sound h5,bit_sound (by simpa using h1),← parts5 h0,join_parts]
theorem fm_sound {s:List UInt8} (h:fmB s=true):fmTx (fmV s)=s:=by
 unfold fmB at h;simp only [Bool.and_eq_true,beq_iff_eq] at h;obtain ⟨⟨⟨⟨h0,h2⟩,h3⟩,h4⟩,h5⟩:=h;rw [fmTx_join];unfold fmV;simp only;rw [(dec_sound h2).1,(dec_sound h3).1,(dec_sound h4).1,un_sound h5,← parts4 h0,join_parts]
theorem pC_join {s:List UInt8} {ws:List (List UInt8)} (e:s=Lib.join ws [44]) (h:∀ w∈ws,∀ b∈w,plainB b) (h0:∀ w∈ws,w≠[]):partsC 44 s=ws:=by
 rw [e];exact parts_join 44 ws (fun w hw=>no44 (h w hw)) h0
theorem bitU_ne (v:Bool):bitU v≠[]:=by cases v<;>simp [bitU]
theorem ty_parts (t:Ty):partsC 44 (tyTx t)=[Lib.itoa t.k,Lib.itoa t.p,Lib.itoa t.q,bitU t.v,hexT t.s]:=by
 refine pC_join (tyTx_join t) (fun w hw=>?_) (fun w hw=>?_) <;>
  (simp only [List.mem_cons,List.not_mem_nil,or_false] at hw; rcases hw with rfl | rfl | rfl | rfl | rfl)
 ·exact itoa_plain _
 ·exact itoa_plain _
 ·exact itoa_plain _
 ·exact bitU_plain _
 ·exact hexT_plain _
 ·exact itoa_ne _
 ·exact itoa_ne _
 ·exact itoa_ne _
 ·exact bitU_ne _
 ·exact List.cons_ne_nil _ _
theorem fm_parts (t:Fm):partsC 44 (fmTx t)=[Lib.itoa t.k,Lib.itoa t.w,Lib.itoa t.d,hexT t.s]:=by
 refine pC_join (fmTx_join t) (fun w hw=>?_) (fun w hw=>?_) <;>
  (simp only [List.mem_cons,List.not_mem_nil,or_false] at hw; rcases hw with rfl | rfl | rfl | rfl)
 ·exact itoa_plain _
 ·exact itoa_plain _
 ·exact itoa_plain _
 ·exact hexT_plain _
 ·exact itoa_ne _
 ·exact itoa_ne _
 ·exact itoa_ne _
 ·exact List.cons_ne_nil _ _
theorem vl_parts (x:In):partsC 44 (vlTx x)=[Lib.itoa x.vn,hexT x.vs]:=by
 refine pC_join (vlTx_join x) (fun w hw=>?_) (fun w hw=>?_) <;>
  (simp only [List.mem_cons,List.not_mem_nil,or_false] at hw; rcases hw with rfl | rfl)
 ·exact itoa_plain _
 ·exact hexT_plain _
 ·exact itoa_ne _
 ·exact List.cons_ne_nil _ _
theorem bit_compl (v:Bool):(bitU v==[48]||bitU v==[49])=true∧(bitU v==[49])=v:=by cases v<;>decide
theorem ty_compl {t:Ty} (h1:isNum t.k=true) (h2:isNum t.p=true) (h3:isNum t.q=true):tyB (tyTx t)=true∧tyV (tyTx t)=t:=by
 have e:=ty_parts t;have p0:pC (tyTx t) 0=Lib.itoa t.k:=by unfold pC; rw [e]; rfl
 have p1:pC (tyTx t) 1=Lib.itoa t.p:=by unfold pC; rw [e]; rfl
 have p2:pC (tyTx t) 2=Lib.itoa t.q:=by unfold pC; rw [e]; rfl
 have p3:pC (tyTx t) 3=bitU t.v:=by unfold pC; rw [e]; rfl
 have p4:pC (tyTx t) 4=hexT t.s:=by unfold pC; rw [e]; rfl
 unfold tyB tyV;rw [p0,p1,p2,p3,p4,(dec_compl h1).1,(dec_compl h2).1,(dec_compl h3).1,(dec_compl h1).2,(dec_compl h2).2,(dec_compl h3).2,(un_compl _).1,(un_compl _).2,(bit_compl t.v).1,(bit_compl t.v).2,e];exact ⟨rfl,rfl⟩
theorem fm_compl {t:Fm} (h1:isNum t.k=true) (h2:isNum t.w=true) (h3:isNum t.d=true):fmB (fmTx t)=true∧fmV (fmTx t)=t:=by
 have e:=fm_parts t;have p0:pC (fmTx t) 0=Lib.itoa t.k:=by unfold pC; rw [e]; rfl
 have p1:pC (fmTx t) 1=Lib.itoa t.w:=by unfold pC; rw [e]; rfl
 have p2:pC (fmTx t) 2=Lib.itoa t.d:=by unfold pC; rw [e]; rfl
 have p4:pC (fmTx t) 3=hexT t.s:=by unfold pC; rw [e]; rfl
 unfold fmB fmV;rw [p0,p1,p2,p4,(dec_compl h1).1,(dec_compl h2).1,(dec_compl h3).1,(dec_compl h1).2,(dec_compl h2).2,(dec_compl h3).2,(un_compl _).1,(un_compl _).2,e];exact ⟨rfl,rfl⟩
theorem no59_ty (t:Ty):(59:UInt8) ∉ tyTx t:=by
 have h:∀ {s:List UInt8},(∀ b∈s,plainB b)→(59:UInt8) ∉ s:=fun h hm=>plain_no (h _ hm) (by decide) rfl;unfold tyTx;simp only [List.mem_append,not_or];exact ⟨⟨⟨⟨⟨⟨⟨⟨h (itoa_plain _),by decide⟩,h (itoa_plain _)⟩,by decide⟩,h (itoa_plain _)⟩,by decide⟩,h (bitU_plain _)⟩,by decide⟩,h (hexT_plain _)⟩
theorem no59_fm (t:Fm):(59:UInt8) ∉ fmTx t:=by
 have h:∀ {s:List UInt8},(∀ b∈s,plainB b)→(59:UInt8) ∉ s:=fun h hm=>plain_no (h _ hm) (by decide) rfl;unfold fmTx;simp only [List.mem_append,not_or];exact ⟨⟨⟨⟨⟨⟨h (itoa_plain _),by decide⟩,h (itoa_plain _)⟩,by decide⟩,h (itoa_plain _)⟩,by decide⟩,h (hexT_plain _)⟩
theorem ty_ne (t:Ty):tyTx t≠[]:=by
 unfold tyTx;exact List.append_ne_nil_of_right_ne_nil _ (List.cons_ne_nil _ _)
theorem fm_ne (t:Fm):fmTx t≠[]:=by
 unfold fmTx;exact List.append_ne_nil_of_right_ne_nil _ (List.cons_ne_nil _ _)
theorem psG_sound {α:Type} {B:List UInt8→Bool} {N:List UInt8→α} (tx:α→List UInt8) (hB:∀ p,B p=true→tx (N p)=p):∀ (ps:List (List UInt8)) (l r:List α),psG B N l ps=(r,true)→r.map tx=l.map tx++ps
 | [],l,r,h=>by
  simp only [psG,Prod.mk.injEq,and_true] at h;rw [h,List.append_nil]
 | p::ps,l,r,h=>by
  rw [psG] at h;split at h
  ·simp at h
  ·rename_i hn;have hb:B p=true:=by
    revert hn;cases B p<;>simp
   rw [psG_sound tx hB ps _ r h,List.map_append,List.map_singleton,hB p hb,List.append_assoc];rfl
theorem psG_compl {α:Type} {B:List UInt8→Bool} {N:List UInt8→α} (tx:α→List UInt8):∀ (m l:List α),(∀ a∈m,B (tx a)=true∧N (tx a)=a)→l.length+m.length≤16→psG B N l (m.map tx)=(l++m,true)
 | [],l,_,_=>by simp [psG]
 | a::m,l,h,hl=>by
  have ha:=h a (List.mem_cons_self ..);simp only [List.length_cons] at hl;rw [List.map_cons,psG,ha.1,ha.2,if_neg (by simp; omega),psG_compl tx m (l++[a]) (fun b hb=>h b (List.mem_cons_of_mem _ hb)) (by simp; omega),List.append_assoc];rfl
theorem trimS_app (s:List UInt8) (c:UInt8):Lib.trimSuffix (s++[c]) [c]=s∧Lib.hasSuffix (s++[c]) [c]=true:=by
 have h:Lib.hasSuffix (s++[c]) [c]=true:=by
  unfold Lib.hasSuffix;rw [List.isSuffixOf_iff_suffix];exact List.suffix_append _ _
 refine ⟨?_,h⟩;unfold Lib.trimSuffix;rw [h,if_pos rfl];simp
theorem trimS_eq {s:List UInt8} {c:UInt8} (h:Lib.hasSuffix s [c]=true):s=Lib.trimSuffix s [c]++[c]:=by
 have h2:=h;unfold Lib.hasSuffix at h2;rw [List.isSuffixOf_iff_suffix] at h2;obtain ⟨t,rfl⟩:=h2;rw [(trimS_app t c).1]
end Go.Proofs
end
section
namespace Go.Proofs
open Go Go.SX Go.RowKit
set_option maxRecDepth 10000
theorem wrap_n1 {n:Nat} (h:n<4611686018427387904):IntKind.i64.wrap ((n:Int)+1)=((n+1:Nat):Int):=by
 simp [IntKind.wrap,IntKind.bits,IntKind.signed];omega
theorem tz_key:IntKind.u64.wrap (Go.bits BinOp.and IntKind.u64 16 (IntKind.u64.wrap (-16))*285870213051353865) / 288230376151711744=15:=by decide +kernel
set_option maxHeartbeats 1000000 in
theorem tz16 (w:World) (hcell:w.cell? ⟨10,15,none⟩=some (.int .u8 4)):Calls Tryz.prog 332 #[.int .u64 16] w fun e w'=>e=.returned (.int .i64 4)∧w'=w:=by
 go_enter Tryz.func332,Tryz.ntmps332
 go_wp2_with (simp only [tz_key])
 go_ret
 exact ⟨rfl,rfl⟩
theorem tz_cell {w:World} (h:GlbOk w):w.cell? ⟨10,15,none⟩=some (.int .u8 4):=by
 have h1:=World.var?_cell (P:=Tryz.prog) (show Tryz.prog.globalNamed "math/bits.deBruijn64tab" = some 10 by kernel_rfl) h.db 15;rw [h1]; rfl
noncomputable def sTz:Con Tryz.prog:=Con.inst 332 [glbP] [.one (.int .u64 16)] (.v (.one (.int .i64 4))) (fun ρ w hp =>
 (tz16 w (tz_cell (glb_of hp))).mono fun e w' ⟨h1,h2⟩=>⟨h1,by rw [h2]; exact Chg.refl _ _⟩)
noncomputable def aTz:Con Tryz.prog:=Con.auto Tryz.func325 true [⟨sTz,[0]⟩] [glbP] kq kq
noncomputable def aPow:Con Tryz.prog:=Con.auto Tryz.func324 true [] [] kq kq
noncomputable def THX:List (Ent Tryz.prog):=[aPow.e,⟨aTz,[0]⟩]
def hexBlk (y:SV):List SV:=List.replicate 64 (.int .u8 0)++[y]
def digs36:List UInt8:=[48,49,50,51,52,53,54,55,56,57,97,98,99,100,101,102,103,104,105,106,107,108,109,110,111,112,113,114,115,116,117,118,119,120,121,122]
theorem digs_fin:∀ i:Fin 16,digs36.getD i.val 0=hexD i.val:=by decide +kernel
theorem digs_hex {v:Nat} (hv:v<16):digs36.getD (v:Int).toNat 0=hexD v:=by rw [Int.toNat_natCast]; exact digs_fin ⟨v,hv⟩
theorem hexRow_D {g:Nat} {c:UInt8} {k:Nat} {e:TypeId} {l:List SV} (h:(rowP (rowL bsv 0 [c] (some ⟨g,64,none⟩) 1 5 1 false)).D k):(blkP g l e).D k:=by
 obtain ⟨a,h1,h2,_⟩:=h;cases h1;exact h2.symm
theorem hexRow_ok {g:Nat} {c:UInt8} {w:World} (h:(blkP g (hexBlk (.int .u8 (c.toNat:Int))) 297).φ w):(rowP (rowL bsv 0 [c] (some ⟨g,64,none⟩) 1 5 1 false)).φ w:=by
 have hg:w.heap[g]?=some (.cells ((hexBlk (.int .u8 (c.toNat:Int))).map SV.den0).toArray 297 (0,0)):=h;refine ⟨fun i hi=>⟨rfl,fun x hx=>?_⟩,fun _=>⟨g,64,rfl,fun i j x hi hx=>?_⟩,(fun h=>by cases h),(fun o h=>by cases h)⟩
 ·simp only [rowL,bsv,List.mem_singleton] at hx; subst hx; trivial
 ·have hi':i<1:=hi;have e0:i=0:=by omega
  subst e0;cases j with
  | zero =>
   simp only [rowL,bsv,List.getElem?_cons_zero,Option.some.injEq] at hx;subst hx;rw [Lib.cell_of_heap hg];rfl
  | succ j=>simp [rowL,bsv] at hx
set_option maxHeartbeats 2000000 in
theorem cFmtBits (v:Nat) (hv:v<16):CallsK Tryz.prog 305 [.one (.val (.slice none 0 0)),.one (.int .u64 (v:Int)),.one (.int .i64 16),.one (.sb false),.one (.bool false)] glbF (fun _:Unit=>True) (fun _=>.tup [.one (.val (.slice none 0 0)),.one (.str [hexD v])]) (fun _=>noF):=by
 refine CallsK.m true Tryz.func305 (fun ρ w=>?_);refine V.t THX [] trivial ?_;refine V.kn 28 false false rfl ?_;refine V.t THX [] trivial ?_;refine V.kn 30 false false rfl ?_;refine V.t THX [] trivial ?_;refine V.kn 34 true true rfl ?_;refine V.runT THX [([CV.one (SV.int .u64 16)]:List CV)=[CV.one (SV.int .u64 16)]] kq kq rfl ?_;refine V.iter ?_;refine V.t THX [] trivial ?_;refine V.kn 46 (decide ((v:Int)≥16)) false (decide_eq_false (by omega)) ?_;refine V.t THX [(0:Int)≤v∧(v:Int)<36,(0:Int)≤64∧(64:Int)<65] ⟨⟨by omega,by omega⟩,by show (_:Int)≤_∧(_:Int)<_; omega⟩ ?_;refine V.cellAs 0 64 ⟨hexBlk (.int .u8 ((digs36.getD (v:Int).toNat 0).toNat:Int)),297,true⟩ (.int .u8 ((digs36.getD (v:Int).toNat 0).toNat:Int)) (.int .u8 ((hexD v).toNat:Int)) kq rfl kq (fun _=>by rw [digs_hex hv]) ?_;refine V.absB 0 ⟨hexBlk (.int .u8 ((hexD v).toNat:Int)),297,true⟩ kq kq (fun g=>kq) (fun g=>?_);refine V.persAs [(0,true)] [blkP g (hexBlk (.int .u8 ((hexD v).toNat:Int))) 297] (rowP (rowL bsv 0 [hexD v] (some ⟨g,64,none⟩) 1 5 1 false)) kq (fun k hk=>⟨_,List.mem_singleton.2 rfl,hexRow_D hk⟩) (fun w hw=>hexRow_ok (hw _ (List.mem_singleton.2 rfl))) (rowP_stab _) ?_;refine V.kn 89 false false rfl ?_;refine V.t THX [(0:Int)≤64∧(64:Int)≤65∧(65:Int)≤65] (by show (_:Int)≤_∧(_:Int)≤_∧(_:Int)≤_; omega) ?_;refine V.ar 100 0 (rowL bsv 0 [hexD v] (some ⟨g,64,none⟩) 1 5 1 false) ?_;refine V.toStr [hexD v] 0 (some ⟨g,64,none⟩) 1 5 false kq kq ?_;refine V.t THX [] trivial ?_;exact V.z
set_option maxHeartbeats 2000000 in
theorem cFmtInt (v:Nat) (hv:v<16):CallsK Tryz.prog 285 [.one (.int .i64 (v:Int)),.one (.int .i64 16)] glbF (fun _:Unit=>True) (fun _=>.v (.one (.str [hexD v]))) (fun _=>noF):=by
 refine CallsK.m true Tryz.func285 (fun ρ w=>?_);refine V.t THX [] trivial ?_;refine V.kn 11 false false rfl ?_;refine V.q ?_;refine V.s 46 (.one (.int .u64 (IntKind.u64.wrap (v:Int)))) (.one (.int .u64 (v:Int))) (fun _=>by rw [show IntKind.u64.wrap (v:Int)=(v:Int) by simp [IntKind.wrap,IntKind.bits,IntKind.signed]; omega]) ?_;refine V.c [(0,false)] (cFmtBits v hv) (fun _ _=>?_);refine V.q ?_;exact V.z
theorem cFormatInt (v:Nat) (hv:v<16):CallsK Tryz.prog 257 [.one (.int .i64 (v:Int)),.one (.int .i64 16)] glbF (fun _:Unit=>True) (fun _=>.v (.one (.str [hexD v]))) (fun _=>noF):=by
 refine CallsK.m true Tryz.func257 (fun ρ w=>?_);refine V.q ?_;refine V.c [(0,false)] (cFmtInt v hv) (fun _ _=>?_);refine V.q ?_;exact V.z
theorem hx_quo (c:UInt8):IntKind.i64.wrap (IntKind.u8.wrap ((c.toNat:Int).tdiv 16))=((c.toNat / 16:Nat):Int):=by
 have h:=c.toNat_lt;have e:(c.toNat:Int).tdiv 16=((c.toNat / 16:Nat):Int):=rfl;rw [e];simp [IntKind.wrap,IntKind.bits,IntKind.signed];omega
theorem hx_rem (c:UInt8):IntKind.i64.wrap ((c.toNat:Int).tmod 16)=((c.toNat % 16:Nat):Int):=by
 have h:=c.toNat_lt;have e:(c.toNat:Int).tmod 16=((c.toNat % 16:Nat):Int):=rfl;rw [e];simp [IntKind.wrap,IntKind.bits,IntKind.signed];omega
theorem hexL_next {s:List UInt8} {i:Nat} (h:i<s.length):hexL (s.take (i+1))=hexL (s.take i)++[hexD ((s.getD i 0).toNat / 16),hexD ((s.getD i 0).toNat % 16)]:=by
 rw [List.take_add_one,List.getD,List.getElem?_eq_getElem h];unfold hexL;rw [List.flatMap_append];rfl
structure HXI where
 l:List UInt8
 q:Option Addr
 c:Nat
 i:Nat
def hxSt (s:List UInt8) (g cap:Nat) (j:HXI):St :=
 { n:=26,slots:=[(3,.v (.one (.ptr 0 0))),(8,.v (.one (.row 1 (some ⟨g,0,none⟩) s.length cap))),(9,.v (.one (.int .i64 s.length))),(10,.v (.one (.int .i64 j.i)))],gs:=[],
    heap:=[(0,⟨[.ptr 0 0,.row 0 j.q j.l.length j.c],137,true⟩)],next:=1,rows:=[(0,rowL bsv 0 j.l j.q j.c 5 1 true),(1,rowL bsv 0 s (some ⟨g,0,none⟩) cap 5 1 false)],nr:=2,pers:=[glbP],wr:=true,fx:=0 }
set_option maxHeartbeats 2000000 in
theorem cHex (s:List UInt8) (hs:s.length≤1000000000):CallsK Tryz.prog 184 [.one (.str s)] glbF (fun _:Unit=>True) (fun _=>.v (.one (.str (hexT s)))) (fun _=>noF):=by
 refine CallsK.m true Tryz.func184 (fun ρ w=>?_);refine V.q ?_;refine V.c [] (wbyte_new 61) (fun x _=>?_);refine V.q ?_;refine V.toBytes 5 s kq (fun q cap=>kq) (fun g cap=>?_);refine V.q ?_;refine V.loopK [3,8,9,10] [true] (fun j:HXI=>s.length - j.i) (hxSt s g cap) (fun j=>j.i≤s.length∧j.l=61::hexL (s.take j.i)) ⟨[61],x.1,x.2,0⟩ kq ⟨Nat.zero_le _,rfl⟩ (fun j hj ih=>?_);obtain ⟨l,q,c,i⟩:=j;obtain ⟨hi,hl⟩:=hj;simp only at hi hl;have hlen:l.length=2*i+1:=by rw [hl,List.length_cons,hexL_len,List.length_take,Nat.min_eq_left hi]
 refine V.iter ?_;refine V.q ?_;refine V.bn 11 (decide ((i:Int)<s.length)) (fun hb=>?_) (fun hb=>?_)
 ·have hlt:i<s.length:=by simpa using hb
  obtain ⟨b,hbb⟩:∃ b,s.getD i 0=b:=⟨_,rfl⟩;refine V.t [] [(0:Int)≤i∧(i:Int)<s.length,(16:Int)≠0] ⟨⟨by omega,by omega⟩,by show (16:Int)≠0; omega⟩ ?_;refine V.s 16 (.one (.int .i64 (IntKind.i64.wrap (IntKind.u8.wrap (((s.getD i 0).toNat:Int).tdiv 16))))) (.one (.int .i64 (((s.getD i 0).toNat / 16:Nat):Int))) (fun _=>by rw [hx_quo]) ?_;refine V.c [(0,false)] (cFormatInt ((s.getD i 0).toNat / 16) (by have:=(s.getD i 0).toNat_lt; omega)) (fun _ _=>?_);refine V.t [] [(16:Int)≠0] (by show (16:Int)≠0; omega) ?_;refine V.s 20 (.one (.int .i64 (IntKind.i64.wrap (((s.getD i 0).toNat:Int).tmod 16)))) (.one (.int .i64 (((s.getD i 0).toNat % 16:Nat):Int))) (fun _=>by rw [hx_rem]) ?_;refine V.c [(0,false)] (cFormatInt ((s.getD i 0).toNat % 16) (by omega)) (fun _ _=>?_);refine V.t [] [(1+1:Nat)≤9223372036854775807] (by show (1+1:Nat)≤9223372036854775807; omega) ?_;refine V.c [] (wstr_used l q c [hexD ((s.getD i 0).toNat / 16),hexD ((s.getD i 0).toNat % 16)] (by rw [hlen]; simp; omega)) (fun y _=>?_);refine V.q ?_;refine V.s 10 (.one (.int .i64 (IntKind.i64.wrap ((i:Int)+1)))) (.one (.int .i64 ((i+1:Nat):Int))) (fun _=>by rw [wrap_n1 (by omega)]) ?_;refine V.againK [3,8,9,10] [true] (ih ⟨l++[hexD ((s.getD i 0).toNat / 16),hexD ((s.getD i 0).toNat % 16)],y.1,y.2,i+1⟩ ⟨hlt,?_⟩ (by simp only; omega)) kq kq;simp only;rw [hl,hexL_next hlt];rfl
 ·have hle:i=s.length:=by
   have:¬ i<s.length:=by simpa using hb
   omega
  rw [hle,List.take_length] at hl;refine V.q ?_;refine V.c [] (bstr_used l q c (by rw [hlen]; omega)) (fun _ _=>?_);refine V.q ?_;subst hl;exact V.z
end Go.Proofs
end
section
namespace Go.Proofs
open Go Go.SX Go.RowKit
set_option maxRecDepth 10000
noncomputable def aLow:Con Tryz.prog:=Con.auto Tryz.func314 true [] [] kq kq
def loE (n:Int):Int:=IntKind.u8.wrap ((BitVec.ofInt 8 n ||| BitVec.ofInt 8 32).toNat:Int)
noncomputable def sLow:Con Tryz.prog:=aLow.as (fun xs=>match xs with
  | [.one (.int .u8 n)]=>some (.v (.one (.int .u8 (loE n))),[])
  | _=>none) (by
 intro xs v ob h hob;split at h
 ·rename_i n;simp only [Option.some.injEq,Prod.mk.injEq] at h;obtain ⟨rfl,rfl⟩:=h;exact ⟨.v (.one (.int .u8 (loE n))),[],kq,(fun p hp=>by cases hp),fun _=>rfl⟩
 ·cases h)
def isD (c:UInt8):Bool:=decide (48≤(c.toNat:Int))&&decide ((c.toNat:Int)≤57)
def isA (c:UInt8):Bool:=decide (97≤loE c.toNat)&&decide (loE c.toNat≤122)
def duV (c:UInt8):Int:=bif isD c then IntKind.u8.wrap ((c.toNat:Int) - 48) else IntKind.u8.wrap (IntKind.u8.wrap (loE c.toNat - 97)+10)
def duB (c:UInt8):Bool:=(isD c||isA c)&&!decide (duV c≥16)
def puB (a b:UInt8):Bool:=duB a&&duB b
def puV (a b:UInt8):RV:=.tup [.one (.int .u64 (bif puB a b then duV a*16+duV b else 0)),.one (.val (bif puB a b then .nilIface else .iface 284 (.int .i64 2)))]
structure PUI where
 i:Nat
 n:Int
def puSt (a b:UInt8) (g cap:Nat) (j:PUI):St :=
 { n:=172,slots:=[(1,.v (.one (.int .i64 16))),(8,.v (.one (.sb false))),(9,.v (.one (.str [a,b]))),(10,.v (.one (.int .u64 1152921504606846976))),(11,.v (.one (.int .u64 255))),(12,.v (.one (.bool false))),(13,.v (.one (.int .u64 j.n))),
      (99,.v (.one (.row 0 (some ⟨g,0,none⟩) 2 cap))),(100,.v (.one (.int .i64 2))),(101,.v (.one (.int .i64 j.i)))],gs:=[],heap:=[],next:=0,rows:=[(0,rowL bsv 0 [a,b] (some ⟨g,0,none⟩) cap 5 1 false)],nr:=1,pers:=[],wr:=true,fx:=0 }
def puI (a b:UInt8) (j:PUI):Prop:=(j.i=0∧j.n=0)∨(j.i=1∧j.n=duV a∧duB a=true)∨(j.i=2∧j.n=duV a*16+duV b∧duB a=true∧duB b=true)
theorem duB_lt {c:UInt8} (h:duB c=true):0≤duV c∧duV c<16:=by
 unfold duB at h;rw [Bool.and_eq_true] at h;have h2:¬ duV c≥16:=by simpa using h.2
 refine ⟨?_,by omega⟩;unfold duV;cases isD c<;>simp [IntKind.wrap,IntKind.bits,IntKind.signed]<;>omega
theorem pu_n {a b:UInt8} {j:PUI} (h:puI a b j) (hl:j.i<2):0≤j.n∧j.n<16:=by
 rcases h with h | h | h
 ·omega
 ·have:=duB_lt h.2.2; omega
 ·omega
theorem pu_no {a b:UInt8} {j:PUI} (h:puI a b j) (hl:j.i<2) (hB:duB ([a,b].getD j.i 0)=false):puB a b=false:=by
 unfold puB;rcases h with h | h | h
 ·rw [h.1] at hB;rw [show duB a=false from hB]; rfl
 ·rw [h.1] at hB;rw [show duB b=false from hB,Bool.and_false]
 ·omega
theorem pu_next {a b:UInt8} {j:PUI} (h:puI a b j) (hl:j.i<2) (hB:duB ([a,b].getD j.i 0)=true):puI a b ⟨j.i+1,j.n*16+duV ([a,b].getD j.i 0)⟩:=by
 rcases h with h | h | h
 ·rw [h.1] at hB ⊢;rw [h.2];exact .inr (.inl ⟨rfl,by show 0*16+duV a=duV a; omega,hB⟩)
 ·rw [h.1] at hB ⊢;rw [h.2.1];exact .inr (.inr ⟨rfl,rfl,h.2.2,hB⟩)
 ·omega
theorem pu_small {n d:Int} (h0:0≤n) (h1:n<16) (h2:0≤d) (h3:d<16):(decide (IntKind.u64.wrap (IntKind.u64.wrap (n*16)+IntKind.u64.wrap d)<IntKind.u64.wrap (n*16))||decide (IntKind.u64.wrap (IntKind.u64.wrap (n*16)+IntKind.u64.wrap d)>255))=false ∧
  IntKind.u64.wrap (IntKind.u64.wrap (n*16)+IntKind.u64.wrap d)=n*16+d:=by
 have e1:IntKind.u64.wrap (n*16)=n*16:=by simp [IntKind.wrap,IntKind.bits,IntKind.signed]; omega
 have e2:IntKind.u64.wrap d=d:=by simp [IntKind.wrap,IntKind.bits,IntKind.signed]; omega
 have e3:IntKind.u64.wrap (n*16+d)=n*16+d:=by simp [IntKind.wrap,IntKind.bits,IntKind.signed]; omega
 rw [e1,e2,e3];refine ⟨?_,rfl⟩;rw [Bool.or_eq_false_iff];exact ⟨decide_eq_false (by omega),decide_eq_false (by omega)⟩
set_option maxHeartbeats 2000000 in
theorem cPUin (a b:UInt8):CallsK Tryz.prog 295 [.one (.str [a,b]),.one (.int .i64 16),.one (.int .i64 8)] noF (fun _:Unit=>True) (fun _=>puV a b) (fun _=>noF):=by
 refine CallsK.m true Tryz.func295 (fun ρ w=>?_);refine V.rc [] 40 [(0:Int)≤8] (by show (0:Int)≤8; omega) ?_;refine V.toBytes 5 [a,b] kq (fun q cap=>kq) (fun g cap=>?_);refine V.q ?_;refine V.loopK [1,8,9,10,11,12,13,99,100,101] [] (fun j:PUI=>2 - j.i) (puSt a b g cap) (puI a b) ⟨0,0⟩ kq (.inl ⟨rfl,rfl⟩) (fun j hj ih=>?_);obtain ⟨i,n⟩:=j;refine V.iter ?_;refine V.q ?_;refine V.bn 102 (decide ((i:Int)<2)) (fun hb=>?_) (fun hb=>?_)
 ·have hlt:i<2:=by
   have:(i:Int)<2:=by simpa using hb
   omega
  refine V.t [] [(0:Int)≤i∧(i:Int)<(2:Nat)] ⟨by omega,by omega⟩ ?_;refine V.kn 106 ((([a,b].getD i 0).toNat:Int)==95&&false) false (Bool.and_false _) ?_;refine V.q ?_;refine V.bn 112 (isD ([a,b].getD i 0)) (fun hD=>?_) (fun hD=>?_)
  ·refine V.q ?_;have hdv:duV ([a,b].getD i 0)=IntKind.u8.wrap ((([a,b].getD i 0).toNat:Int) - 48):=by unfold duV; rw [hD]; rfl
   refine V.bn 137 (decide (IntKind.u8.wrap ((([a,b].getD i 0).toNat:Int) - 48)≥16)) (fun hG=>?_) (fun hG=>?_)
   ·refine V.q ?_;have hno:=pu_no hj hlt (by unfold duB; rw [hdv,hG,Bool.not_true,Bool.and_false]);rw [show puV a b=.tup [.one (.int .u64 0),.one (.val (.iface 284 (.int .i64 2)))] by unfold puV; rw [hno]; rfl];exact V.z
   ·have hB:duB ([a,b].getD i 0)=true:=by unfold duB; rw [hdv,hG,hD]; rfl
    obtain ⟨hd0,hd1⟩:=duB_lt hB;rw [hdv] at hd0 hd1;obtain ⟨hn0,hn1⟩:=pu_n hj hlt;simp only at hn0 hn1;refine V.q ?_;refine V.kn 141 (decide (n≥1152921504606846976)) false (decide_eq_false (by omega)) ?_;refine V.q ?_;refine V.kn 159 (decide (IntKind.u64.wrap (IntKind.u64.wrap (n*16)+IntKind.u64.wrap (IntKind.u8.wrap ((([a,b].getD i 0).toNat:Int) - 48)))<IntKind.u64.wrap (n*16))||decide (IntKind.u64.wrap (IntKind.u64.wrap (n*16)+IntKind.u64.wrap (IntKind.u8.wrap ((([a,b].getD i 0).toNat:Int) - 48)))>255)) false (pu_small hn0 hn1 hd0 hd1).1 ?_;refine V.q ?_;refine V.s 13 (.one (.int .u64 (IntKind.u64.wrap (IntKind.u64.wrap (n*16)+IntKind.u64.wrap (IntKind.u8.wrap ((([a,b].getD i 0).toNat:Int) - 48)))))) (.one (.int .u64 (n*16+duV ([a,b].getD i 0)))) (fun _=>by rw [(pu_small hn0 hn1 hd0 hd1).2,hdv]) ?_;refine V.s 101 (.one (.int .i64 (IntKind.i64.wrap ((i:Int)+1)))) (.one (.int .i64 ((i+1:Nat):Int))) (fun _=>by rw [wrap_n1 (by omega)]) ?_;exact V.againK [1,8,9,10,11,12,13,99,100,101] [] (ih ⟨i+1,n*16+duV ([a,b].getD i 0)⟩ (pu_next hj hlt hB) (by simp only; omega)) kq kq
  ·refine V.t [sLow.e] [] trivial ?_;refine V.bn 121 (isA ([a,b].getD i 0)) (fun hA=>?_) (fun hA=>?_)
   ·refine V.t [sLow.e] [] trivial ?_;have hdv:duV ([a,b].getD i 0)=IntKind.u8.wrap (IntKind.u8.wrap (loE (([a,b].getD i 0).toNat:Int) - 97)+10):=by unfold duV; rw [hD]; rfl
    refine V.bn 137 (decide (IntKind.u8.wrap (IntKind.u8.wrap (loE (([a,b].getD i 0).toNat:Int) - 97)+10)≥16)) (fun hG=>?_) (fun hG=>?_)
    ·refine V.q ?_;have hno:=pu_no hj hlt (by unfold duB; rw [hdv,hG,Bool.not_true,Bool.and_false]);rw [show puV a b=.tup [.one (.int .u64 0),.one (.val (.iface 284 (.int .i64 2)))] by unfold puV; rw [hno]; rfl];exact V.z
    ·have hB:duB ([a,b].getD i 0)=true:=by unfold duB; rw [hdv,hG,hD,hA]; rfl
     obtain ⟨hd0,hd1⟩:=duB_lt hB;rw [hdv] at hd0 hd1;obtain ⟨hn0,hn1⟩:=pu_n hj hlt;simp only at hn0 hn1;refine V.q ?_;refine V.kn 141 (decide (n≥1152921504606846976)) false (decide_eq_false (by omega)) ?_;refine V.q ?_;refine V.kn 159 (decide (IntKind.u64.wrap (IntKind.u64.wrap (n*16)+IntKind.u64.wrap (IntKind.u8.wrap (IntKind.u8.wrap (loE (([a,b].getD i 0).toNat:Int) - 97)+10)))<IntKind.u64.wrap (n*16))||decide (IntKind.u64.wrap (IntKind.u64.wrap (n*16)+IntKind.u64.wrap (IntKind.u8.wrap (IntKind.u8.wrap (loE (([a,b].getD i 0).toNat:Int) - 97)+10)))>255)) false (pu_small hn0 hn1 hd0 hd1).1 ?_;refine V.q ?_;refine V.s 13 (.one (.int .u64 (IntKind.u64.wrap (IntKind.u64.wrap (n*16)+IntKind.u64.wrap (IntKind.u8.wrap (IntKind.u8.wrap (loE (([a,b].getD i 0).toNat:Int) - 97)+10)))))) (.one (.int .u64 (n*16+duV ([a,b].getD i 0)))) (fun _=>by rw [(pu_small hn0 hn1 hd0 hd1).2,hdv]) ?_;refine V.s 101 (.one (.int .i64 (IntKind.i64.wrap ((i:Int)+1)))) (.one (.int .i64 ((i+1:Nat):Int))) (fun _=>by rw [wrap_n1 (by omega)]) ?_;exact V.againK [1,8,9,10,11,12,13,99,100,101] [] (ih ⟨i+1,n*16+duV ([a,b].getD i 0)⟩ (pu_next hj hlt hB) (by simp only; omega)) kq kq
   ·refine V.q ?_;have hno:=pu_no hj hlt (by unfold duB; rw [hD,hA]; rfl);rw [show puV a b=.tup [.one (.int .u64 0),.one (.val (.iface 284 (.int .i64 2)))] by unfold puV; rw [hno]; rfl];exact V.z
 ·have hge:2≤i:=by
   have:¬ (i:Int)<2:=by simpa using hb
   omega
  rcases hj with hj | hj | hj
  ·have:=hj.1; simp only at this; omega
  ·have:=hj.1; simp only at this; omega
  obtain ⟨e1,e2,h1,h2⟩:=hj;simp only at e1 e2;subst e1 e2;rw [show puV a b=.tup [.one (.int .u64 (duV a*16+duV b)),.one (.val .nilIface)] by unfold puV puB; rw [h1,h2]; rfl];refine V.rc [] 40 [] trivial ?_;exact V.z
end Go.Proofs
end
section
namespace Go.Proofs
open Go.Shelf
def Tryz.lays159_ren : Go.Shelf.Ren:=⟨fun | 159=>260 | 165=>237 | 166=>75 | 167=>256 | 169=>76 | 230=>296 | 204=>297 | 240=>146 | 241=>284 | 197=>307 | 118=>316 | 168=>317 | 270=>318 | 262=>319 | 276=>249 | 277=>301 | 260=>326 | 242=>329 | 313=>330 | 278=>333 | 274=>334 | 275=>335 | n=>n,fun | 9=>9 | 4=>4 | 3=>3 | 5=>5 | 72=>137 | 0=>0 | 76=>140 | 75=>139 | 107=>265 | 70=>135 | 20=>20 | 37=>97 | 127=>199 | 21=>21 | 105=>282 | 164=>239 | 162=>305 | 203=>303 | 119=>229 | 46=>236 | 139=>309 | 138=>308 | 51=>256 | 160=>313 | 208=>321 | 206=>319 | 80=>142 | n=>n,fun | 13=>6 | 3=>7 | 4=>8 | n=>n⟩
theorem Tryz.lays159 : Go.Proofs.Lays.n159 Tryz.prog Tryz.lays159_ren:={
  mixed:=kq
  f118:=Tryz.func316.trans (congrArg some kq)
  f159:=Tryz.func260.trans (congrArg some kq)
  f165:=Tryz.func237.trans (congrArg some kq)
  f166:=Tryz.func75.trans (congrArg some kq)
  f167:=Tryz.func256.trans (congrArg some kq)
  f168:=Tryz.func317.trans (congrArg some kq)
  f169:=Tryz.func76.trans (congrArg some kq)
  f197:=Tryz.func307.trans (congrArg some kq)
  f204:=Tryz.func297.trans (congrArg some kq)
  f230:=Tryz.func296.trans (congrArg some kq)
  f240:=Tryz.func146.trans (congrArg some kq)
  f241:=Tryz.func284.trans (congrArg some kq)
  f242:=Tryz.func329.trans (congrArg some kq)
  f260:=Tryz.func326.trans (congrArg some kq)
  f262:=Tryz.func319.trans (congrArg some kq)
  f270:=Tryz.func318.trans (congrArg some kq)
  f274:=Tryz.func334.trans (congrArg some kq)
  f275:=Tryz.func335.trans (congrArg some kq)
  f276:=Tryz.func249.trans (congrArg some kq)
  f277:=Tryz.func301.trans (congrArg some kq)
  f278:=Tryz.func333.trans (congrArg some kq)
  f313:=Tryz.func330.trans (congrArg some kq)
  t0:=Tryz.underlying0
  a0:=Tryz.isAgg0
  z0:=Tryz.sizeOf0
  v0:=Tryz.zeroValue0
  t3:=Tryz.underlying3
  a3:=Tryz.isAgg3
  z3:=Tryz.sizeOf3
  v3:=Tryz.zeroValue3
  t4:=Tryz.underlying4
  a4:=Tryz.isAgg4
  z4:=Tryz.sizeOf4
  v4:=Tryz.zeroValue4
  t5:=Tryz.underlying5
  a5:=Tryz.isAgg5
  z5:=Tryz.sizeOf5
  v5:=Tryz.zeroValue5
  t9:=Tryz.underlying9
  a9:=Tryz.isAgg9
  z9:=Tryz.sizeOf9
  v9:=Tryz.zeroValue9
  t20:=Tryz.underlying20
  a20:=Tryz.isAgg20
  z20:=Tryz.sizeOf20
  v20:=Tryz.zeroValue20
  t21:=Tryz.underlying21
  a21:=Tryz.isAgg21
  z21:=Tryz.sizeOf21
  v21:=Tryz.zeroValue21
  t37:=Tryz.underlying97
  a37:=Tryz.isAgg97
  z37:=Tryz.sizeOf97
  v37:=Tryz.zeroValue97
  t46:=Tryz.underlying236
  a46:=Tryz.isAgg236
  z46:=Tryz.sizeOf236
  v46:=Tryz.zeroValue236
  t51:=Tryz.underlying256
  a51:=Tryz.isAgg256
  z51:=Tryz.sizeOf256
  v51:=Tryz.zeroValue256
  t70:=Tryz.underlying135
  a70:=Tryz.isAgg135
  z70:=Tryz.sizeOf135
  v70:=Tryz.zeroValue135
  t72:=Tryz.underlying137
  a72:=Tryz.isAgg137
  z72:=Tryz.sizeOf137
  v72:=Tryz.zeroValue137
  t75:=Tryz.underlying139
  a75:=Tryz.isAgg139
  z75:=Tryz.sizeOf139
  v75:=Tryz.zeroValue139
  t76:=Tryz.underlying140
  a76:=Tryz.isAgg140
  z76:=Tryz.sizeOf140
  v76:=Tryz.zeroValue140
  t105:=Tryz.underlying282
  a105:=Tryz.isAgg282
  z105:=Tryz.sizeOf282
  v105:=Tryz.zeroValue282
  t107:=Tryz.underlying265
  a107:=Tryz.isAgg265
  z107:=Tryz.sizeOf265
  v107:=Tryz.zeroValue265
  t119:=Tryz.underlying229
  a119:=Tryz.isAgg229
  z119:=Tryz.sizeOf229
  t127:=Tryz.underlying199
  a127:=Tryz.isAgg199
  z127:=Tryz.sizeOf199
  v127:=Tryz.zeroValue199
  t138:=Tryz.underlying308
  a138:=Tryz.isAgg308
  z138:=Tryz.sizeOf308
  v138:=Tryz.zeroValue308
  t139:=Tryz.underlying309
  a139:=Tryz.isAgg309
  z139:=Tryz.sizeOf309
  v139:=Tryz.zeroValue309
  t160:=Tryz.underlying313
  a160:=Tryz.isAgg313
  z160:=Tryz.sizeOf313
  v160:=Tryz.zeroValue313
  t162:=Tryz.underlying305
  a162:=Tryz.isAgg305
  z162:=Tryz.sizeOf305
  v162:=Tryz.zeroValue305
  t164:=Tryz.underlying239
  a164:=Tryz.isAgg239
  z164:=Tryz.sizeOf239
  v164:=Tryz.zeroValue239
  t203:=Tryz.underlying303
  a203:=Tryz.isAgg303
  z203:=Tryz.sizeOf303
  v203:=Tryz.zeroValue303
  t206:=Tryz.underlying319
  a206:=Tryz.isAgg319
  z206:=Tryz.sizeOf319
  v206:=Tryz.zeroValue319
  t208:=Tryz.underlying321
  a208:=Tryz.isAgg321
  z208:=Tryz.sizeOf321
  v208:=Tryz.zeroValue321
  g3:=kq
  g4:=kq
  g13:=kq }
theorem Tryz.Builder_Extra_159 : Builder.Extra Tryz.prog Tryz.lays159_ren:={
  sizeBuilder:=kq
  liesBuilder:=kq
  t5:=Tryz.underlying5
  a5:=Tryz.isAgg5
  z5:=Tryz.sizeOf5
  v5:=Tryz.zeroValue5
  infoByte:=kq
  cellsByte:=kq
  sizeByte:=kq
  neB5:=by decide }
def Tryz.laysC245_ren : Go.Shelf.Ren:=⟨fun | 245=>293 | 279=>310 | 280=>311 | 281=>312 | 282=>313 | 316=>327 | 171=>123 | 205=>328 | 243=>238 | 246=>285 | 283=>302 | 284=>303 | 285=>304 | 286=>305 | 129=>322 | 317=>321 | 318=>323 | 319=>324 | 320=>325 | 337=>331 | 338=>332 | n=>n,fun | 9=>9 | 3=>3 | 75=>139 | 167=>284 | 4=>4 | 168=>287 | 210=>300 | 37=>97 | 0=>0 | 127=>199 | 145=>312 | 143=>310 | 2=>2 | 171=>278 | 53=>106 | 5=>5 | 173=>280 | 212=>296 | 51=>256 | 20=>20 | 213=>297 | 46=>236 | 232=>316 | 233=>317 | 80=>142 | n=>n,fun | 15=>4 | 16=>5 | 17=>3 | 18=>9 | 19=>10 | n=>n⟩
theorem Tryz.laysC245 : Go.Proofs.LaysC.n245 Tryz.prog Tryz.laysC245_ren:={
  mixed:=kq
  f129:=Tryz.func322.trans (congrArg some kq)
  f171:=Tryz.func123.trans (congrArg some kq)
  f205:=Tryz.func328.trans (congrArg some kq)
  f243:=Tryz.func238.trans (congrArg some kq)
  f245:=Tryz.func293.trans (congrArg some kq)
  f246:=Tryz.func285.trans (congrArg some kq)
  f279:=Tryz.func310.trans (congrArg some kq)
  f280:=Tryz.func311.trans (congrArg some kq)
  f281:=Tryz.func312.trans (congrArg some kq)
  f282:=Tryz.func313.trans (congrArg some kq)
  f283:=Tryz.func302.trans (congrArg some kq)
  f284:=Tryz.func303.trans (congrArg some kq)
  f285:=Tryz.func304.trans (congrArg some kq)
  f286:=Tryz.func305.trans (congrArg some kq)
  f316:=Tryz.func327.trans (congrArg some kq)
  f317:=Tryz.func321.trans (congrArg some kq)
  f318:=Tryz.func323.trans (congrArg some kq)
  f319:=Tryz.func324.trans (congrArg some kq)
  f320:=Tryz.func325.trans (congrArg some kq)
  f337:=Tryz.func331.trans (congrArg some kq)
  f338:=Tryz.func332.trans (congrArg some kq)
  t0:=Tryz.underlying0
  a0:=Tryz.isAgg0
  z0:=Tryz.sizeOf0
  v0:=Tryz.zeroValue0
  t2:=Tryz.underlying2
  a2:=Tryz.isAgg2
  z2:=Tryz.sizeOf2
  v2:=Tryz.zeroValue2
  t3:=Tryz.underlying3
  a3:=Tryz.isAgg3
  z3:=Tryz.sizeOf3
  v3:=Tryz.zeroValue3
  t4:=Tryz.underlying4
  a4:=Tryz.isAgg4
  z4:=Tryz.sizeOf4
  v4:=Tryz.zeroValue4
  t5:=Tryz.underlying5
  a5:=Tryz.isAgg5
  z5:=Tryz.sizeOf5
  v5:=Tryz.zeroValue5
  t9:=Tryz.underlying9
  a9:=Tryz.isAgg9
  z9:=Tryz.sizeOf9
  v9:=Tryz.zeroValue9
  t20:=Tryz.underlying20
  a20:=Tryz.isAgg20
  z20:=Tryz.sizeOf20
  v20:=Tryz.zeroValue20
  t37:=Tryz.underlying97
  a37:=Tryz.isAgg97
  z37:=Tryz.sizeOf97
  v37:=Tryz.zeroValue97
  t46:=Tryz.underlying236
  a46:=Tryz.isAgg236
  z46:=Tryz.sizeOf236
  v46:=Tryz.zeroValue236
  t51:=Tryz.underlying256
  a51:=Tryz.isAgg256
  z51:=Tryz.sizeOf256
  v51:=Tryz.zeroValue256
  t53:=Tryz.underlying106
  a53:=Tryz.isAgg106
  z53:=Tryz.sizeOf106
  v53:=Tryz.zeroValue106
  t75:=Tryz.underlying139
  a75:=Tryz.isAgg139
  z75:=Tryz.sizeOf139
  v75:=Tryz.zeroValue139
  t127:=Tryz.underlying199
  a127:=Tryz.isAgg199
  z127:=Tryz.sizeOf199
  v127:=Tryz.zeroValue199
  t143:=Tryz.underlying310
  a143:=Tryz.isAgg310
  z143:=Tryz.sizeOf310
  v143:=Tryz.zeroValue310
  t145:=Tryz.underlying312
  a145:=Tryz.isAgg312
  z145:=Tryz.sizeOf312
  v145:=Tryz.zeroValue312
  t167:=Tryz.underlying284
  a167:=Tryz.isAgg284
  z167:=Tryz.sizeOf284
  v167:=Tryz.zeroValue284
  t168:=Tryz.underlying287
  a168:=Tryz.isAgg287
  z168:=Tryz.sizeOf287
  v168:=Tryz.zeroValue287
  t171:=Tryz.underlying278
  a171:=Tryz.isAgg278
  z171:=Tryz.sizeOf278
  v171:=Tryz.zeroValue278
  t173:=Tryz.underlying280
  a173:=Tryz.isAgg280
  z173:=Tryz.sizeOf280
  v173:=Tryz.zeroValue280
  t210:=Tryz.underlying300
  a210:=Tryz.isAgg300
  z210:=Tryz.sizeOf300
  v210:=Tryz.zeroValue300
  t212:=Tryz.underlying296
  a212:=Tryz.isAgg296
  z212:=Tryz.sizeOf296
  v212:=Tryz.zeroValue296
  t213:=Tryz.underlying297
  a213:=Tryz.isAgg297
  z213:=Tryz.sizeOf297
  t232:=Tryz.underlying316
  a232:=Tryz.isAgg316
  z232:=Tryz.sizeOf316
  v232:=Tryz.zeroValue316
  t233:=Tryz.underlying317
  a233:=Tryz.isAgg317
  z233:=Tryz.sizeOf317
  v233:=Tryz.zeroValue317
  g15:=kq
  g16:=kq
  g17:=kq
  g18:=kq
  g19:=kq
  t80:=Tryz.underlying142
  a80:=Tryz.isAgg142
  z80:=Tryz.sizeOf142
  v80:=Tryz.zeroValue142
  i0:=kq
  i2:=kq
  i3:=kq
  i4:=kq
  i5:=kq
  i9:=kq
  i20:=kq
  i37:=kq
  i46:=kq
  i51:=kq
  i53:=kq
  i75:=kq
  i80:=kq
  i127:=kq
  i143:=kq
  i145:=kq
  i167:=kq
  i168:=kq
  i171:=kq
  i173:=kq
  i210:=kq
  i212:=kq
  i232:=kq
  i233:=kq
  m15:=kq
  m16:=kq
  m17:=kq
  m18:=kq
  m19:=kq
  c0:=kq
  c2:=kq
  c3:=kq
  c4:=kq
  c5:=kq
  c9:=kq
  c20:=kq
  c37:=kq
  c46:=kq
  c51:=kq
  c53:=kq
  c75:=kq
  c80:=kq
  c127:=kq
  c143:=kq
  c145:=kq
  c167:=kq
  c168:=kq
  c171:=kq
  c173:=kq
  c210:=kq
  c212:=kq
  c213:=kq
  c232:=kq
  c233:=kq }
open Go.RowKit in
theorem Tryz.strings_ToLower_ascii (s : ByteArray) (w : World) (hs : s.size ≤ 140737488355328) (hascii : ∀ (j : Nat) (b : UInt8),s.data.toList[j]? = some b → b.toNat < 128) :
    Calls Tryz.prog 260 #[.string s] w fun e w'=>e = .returned (.string ⟨(Lib.toLowerA s.data.toList).toArray⟩) ∧ Below w.heap.size w w':=Any.strings_ToLower_ascii Tryz.lays159 Tryz.Builder_Extra_159 s w hs hascii
open Go.RowKit in
theorem Tryz.strconv_toError_syntax (fn s : ByteArray) (base bits : Int) (ev : Value) (w : World) (hlim : s.size ≤ 281474976710656) (hv : w.cell? ⟨4,0,none⟩ = some ev) (hev : ev = .nilIface ∨ ∃ te pe,ev = .iface te pe) :
    Calls Tryz.prog 293 #[.string fn,.string s,.int .i64 base,.int .i64 bits,.iface 284 (.int .i64 2)] w fun e w'=>∃ N,e = .returned (.iface 287 (.pointer (some ⟨N,0,none⟩))) ∧ w.heap.size ≤ N ∧ w'.heap[N]? = some (.cells #[.string fn,.string s,ev] 300 (0,0)) ∧ Below w.heap.size w w':=Any.strconv_toError_syntax Tryz.laysC245 fn s base bits ev w hlim hv hev
end Go.Proofs
end
section
namespace Go.Proofs
open Go Go.SX Go.RowKit
set_option maxRecDepth 10000
theorem noF_end {ρ:Nat→Nat} {ps:List Pers} {w w':World} (v:Nat→RV) (N:Nat) (hb:Below w.heap.size w w') (hv:(v N).wf noF.W):GivesK ρ ({ noF with pers:=ps }) (fun _:Nat=>True) v (fun _=>noF) w (.returned ((v N).den ρ)) w' :=
 ⟨N,ρ,trivial,rfl,fun _ _=>rfl,Nat.le_refl _,fun b _ h2=>absurd h2 (Nat.not_lt_zero b),⟨fun b blk hb=>(by cases hb),fun b c hb=>absurd hb (Nat.not_lt_zero b),fun b hb=>absurd hb (Nat.not_lt_zero b),fun r R hR=>(by cases hR),fun r r' R R' hR=>(by cases hR),fun p hp=>(by cases hp)⟩,
    fun b hb=>absurd hb (Nat.not_lt_zero b),hv,⟨hb.os,hb.tape,hb.output,hb.size,fun k hk _=>hb.block k hk⟩,fun b blk hb=>absurd hb (Nat.not_lt_zero b),fun r R hR=>(by cases hR),fun p hp=>(by cases hp)⟩
theorem cToErr (s:List UInt8) (hl:s.length≤281474976710656):CallsK Tryz.prog 293 [.one (.str [80,97,114,115,101,85,105,110,116]),.one (.str s),.one (.int .i64 16),.one (.int .i64 8),.one (.val (.iface 284 (.int .i64 2)))] glbF (fun _:Nat=>True)
  (fun N=>.v (.one (.val (.iface 287 (.pointer (some ⟨N,0,none⟩)))))) (fun _=>noF):=by
 intro ρ w hF;have hg:GlbOk w:=(hF.pers glbP (List.mem_singleton.2 rfl)).1;obtain ⟨tp,p,hv⟩:=hg.syn;have hc:=World.var?_cell (P:=Tryz.prog) (show Tryz.prog.globalNamed "strconv.ErrSyntax" = some 4 by kernel_rfl) hv 0;refine (Tryz.strconv_toError_syntax ⟨[80,97,114,115,101,85,105,110,116].toArray⟩ ⟨s.toArray⟩ 16 8 (.iface tp p) w (by rw [ba_size]; exact hl) hc (.inr ⟨tp,p,rfl⟩)).mono ?_;rintro e w' ⟨N,rfl,_,_,hb⟩;exact noF_end (ps:=[glbP]) (fun N=>.v (.one (.val (.iface 287 (.pointer (some ⟨N,0,none⟩)))))) N hb trivial
theorem cToLower (s:List UInt8) (hl:s.length≤140737488355328) (ha:s.all (fun b=>decide (b.toNat<128))=true):CallsK Tryz.prog 260 [.one (.str s)] noF (fun _:Nat=>True) (fun _=>.v (.one (.str (Lib.toLowerA s)))) (fun _=>noF):=by
 intro ρ w hF;refine (Tryz.strings_ToLower_ascii ⟨s.toArray⟩ w (by rw [ba_size]; exact hl) (fun j b hb=>by
  have:=List.all_eq_true.1 ha b (List.mem_of_getElem? hb);simpa using this)).mono ?_
 rintro e w' ⟨rfl,hb⟩;exact noF_end (ps:=[]) (fun _=>.v (.one (.str (Lib.toLowerA s)))) 0 hb trivial
theorem cPUok (a b:UInt8) (h:puB a b=true):CallsK Tryz.prog 259 [.one (.str [a,b]),.one (.int .i64 16),.one (.int .i64 8)] glbF (fun _:Unit=>True) (fun _=>.tup [.one (.int .u64 (duV a*16+duV b)),.one (.val .nilIface)]) (fun _=>noF):=by
 have h0:=cPUin a b;rw [show puV a b=.tup [.one (.int .u64 (duV a*16+duV b)),.one (.val .nilIface)] by unfold puV; rw [h]; rfl] at h0;refine CallsK.m true Tryz.func259 (fun ρ w=>?_);refine V.q ?_;refine V.c [] h0 (fun _ _=>?_);refine V.rc [] 40 [] trivial ?_;exact V.z
theorem cPUno (a b:UInt8) (h:puB a b=false):CallsK Tryz.prog 259 [.one (.str [a,b]),.one (.int .i64 16),.one (.int .i64 8)] glbF (fun _:Nat=>True) (fun N=>.tup [.one (.int .u64 0),.one (.val (.iface 287 (.pointer (some ⟨N,0,none⟩))))]) (fun _=>noF):=by
 have h0:=cPUin a b;rw [show puV a b=.tup [.one (.int .u64 0),.one (.val (.iface 284 (.int .i64 2)))] by unfold puV; rw [h]; rfl] at h0;refine CallsK.m true Tryz.func259 (fun ρ w=>?_);refine V.q ?_;refine V.c [] h0 (fun _ _=>?_);refine V.rc [] 40 [] trivial ?_;refine V.c [(0,false)] (cToErr [a,b] (by simp)) (fun N _=>?_);refine V.rc [] 40 [] trivial ?_;exact V.e N [] trivial
theorem hx_char:∀ n:Fin 256,(match hexV (UInt8.ofNat n.val) with
  | some v=>duB (UInt8.ofNat n.val)&&(Lib.lowerB (UInt8.ofNat n.val)==UInt8.ofNat n.val)&&(duV (UInt8.ofNat n.val)==(v:Int))
  | none=>!(duB (UInt8.ofNat n.val)&&(Lib.lowerB (UInt8.ofNat n.val)==UInt8.ofNat n.val)))&&(!duB (UInt8.ofNat n.val)||decide (n.val<128))=true:=by decide +kernel
theorem hx_some {c:UInt8} {v:Nat} (h:hexV c=some v):duB c=true∧Lib.lowerB c=c∧duV c=(v:Int):=by
 have h1:=hx_char ⟨c.toNat,c.toNat_lt⟩;have e:UInt8.ofNat c.toNat=c:=by simp
 simp only [e,h] at h1;simp only [Bool.and_eq_true,beq_iff_eq] at h1;exact ⟨h1.1.1.1,h1.1.1.2,h1.1.2⟩
theorem hx_none {c:UInt8} (h:hexV c=none):(duB c&&(Lib.lowerB c==c))=false:=by
 have h1:=hx_char ⟨c.toNat,c.toNat_lt⟩;have e:UInt8.ofNat c.toNat=c:=by simp
 simp only [e,h] at h1;rw [Bool.and_eq_true,Bool.not_eq_true'] at h1;exact h1.1
theorem hx_asc {c:UInt8} (h:duB c=true):c.toNat<128:=by
 have h1:=hx_char ⟨c.toNat,c.toNat_lt⟩;have e:UInt8.ofNat c.toNat=c:=by simp
 simp only [e,h] at h1;rw [Bool.and_eq_true] at h1;simpa using h1.2
theorem unhL_even:∀ (t s:List UInt8),unhL t=some s→t.length % 2=0
 | [],_,_=>rfl
 | [a],s,h=>by simp [unhL] at h
 | a::b::l,s,h=>by
  rw [unhL] at h;cases ha:hexV a with
  | none=>rw [ha] at h; simp at h
  | some x =>
   cases hb:hexV b with
   | none=>rw [ha,hb] at h; simp at h
   | some y =>
    rw [ha,hb] at h;cases hl:unhL l with
    | none=>rw [hl] at h; simp at h
    | some r =>
     have:=unhL_even l r hl;simp only [List.length_cons];omega
def uhP (t:List UInt8) (i:Nat) (l:List UInt8):Prop:=i≤t.length∧i % 2=0∧unhL t=(unhL (t.drop i)).map (l++·)
theorem two_at {t:List UInt8} {i:Nat} (h:i+2≤t.length):t.drop i=t.getD i 0::t.getD (i+1) 0::t.drop (i+2)∧(t.take (i+2)).drop i=[t.getD i 0,t.getD (i+1) 0]:=by
 have h1:t.drop i=t.getD i 0::t.getD (i+1) 0::t.drop (i+2):=by
  rw [List.drop_eq_getElem_cons (by omega),List.drop_eq_getElem_cons (by omega),List.getD,List.getD,List.getElem?_eq_getElem (by omega),List.getElem?_eq_getElem (by omega)];rfl
 refine ⟨h1,?_⟩;rw [List.drop_take,h1,Nat.add_sub_cancel_left];rfl
theorem uhP_next {t:List UInt8} {i:Nat} {l:List UInt8} (h:uhP t i l) (hi:i+2≤t.length) (hp:puB (t.getD i 0) (t.getD (i+1) 0)=true) (hl:Lib.toLowerA [t.getD i 0,t.getD (i+1) 0]=[t.getD i 0,t.getD (i+1) 0]) :
  uhP t (i+2) (l++[UInt8.ofNat (duV (t.getD i 0)*16+duV (t.getD (i+1) 0)).toNat]):=by
 obtain ⟨h1,h2,h3⟩:=h;refine ⟨hi,by omega,?_⟩;rw [h3,(two_at hi).1,unhL];unfold puB at hp;rw [Bool.and_eq_true] at hp;simp only [Lib.toLowerA,List.map_cons,List.map_nil,List.cons.injEq,and_true] at hl;cases ha:hexV (t.getD i 0) with
 | none=>have:=hx_none ha; rw [hp.1,hl.1] at this; simp at this
 | some x =>
  cases hb:hexV (t.getD (i+1) 0) with
  | none=>have:=hx_none hb; rw [hp.2,hl.2] at this; simp at this
  | some y =>
   obtain ⟨_,_,e1⟩:=hx_some ha;obtain ⟨_,_,e2⟩:=hx_some hb;simp only;rw [e1,e2,show ((x:Int)*16+(y:Int)).toNat=16*x+y by omega];cases unhL (t.drop (i+2)) with
   | none=>rfl
   | some r=>simp
theorem uhP_no {t:List UInt8} {i:Nat} {l:List UInt8} (h:uhP t i l) (hi:i+2≤t.length) (hp:puB (t.getD i 0) (t.getD (i+1) 0)=false∨Lib.toLowerA [t.getD i 0,t.getD (i+1) 0]≠[t.getD i 0,t.getD (i+1) 0]):unhL t=none:=by
 obtain ⟨h1,h2,h3⟩:=h;rw [h3,(two_at hi).1,unhL];cases ha:hexV (t.getD i 0) with
 | none=>rfl
 | some x =>
  cases hb:hexV (t.getD (i+1) 0) with
  | none=>rfl
  | some y =>
   obtain ⟨b1,l1,_⟩:=hx_some ha;obtain ⟨b2,l2,_⟩:=hx_some hb;rcases hp with hp | hp
   ·unfold puB at hp;rw [b1,b2] at hp;cases hp
   ·exact absurd (show [Lib.lowerB _,Lib.lowerB _]=_ by rw [l1,l2]) hp
theorem pu_asc {a b:UInt8} (h:puB a b=true):[a,b].all (fun b=>decide (b.toNat<128))=true:=by
 unfold puB at h;rw [Bool.and_eq_true] at h;have h1:=hx_asc h.1;have h2:=hx_asc h.2;simp [h1,h2]
theorem un_no {s:List UInt8} (h:Lib.hasPrefix s [61]=false∨unhL (Lib.trimPrefix s [61])=none):unB s=false∧unN s=[]:=by
 have hb:unB s=false:=by
  unfold unB;rcases h with h | h
  ·rw [h]; rfl
  ·rw [h]; exact Bool.and_false _
 refine ⟨hb,?_⟩;unfold unN;rw [hb]; rfl
theorem un_odd {s:List UInt8} (h:(!Lib.hasPrefix s [61]||(((Lib.trimPrefix s [61]).length:Int).tmod 2 != 0))=true):unB s=false∧unN s=[]:=by
 rw [Bool.or_eq_true,Bool.not_eq_true'] at h;rcases h with h | h
 ·exact un_no (.inl h)
 ·refine un_no (.inr ?_);cases e:unhL (Lib.trimPrefix s [61]) with
  | none=>rfl
  | some r =>
   have h1:=unhL_even _ _ e;have h2:((Lib.trimPrefix s [61]).length:Int).tmod 2=(((Lib.trimPrefix s [61]).length % 2:Nat):Int):=rfl;rw [h2,h1] at h;cases h
theorem un_even {s:List UInt8} (h:(!Lib.hasPrefix s [61]||(((Lib.trimPrefix s [61]).length:Int).tmod 2 != 0))=false):Lib.hasPrefix s [61]=true∧(Lib.trimPrefix s [61]).length % 2=0:=by
 rw [Bool.or_eq_false_iff,Bool.not_eq_false'] at h;refine ⟨h.1,?_⟩;have h2:((Lib.trimPrefix s [61]).length:Int).tmod 2=(((Lib.trimPrefix s [61]).length % 2:Nat):Int):=rfl;have h3:=h.2;rw [h2] at h3;simp at h3;omega
theorem un_yes {s l:List UInt8} (h:Lib.hasPrefix s [61]=true) (h2:unhL (Lib.trimPrefix s [61])=some l):unB s=true∧unN s=l:=by
 have hb:unB s=true:=by
  unfold unB;rw [h,h2]; rfl
 refine ⟨hb,?_⟩;unfold unN;rw [hb,h2]; rfl
theorem wrap_n2 {n:Nat} (h:n<4611686018427387904):IntKind.i64.wrap ((n:Int)+2)=((n+2:Nat):Int):=by
 simp [IntKind.wrap,IntKind.bits,IntKind.signed];omega
theorem pu_byte {a b:UInt8} (h:puB a b=true):IntKind.u8.wrap (duV a*16+duV b)=((UInt8.ofNat (duV a*16+duV b).toNat).toNat:Int):=by
 unfold puB at h;rw [Bool.and_eq_true] at h;have h1:=duB_lt h.1;have h2:=duB_lt h.2;have e:(UInt8.ofNat (duV a*16+duV b).toNat).toNat=(duV a*16+duV b).toNat:=by simp; omega
 rw [e];simp [IntKind.wrap,IntKind.bits,IntKind.signed];omega
def uhSt (t:List UInt8) (j:HXI):St :=
 { n:=57,slots:=[(0,.v (.one (.str t))),(5,.v (.one (.ptr 0 0))),(6,.v (.one (.int .i64 (j.i:Int))))],gs:=[],heap:=[(0,⟨[.ptr 0 0,.row 0 j.q j.l.length j.c],137,true⟩)],next:=1,rows:=[(0,rowL bsv 0 j.l j.q j.c 5 1 true)],nr:=1,pers:=[glbP],wr:=true,fx:=0 }
set_option maxHeartbeats 4000000 in
theorem cUnhex (s:List UInt8) (hs:s.length≤1000000000):CallsK Tryz.prog 187 [.one (.str s)] glbF (fun _:Unit=>True) (fun _=>.tup [.one (.str (unN s)),.one (.sb (unB s))]) (fun _=>noF):=by
 obtain ⟨t,ht⟩:∃ t,Lib.trimPrefix s [61]=t:=⟨_,rfl⟩;have htl:t.length≤1000000000:=by rw [← ht]; exact trimP_len s [61] hs
 obtain ⟨nv,hnv⟩:∃ nv,unN s=nv:=⟨_,rfl⟩;obtain ⟨bv,hbv⟩:∃ bv,unB s=bv:=⟨_,rfl⟩;rw [hnv,hbv];refine CallsK.m true Tryz.func187 (fun ρ w=>?_);refine V.t [sCutPrefix.e] [(!Lib.hasPrefix s [61])=false→(2:Int)≠0] (fun _=>by decide) ?_;refine V.bn 21 (!Lib.hasPrefix s [61]||(((Lib.trimPrefix s [61]).length:Int).tmod 2 != 0)) (fun hb=>?_) (fun hb=>?_)
 ·have hno:=un_odd hb;have e1:nv=[]:=hnv.symm.trans hno.2;have e2:bv=false:=hbv.symm.trans hno.1;subst e1;subst e2;refine V.q ?_;refine V.sb 3 false ?_;exact V.z
 ·obtain ⟨hpre,hev⟩:=un_even hb;rw [ht] at hev;have hinv:uhP t 0 []:=⟨Nat.zero_le _,rfl,by simp⟩;refine V.s 0 (.one (.str (Lib.trimPrefix s [61]))) (.one (.str t)) (fun _=>by rw [ht]) ?_;refine V.q ?_;refine V.iter ?_;refine V.q ?_;refine V.bn 25 (decide ((0:Int)<t.length)) (fun hc=>?_) (fun hc=>?_)
  ·refine V.s 6 (.one (.int .i64 0)) (.one (.int .i64 ((0:Nat):Int))) (fun _=>rfl) ?_;have h2:0+2≤t.length:=by
    have h3:=hinv.2.1;have h4:((0:Nat):Int)<(t.length:Int):=by simpa using hc
    omega
   have hw2:IntKind.i64.wrap (((0:Nat):Int)+2)=((0+2:Nat):Int):=wrap_n2 (by omega);have hob:(0:Int)≤((0:Nat):Int)∧((0:Nat):Int)≤IntKind.i64.wrap (((0:Nat):Int)+2)∧IntKind.i64.wrap (((0:Nat):Int)+2)≤(t.length:Int):=by rw [hw2]; omega
   have hraw:((t.take (IntKind.i64.wrap ((0:Nat)+2)).toNat).drop ((0:Nat):Int).toNat)=[t.getD (0:Nat) 0,t.getD (0+1) 0]:=by rw [hw2,← (two_at h2).2,Int.toNat_natCast,Int.toNat_natCast]
   refine V.t [] [(0:Int)≤((0:Nat):Int)∧((0:Nat):Int)≤IntKind.i64.wrap (((0:Nat):Int)+2)∧IntKind.i64.wrap (((0:Nat):Int)+2)≤(t.length:Int)] hob ?_;refine V.s 33 (.one (.str ((t.take (IntKind.i64.wrap ((0:Nat)+2)).toNat).drop ((0:Nat):Int).toNat))) (.one (.str [t.getD (0:Nat) 0,t.getD (0+1) 0])) (fun _=>by rw [hraw]) ?_;by_cases hp:puB (t.getD (0:Nat) 0) (t.getD (0+1) 0)=true
   case neg =>
    have hp:puB (t.getD (0:Nat) 0) (t.getD (0+1) 0)=false:=by simpa using hp
    refine V.c [(0,false)] (cPUno _ _ hp) (fun _ _=>?_);refine V.q ?_;have hno:=un_no (s:=s) (.inr (by rw [ht]; exact uhP_no hinv h2 (.inl hp)));have e1:nv=[]:=hnv.symm.trans hno.2;have e2:bv=false:=hbv.symm.trans hno.1;subst e1;subst e2;refine V.sb 3 false ?_;exact V.z
   have hdv:UInt8.ofNat (duV (t.getD (0:Nat) 0)*16+duV (t.getD (0+1) 0)).toNat=UInt8.ofNat (duV (t.getD (0:Nat) 0)*16+duV (t.getD (0+1) 0)).toNat:=rfl;refine V.c [(0,false)] (cPUok _ _ hp) (fun _ _=>?_);refine V.q ?_;refine V.drawX [] [] 15 kq ?_;refine @VX.run _ [] [] 15 _ _ ([]:List (Ent Tryz.prog)) [(0:Int)≤((0:Nat):Int)∧((0:Nat):Int)≤IntKind.i64.wrap (((0:Nat):Int)+2)∧IntKind.i64.wrap (((0:Nat):Int)+2)≤(t.length:Int),(0:Int)≤((0:Nat):Int)∧((0:Nat):Int)≤IntKind.i64.wrap (((0:Nat):Int)+2)∧IntKind.i64.wrap (((0:Nat):Int)+2)≤(t.length:Int)] kq kq ⟨hob,hob⟩ ?_;refine @VX.callK _ [] [] 15 _ _ Nat 260 [.one (.str ((t.take (IntKind.i64.wrap ((0:Nat)+2)).toNat).drop ((0:Nat):Int).toNat))] noF _ _ _ [] (cToLower ((t.take (IntKind.i64.wrap ((0:Nat)+2)).toNat).drop ((0:Nat):Int).toNat) (by rw [hraw]; simp) (by rw [hraw]; exact pu_asc hp)) kq kq kq (fun _=>kq) (fun _ _=>?_);refine @VX.run _ [] [] 15 _ _ ([]:List (Ent Tryz.prog)) [] kq kq trivial ?_;refine @VX.stop _ [] [] 15 _ _ kq ?_;refine V.bn 52 (!(Lib.toLowerA ((t.take (IntKind.i64.wrap ((0:Nat)+2)).toNat).drop ((0:Nat):Int).toNat)==((t.take (IntKind.i64.wrap ((0:Nat)+2)).toNat).drop ((0:Nat):Int).toNat))) (fun hlo=>?_) (fun hlo=>?_)
   ·have hlo':Lib.toLowerA [t.getD (0:Nat) 0,t.getD (0+1) 0]≠[t.getD (0:Nat) 0,t.getD (0+1) 0]:=by rw [hraw] at hlo; simpa using hlo
    refine V.q ?_;have hno:=un_no (s:=s) (.inr (by rw [ht]; exact uhP_no hinv h2 (.inr hlo')));have e1:nv=[]:=hnv.symm.trans hno.2;have e2:bv=false:=hbv.symm.trans hno.1;subst e1;subst e2;refine V.sb 3 false ?_;exact V.z
   have hlo':Lib.toLowerA [t.getD (0:Nat) 0,t.getD (0+1) 0]=[t.getD (0:Nat) 0,t.getD (0+1) 0]:=by rw [hraw] at hlo; simpa using hlo
   refine V.q ?_;refine V.s 54 (.one (.int .u8 (IntKind.u8.wrap (duV (t.getD (0:Nat) 0)*16+duV (t.getD (0+1) 0))))) (.one (.int .u8 (((UInt8.ofNat (duV (t.getD (0:Nat) 0)*16+duV (t.getD (0+1) 0)).toNat)).toNat:Int))) (fun _=>by rw [pu_byte hp]) ?_;refine V.c [] (wbyte_new (UInt8.ofNat (duV (t.getD (0:Nat) 0)*16+duV (t.getD (0+1) 0)).toNat)) (fun y _=>?_);refine V.q ?_;refine V.s 6 (.one (.int .i64 (IntKind.i64.wrap (((0:Nat):Int)+2)))) (.one (.int .i64 ((0+2:Nat):Int))) (fun _=>by rw [hw2]) ?_;refine V.loopK [0,5,6] [true] (fun j:HXI=>t.length - j.i) (uhSt t) (fun j=>uhP t j.i j.l∧j.l.length≤j.i) ⟨[(UInt8.ofNat (duV (t.getD (0:Nat) 0)*16+duV (t.getD (0+1) 0)).toNat)],y.1,y.2,2⟩ kq ⟨uhP_next hinv h2 hp hlo',by simp⟩ (fun j hj ih=>?_);clear hinv hc h2 hob hraw hp hlo hlo' hw2;obtain ⟨l,q,c,i⟩:=j;obtain ⟨hinv,hli⟩:=hj;simp only at hinv hli;have hi1:=hinv.1;refine V.iter ?_;refine V.q ?_;refine V.bn 25 (decide ((i:Int)<t.length)) (fun hc=>?_) (fun hc=>?_)
   ·skip
    have h2:i+2≤t.length:=by
     have h3:=hinv.2.1;have h4:((i:Nat):Int)<(t.length:Int):=by simpa using hc
     omega
    have hw2:IntKind.i64.wrap (((i:Nat):Int)+2)=((i+2:Nat):Int):=wrap_n2 (by omega);have hob:(0:Int)≤((i:Nat):Int)∧((i:Nat):Int)≤IntKind.i64.wrap (((i:Nat):Int)+2)∧IntKind.i64.wrap (((i:Nat):Int)+2)≤(t.length:Int):=by rw [hw2]; omega
    have hraw:((t.take (IntKind.i64.wrap ((i:Nat)+2)).toNat).drop ((i:Nat):Int).toNat)=[t.getD i 0,t.getD (i+1) 0]:=by rw [hw2,← (two_at h2).2,Int.toNat_natCast,Int.toNat_natCast]
    refine V.t [] [(0:Int)≤((i:Nat):Int)∧((i:Nat):Int)≤IntKind.i64.wrap (((i:Nat):Int)+2)∧IntKind.i64.wrap (((i:Nat):Int)+2)≤(t.length:Int)] hob ?_;refine V.s 33 (.one (.str ((t.take (IntKind.i64.wrap ((i:Nat)+2)).toNat).drop ((i:Nat):Int).toNat))) (.one (.str [t.getD i 0,t.getD (i+1) 0])) (fun _=>by rw [hraw]) ?_;by_cases hp:puB (t.getD i 0) (t.getD (i+1) 0)=true
    case neg =>
     have hp:puB (t.getD i 0) (t.getD (i+1) 0)=false:=by simpa using hp
     refine V.c [(0,false)] (cPUno _ _ hp) (fun _ _=>?_);refine V.q ?_;have hno:=un_no (s:=s) (.inr (by rw [ht]; exact uhP_no hinv h2 (.inl hp)));have e1:nv=[]:=hnv.symm.trans hno.2;have e2:bv=false:=hbv.symm.trans hno.1;subst e1;subst e2;refine V.sb 3 false ?_;exact V.z
    have hdv:UInt8.ofNat (duV (t.getD i 0)*16+duV (t.getD (i+1) 0)).toNat=UInt8.ofNat (duV (t.getD i 0)*16+duV (t.getD (i+1) 0)).toNat:=rfl;refine V.c [(0,false)] (cPUok _ _ hp) (fun _ _=>?_);refine V.q ?_;refine V.drawX [] [] 15 kq ?_;refine @VX.run _ [] [] 15 _ _ ([]:List (Ent Tryz.prog)) [(0:Int)≤((i:Nat):Int)∧((i:Nat):Int)≤IntKind.i64.wrap (((i:Nat):Int)+2)∧IntKind.i64.wrap (((i:Nat):Int)+2)≤(t.length:Int),(0:Int)≤((i:Nat):Int)∧((i:Nat):Int)≤IntKind.i64.wrap (((i:Nat):Int)+2)∧IntKind.i64.wrap (((i:Nat):Int)+2)≤(t.length:Int)] kq kq ⟨hob,hob⟩ ?_;refine @VX.callK _ [] [] 15 _ _ Nat 260 [.one (.str ((t.take (IntKind.i64.wrap ((i:Nat)+2)).toNat).drop ((i:Nat):Int).toNat))] noF _ _ _ [] (cToLower ((t.take (IntKind.i64.wrap ((i:Nat)+2)).toNat).drop ((i:Nat):Int).toNat) (by rw [hraw]; simp) (by rw [hraw]; exact pu_asc hp)) kq kq kq (fun _=>kq) (fun _ _=>?_);refine @VX.run _ [] [] 15 _ _ ([]:List (Ent Tryz.prog)) [] kq kq trivial ?_;refine @VX.stop _ [] [] 15 _ _ kq ?_;refine V.bn 52 (!(Lib.toLowerA ((t.take (IntKind.i64.wrap ((i:Nat)+2)).toNat).drop ((i:Nat):Int).toNat)==((t.take (IntKind.i64.wrap ((i:Nat)+2)).toNat).drop ((i:Nat):Int).toNat))) (fun hlo=>?_) (fun hlo=>?_)
    ·have hlo':Lib.toLowerA [t.getD i 0,t.getD (i+1) 0]≠[t.getD i 0,t.getD (i+1) 0]:=by rw [hraw] at hlo; simpa using hlo
     refine V.q ?_;have hno:=un_no (s:=s) (.inr (by rw [ht]; exact uhP_no hinv h2 (.inr hlo')));have e1:nv=[]:=hnv.symm.trans hno.2;have e2:bv=false:=hbv.symm.trans hno.1;subst e1;subst e2;refine V.sb 3 false ?_;exact V.z
    have hlo':Lib.toLowerA [t.getD i 0,t.getD (i+1) 0]=[t.getD i 0,t.getD (i+1) 0]:=by rw [hraw] at hlo; simpa using hlo
    refine V.q ?_;refine V.s 54 (.one (.int .u8 (IntKind.u8.wrap (duV (t.getD i 0)*16+duV (t.getD (i+1) 0))))) (.one (.int .u8 (((UInt8.ofNat (duV (t.getD i 0)*16+duV (t.getD (i+1) 0)).toNat)).toNat:Int))) (fun _=>by rw [pu_byte hp]) ?_;refine V.c [] (wbyte_used l q c (UInt8.ofNat (duV (t.getD i 0)*16+duV (t.getD (i+1) 0)).toNat) (by omega)) (fun y _=>?_);refine V.q ?_;refine V.s 6 (.one (.int .i64 (IntKind.i64.wrap (((i:Nat):Int)+2)))) (.one (.int .i64 ((i+2:Nat):Int))) (fun _=>by rw [hw2]) ?_;exact V.againK [0,5,6] [true] (ih ⟨l++[(UInt8.ofNat (duV (t.getD i 0)*16+duV (t.getD (i+1) 0)).toNat)],y.1,y.2,i+2⟩ ⟨uhP_next hinv h2 hp hlo',by simp only [List.length_append,List.length_cons,List.length_nil]; omega⟩ (by simp only; omega)) kq kq
   ·have hge:t.length≤i:=by
     have:¬ (i:Int)<(t.length:Int):=by simpa using hc
     omega
    have hye:=un_yes (s:=s) (l:=l) hpre (by rw [ht,hinv.2.2,List.drop_eq_nil_of_le hge]; simp [unhL]);have e1:nv=l:=hnv.symm.trans hye.2;have e2:bv=true:=hbv.symm.trans hye.1;subst e1;subst e2;refine V.q ?_;refine V.c [] (bstr_used nv q c (by omega)) (fun _ _=>?_);refine V.q ?_;refine V.sb 3 true ?_;exact V.z
  ·have hge:t.length=0:=by
    have:¬ (0:Int)<(t.length:Int):=by simpa using hc
    omega
   have hye:=un_yes (s:=s) (l:=[]) hpre (by rw [ht,List.length_eq_zero_iff.1 hge]; rfl);have e1:nv=[]:=hnv.symm.trans hye.2;have e2:bv=true:=hbv.symm.trans hye.1;subst e1;subst e2;refine V.q ?_;refine V.c [] bstr_new (fun _ _=>?_);refine V.q ?_;refine V.sb 3 true ?_;exact V.z
end Go.Proofs
end
section
namespace Go.Proofs
open Go Go.SX
set_option maxRecDepth 10000
noncomputable def sHex:Con Tryz.prog:=Con.s1 184 [glbP] (fun s=>(.v (.one (.str (hexT s))),[s.length≤1000000000])) (fun s ρ w hob hp =>
 CallsK.gives (cHex s (hob _ (List.mem_singleton.2 rfl))) ⟨rfl,rfl,rfl⟩ (fun _ _=>rfl) ρ w hp)
noncomputable def sUnhex:Con Tryz.prog:=Con.s1 187 [glbP] (fun s=>(.tup [.one (.str (unN s)),.one (.sb (unB s))],[s.length≤1000000000])) (fun s ρ w hob hp =>
 CallsK.gives (cUnhex s (hob _ (List.mem_singleton.2 rfl))) ⟨rfl,rfl,rfl⟩ (fun _ _=>rfl) ρ w hp)
noncomputable def aFlagText:Con Tryz.prog:=Con.auto Tryz.func210 true [] [] kq kq
noncomputable def T6:List (Ent Tryz.prog):=[⟨sItoa,[0]⟩,aFlagText.e,⟨sHex,[0]⟩]
noncomputable def aTypeText:Con Tryz.prog:=Con.auto Tryz.func174 true T6 [glbP] kq kq
noncomputable def aFmText:Con Tryz.prog:=Con.auto Tryz.func199 true T6 [glbP] kq kq
theorem hexTl (s:List UInt8):(hexT s).length=2*s.length+1:=by unfold hexT; rw [List.length_cons,hexL_len]
noncomputable def sTyText:Con Tryz.prog:=aTypeText.as (fun xs=>match xs with
  | [.agg [.int .i64 k,.int .i64 p,.int .i64 q,.sb v,.str s]]=>some (.v (.one (.str (tyTx ⟨k,p,q,v,s⟩))),[inK .i64 k∧inK .i64 p∧inK .i64 q∧s.length≤1000000000])
  | _=>none) (by
 intro xs v ob h hob;split at h
 ·rename_i k p q v s;simp only [Option.some.injEq,Prod.mk.injEq] at h;obtain ⟨rfl,rfl⟩:=h;obtain ⟨hk,hp,hq,hs⟩:=hob _ (List.mem_singleton.2 rfl);have h1:=Lib.itoa_length_le k hk.1 hk.2;have h2:=Lib.itoa_length_le p hp.1 hp.2;have h3:=Lib.itoa_length_le q hq.1 hq.2;have h4:(bitU v).length=1:=by cases v<;>rfl
  have h5:=hexTl s;refine ⟨.v (.one (.str (tyTx ⟨k,p,q,v,s⟩))),[inK .i64 k,
     ((Lib.itoa k:List UInt8).length+1:Nat)≤9223372036854775807,
     inK .i64 p,
     ((Lib.itoa k++[44]:List UInt8).length+(Lib.itoa p).length:Nat)≤9223372036854775807,
     ((Lib.itoa k++[44]++Lib.itoa p:List UInt8).length+1:Nat)≤9223372036854775807,
     inK .i64 q,
     ((Lib.itoa k++[44]++Lib.itoa p++[44]:List UInt8).length+(Lib.itoa q).length:Nat)≤9223372036854775807,
     ((Lib.itoa k++[44]++Lib.itoa p++[44]++Lib.itoa q:List UInt8).length+1:Nat)≤9223372036854775807,
     ((Lib.itoa k++[44]++Lib.itoa p++[44]++Lib.itoa q++[44]:List UInt8).length+(bitU v).length:Nat)≤9223372036854775807,
     ((Lib.itoa k++[44]++Lib.itoa p++[44]++Lib.itoa q++[44]++bitU v:List UInt8).length+1:Nat)≤9223372036854775807,
     s.length≤1000000000,
     ((Lib.itoa k++[44]++Lib.itoa p++[44]++Lib.itoa q++[44]++bitU v++[44]:List UInt8).length+(hexT s).length:Nat)≤9223372036854775807],kq,?_,fun _=>rfl⟩
  intro r hr;simp only [List.mem_cons,List.not_mem_nil,or_false] at hr;rcases hr with rfl | rfl | rfl | rfl | rfl | rfl | rfl | rfl | rfl | rfl | rfl | rfl
  all_goals first
   | exact hk
   | exact hp
   | exact hq
   | exact hs
   | omega
   | (simp only [List.length_append,List.length_cons,List.length_nil,h4]<;>omega)
 ·cases h)
noncomputable def sFmText:Con Tryz.prog:=aFmText.as (fun xs=>match xs with
  | [.agg [.int .i64 k,.int .i64 p,.int .i64 q,.str s]]=>some (.v (.one (.str (fmTx ⟨k,p,q,s⟩))),[inK .i64 k∧inK .i64 p∧inK .i64 q∧s.length≤1000000000])
  | _=>none) (by
 intro xs v ob h hob;split at h
 ·rename_i k p q s;simp only [Option.some.injEq,Prod.mk.injEq] at h;obtain ⟨rfl,rfl⟩:=h;obtain ⟨hk,hp,hq,hs⟩:=hob _ (List.mem_singleton.2 rfl);have h1:=Lib.itoa_length_le k hk.1 hk.2;have h2:=Lib.itoa_length_le p hp.1 hp.2;have h3:=Lib.itoa_length_le q hq.1 hq.2;have h5:=hexTl s;refine ⟨.v (.one (.str (fmTx ⟨k,p,q,s⟩))),[inK .i64 k,
     ((Lib.itoa k:List UInt8).length+1:Nat)≤9223372036854775807,
     inK .i64 p,
     ((Lib.itoa k++[44]:List UInt8).length+(Lib.itoa p).length:Nat)≤9223372036854775807,
     ((Lib.itoa k++[44]++Lib.itoa p:List UInt8).length+1:Nat)≤9223372036854775807,
     inK .i64 q,
     ((Lib.itoa k++[44]++Lib.itoa p++[44]:List UInt8).length+(Lib.itoa q).length:Nat)≤9223372036854775807,
     ((Lib.itoa k++[44]++Lib.itoa p++[44]++Lib.itoa q:List UInt8).length+1:Nat)≤9223372036854775807,
     s.length≤1000000000,
     ((Lib.itoa k++[44]++Lib.itoa p++[44]++Lib.itoa q++[44]:List UInt8).length+(hexT s).length:Nat)≤9223372036854775807],kq,?_,fun _=>rfl⟩
  intro r hr;simp only [List.mem_cons,List.not_mem_nil,or_false] at hr;rcases hr with rfl | rfl | rfl | rfl | rfl | rfl | rfl | rfl | rfl | rfl
  all_goals first
   | exact hk
   | exact hp
   | exact hq
   | exact hs
   | omega
   | (simp only [List.length_append,List.length_cons,List.length_nil]<;>omega)
 ·cases h)
def rowF (x:In) (A:IA):Row:=rowL Fm.cells fm0 x.f A.qf A.cf 93 4 false
def rowI (x:In) (A:IA):Row:=rowL intv 0 x.l A.ql A.cl 3 1 false
def rowT (x:In) (A:IA):Row:=rowL Ty.cells ty0 x.y A.qy A.cy 23 5 false
def psOf (ps:List Pers):St:={ noF with pers:=ps }
theorem all_at {α:Type} {l:List α} {f:α→Bool} {i:Nat} (h:i<l.length) (d:α) (hf:f (l.getD i d)=false):l.all f=false:=by
 rw [List.all_eq_false];refine ⟨l.getD i d,?_,by simpa using hf⟩;rw [List.getD,List.getElem?_eq_getElem h];exact List.getElem_mem h
theorem all_next {α:Type} {l:List α} {f:α→Bool} {i:Nat} (h:i<l.length) (d:α) (ha:(l.take i).all f=true) (hf:f (l.getD i d)=true):(l.take (i+1)).all f=true:=by
 rw [List.take_add_one,List.getElem?_eq_getElem h,List.all_append,ha];rw [List.getD,List.getElem?_eq_getElem h] at hf;simpa using hf
theorem wrap_up {i:Nat} (h:i<4000000000000000000):IntKind.i64.wrap ((i:Int)+1)=((i+1:Nat):Int):=by
 simp [IntKind.wrap,IntKind.bits,IntKind.signed];omega
def fnV (f:Nat):SV:=.val (.func (.func f) #[] #[])
def fineI (n:Int):Bool:=decide (n≥0)&&isRg n
def isFm (f:Fm):Bool:=isNum f.k&&isNum f.w&&isNum f.d&&decide ((f.s.length:Int)≤255)
noncomputable def aIsReg:Con Tryz.prog:=Con.auto Tryz.func152 true [] [] kq kq
noncomputable def aFineI:Con Tryz.prog:=Con.auto Tryz.func191 true [aIsReg.e] [] kq kq
noncomputable def aFineT:Con Tryz.prog:=Con.auto Tryz.func168 true [aIsNum.e] [] kq kq
noncomputable def aFineF:Con Tryz.prog:=Con.auto Tryz.func196 true [aIsNum.e] [] kq kq
noncomputable def selI:Con Tryz.prog:=Con.p1 190 25 (fun g o w hg=>by
 refine Calls.of_ptr g o hg false Tryz.func190 kq kq ?_;refine V.u ?_;exact V.ret (.v (.one (.ptr 0 (o+25)))) kq kq (fun ρ a w' hS=>ptr_fin rfl kq rfl rfl hS))
noncomputable def selT:Con Tryz.prog:=Con.p1 195 26 (fun g o w hg=>by
 refine Calls.of_ptr g o hg false Tryz.func195 kq kq ?_;refine V.u ?_;exact V.ret (.v (.one (.ptr 0 (o+26)))) kq kq (fun ρ a w' hS=>ptr_fin rfl kq rfl rfl hS))
noncomputable def selF:Con Tryz.prog:=Con.p1 202 24 (fun g o w hg=>by
 refine Calls.of_ptr g o hg false Tryz.func202 kq kq ?_;refine V.u ?_;exact V.ret (.v (.one (.ptr 0 (o+24)))) kq kq (fun ρ a w' hS=>ptr_fin rfl kq rfl rfl hS))
def lfI (x:In) (A:IA) (cb cf:Nat) (i:Nat):St :=
 { n:=27,slots:=[(1,.v (.one (.val (.pointer (some ⟨cb,0,none⟩))))),(2,.v (.one (.val (.pointer (some ⟨cf,0,none⟩))))),(3,.v (.one (.ptr 0 0))),(10,.v (.one (.row 0 A.ql x.l.length A.cl))),(11,.v (.one (.int .i64 x.l.length))),(12,.v (.one (.int .i64 i)))],gs:=[],
    heap:=[(0,⟨inV x A,30,true⟩)],next:=1,rows:=[(0,rowI x A)],nr:=1,pers:=[blkP cb [fnV 190] 212,blkP cf [fnV 191] 95],wr:=true,fx:=0 }
set_option maxHeartbeats 1000000 in
theorem lFineI (x:In) (A:IA) (cb cf:Nat) (hl:x.l.length≤100000):CallsK Tryz.prog 262 [.agg (inV x A),.one (.val (.pointer (some ⟨cb,0,none⟩))),.one (.val (.pointer (some ⟨cf,0,none⟩)))] (psOf [blkP cb [fnV 190] 212,blkP cf [fnV 191] 95,rowP (rowI x A)])
  (fun _:Unit=>True) (fun _=>.v (.one (.sb (x.l.all fineI&&decide ((x.l.length:Int)≤16))))) (fun _=>noF):=by
 refine CallsK.m true Tryz.func262 (fun ρ w=>?_);refine V.t [selI.e,aFineI.e] [] trivial ?_;refine V.lp 0 212 cb 0 [fnV 190] 212 (.one (fnV 190)) ?_;refine V.t [selI.e,aFineI.e] [] trivial ?_;refine V.ar 10 2 (rowI x A) ?_;refine V.loopK [1,2,3,10,11,12] [true,true] (fun i:Nat=>x.l.length - i) (lfI x A cb cf) (fun i=>i≤x.l.length∧(x.l.take i).all fineI=true) 0 kq ⟨Nat.zero_le _,rfl⟩ (fun i hi ih=>?_);obtain ⟨hi,hall⟩:=hi;refine V.iter ?_;refine V.t [selI.e,aFineI.e] [] trivial ?_;refine V.bn 13 (decide ((i:Int)<x.l.length)) (fun hb=>?_) (fun hb=>?_)
 ·have hlt:i<x.l.length:=by simpa using hb
  refine V.t [selI.e,aFineI.e] [(0:Int)≤i∧(i:Int)<x.l.length] ⟨by omega,by omega⟩ ?_;refine V.lp 1 95 cf 0 [fnV 191] 95 (.one (fnV 191)) ?_;refine V.t [selI.e,aFineI.e] [] trivial ?_;refine V.bn 19 (!fineI (x.l.getD i 0)) (fun hf=>?_) (fun hf=>?_)
  ·refine V.t [selI.e,aFineI.e] [] trivial ?_;rw [show (x.l.all fineI&&decide ((x.l.length:Int)≤16))=false by rw [all_at hlt 0 (by simpa using hf),Bool.false_and]];refine V.sb 4 false ?_;exact V.z
  ·refine V.t [selI.e,aFineI.e] [] trivial ?_;refine V.up 12 i (by omega) ?_;refine V.againK [1,2,3,10,11,12] [true,true] (ih (i+1) ⟨hlt,all_next hlt 0 hall (by simpa using hf)⟩ (by omega)) kq kq
 ·have hlen:x.l.length=i:=by
   have:¬ i<x.l.length:=by simpa using hb
   omega
  refine V.t [selI.e,aFineI.e] [] trivial ?_;refine V.lp 0 212 cb 0 [fnV 190] 212 (.one (fnV 190)) ?_;refine V.t [selI.e,aFineI.e] [] trivial ?_;rw [show x.l.all fineI=true by rw [← hlen,List.take_length] at hall; exact hall,Bool.true_and];exact V.z
def lfT (x:In) (A:IA) (cb cf:Nat) (i:Nat):St :=
 { n:=27,slots:=[(1,.v (.one (.val (.pointer (some ⟨cb,0,none⟩))))),(2,.v (.one (.val (.pointer (some ⟨cf,0,none⟩))))),(3,.v (.one (.ptr 0 0))),(10,.v (.one (.row 0 A.qy x.y.length A.cy))),(11,.v (.one (.int .i64 x.y.length))),(12,.v (.one (.int .i64 i)))],gs:=[],
    heap:=[(0,⟨inV x A,30,true⟩)],next:=1,rows:=[(0,rowT x A)],nr:=1,pers:=[blkP cb [fnV 195] 217,blkP cf [fnV 168] 180],wr:=true,fx:=0 }
set_option maxHeartbeats 1000000 in
theorem lFineT (x:In) (A:IA) (cb cf:Nat) (hl:x.y.length≤100000):CallsK Tryz.prog 269 [.agg (inV x A),.one (.val (.pointer (some ⟨cb,0,none⟩))),.one (.val (.pointer (some ⟨cf,0,none⟩)))] (psOf [blkP cb [fnV 195] 217,blkP cf [fnV 168] 180,rowP (rowT x A)])
  (fun _:Unit=>True) (fun _=>.v (.one (.sb (x.y.all isTy&&decide ((x.y.length:Int)≤16))))) (fun _=>noF):=by
 refine CallsK.m true Tryz.func269 (fun ρ w=>?_);refine V.t [selT.e,aFineT.e] [] trivial ?_;refine V.lp 0 217 cb 0 [fnV 195] 217 (.one (fnV 195)) ?_;refine V.t [selT.e,aFineT.e] [] trivial ?_;refine V.ar 10 2 (rowT x A) ?_;refine V.loopK [1,2,3,10,11,12] [true,true] (fun i:Nat=>x.y.length - i) (lfT x A cb cf) (fun i=>i≤x.y.length∧(x.y.take i).all isTy=true) 0 kq ⟨Nat.zero_le _,rfl⟩ (fun i hi ih=>?_);obtain ⟨hi,hall⟩:=hi;refine V.iter ?_;refine V.t [selT.e,aFineT.e] [] trivial ?_;refine V.bn 13 (decide ((i:Int)<x.y.length)) (fun hb=>?_) (fun hb=>?_)
 ·have hlt:i<x.y.length:=by simpa using hb
  refine V.t [selT.e,aFineT.e] [(0:Int)≤i∧(i:Int)<x.y.length] ⟨by omega,by omega⟩ ?_;refine V.lp 1 180 cf 0 [fnV 168] 180 (.one (fnV 168)) ?_;refine V.t [selT.e,aFineT.e] [] trivial ?_;refine V.bn 19 (!isTy (x.y.getD i ty0)) (fun hf=>?_) (fun hf=>?_)
  ·refine V.t [selT.e,aFineT.e] [] trivial ?_;rw [show (x.y.all isTy&&decide ((x.y.length:Int)≤16))=false by rw [all_at hlt ty0 (by simpa using hf),Bool.false_and]];refine V.sb 4 false ?_;exact V.z
  ·refine V.t [selT.e,aFineT.e] [] trivial ?_;refine V.up 12 i (by omega) ?_;refine V.againK [1,2,3,10,11,12] [true,true] (ih (i+1) ⟨hlt,all_next hlt ty0 hall (by simpa using hf)⟩ (by omega)) kq kq
 ·have hlen:x.y.length=i:=by
   have:¬ i<x.y.length:=by simpa using hb
   omega
  refine V.t [selT.e,aFineT.e] [] trivial ?_;refine V.lp 0 217 cb 0 [fnV 195] 217 (.one (fnV 195)) ?_;refine V.t [selT.e,aFineT.e] [] trivial ?_;rw [show x.y.all isTy=true by rw [← hlen,List.take_length] at hall; exact hall,Bool.true_and];exact V.z
def lfF (x:In) (A:IA) (cb cf:Nat) (i:Nat):St :=
 { n:=27,slots:=[(1,.v (.one (.val (.pointer (some ⟨cb,0,none⟩))))),(2,.v (.one (.val (.pointer (some ⟨cf,0,none⟩))))),(3,.v (.one (.ptr 0 0))),(10,.v (.one (.row 0 A.qf x.f.length A.cf))),(11,.v (.one (.int .i64 x.f.length))),(12,.v (.one (.int .i64 i)))],gs:=[],
    heap:=[(0,⟨inV x A,30,true⟩)],next:=1,rows:=[(0,rowF x A)],nr:=1,pers:=[blkP cb [fnV 202] 226,blkP cf [fnV 196] 181],wr:=true,fx:=0 }
set_option maxHeartbeats 1000000 in
theorem lFineF (x:In) (A:IA) (cb cf:Nat) (hl:x.f.length≤100000):CallsK Tryz.prog 275 [.agg (inV x A),.one (.val (.pointer (some ⟨cb,0,none⟩))),.one (.val (.pointer (some ⟨cf,0,none⟩)))] (psOf [blkP cb [fnV 202] 226,blkP cf [fnV 196] 181,rowP (rowF x A)])
  (fun _:Unit=>True) (fun _=>.v (.one (.sb (x.f.all isFm&&decide ((x.f.length:Int)≤16))))) (fun _=>noF):=by
 refine CallsK.m true Tryz.func275 (fun ρ w=>?_);refine V.t [selF.e,aFineF.e] [] trivial ?_;refine V.lp 0 226 cb 0 [fnV 202] 226 (.one (fnV 202)) ?_;refine V.t [selF.e,aFineF.e] [] trivial ?_;refine V.ar 10 2 (rowF x A) ?_;refine V.loopK [1,2,3,10,11,12] [true,true] (fun i:Nat=>x.f.length - i) (lfF x A cb cf) (fun i=>i≤x.f.length∧(x.f.take i).all isFm=true) 0 kq ⟨Nat.zero_le _,rfl⟩ (fun i hi ih=>?_);obtain ⟨hi,hall⟩:=hi;refine V.iter ?_;refine V.t [selF.e,aFineF.e] [] trivial ?_;refine V.bn 13 (decide ((i:Int)<x.f.length)) (fun hb=>?_) (fun hb=>?_)
 ·have hlt:i<x.f.length:=by simpa using hb
  refine V.t [selF.e,aFineF.e] [(0:Int)≤i∧(i:Int)<x.f.length] ⟨by omega,by omega⟩ ?_;refine V.lp 1 181 cf 0 [fnV 196] 181 (.one (fnV 196)) ?_;refine V.t [selF.e,aFineF.e] [] trivial ?_;refine V.bn 19 (!isFm (x.f.getD i fm0)) (fun hf=>?_) (fun hf=>?_)
  ·refine V.t [selF.e,aFineF.e] [] trivial ?_;rw [show (x.f.all isFm&&decide ((x.f.length:Int)≤16))=false by rw [all_at hlt fm0 (by simpa using hf),Bool.false_and]];refine V.sb 4 false ?_;exact V.z
  ·refine V.t [selF.e,aFineF.e] [] trivial ?_;refine V.up 12 i (by omega) ?_;refine V.againK [1,2,3,10,11,12] [true,true] (ih (i+1) ⟨hlt,all_next hlt fm0 hall (by simpa using hf)⟩ (by omega)) kq kq
 ·have hlen:x.f.length=i:=by
   have:¬ i<x.f.length:=by simpa using hb
   omega
  refine V.t [selF.e,aFineF.e] [] trivial ?_;refine V.lp 0 226 cb 0 [fnV 202] 226 (.one (fnV 202)) ?_;refine V.t [selF.e,aFineF.e] [] trivial ?_;rw [show x.f.all isFm=true by rw [← hlen,List.take_length] at hall; exact hall,Bool.true_and];exact V.z
theorem cNum (n:Int) (b:WSt) (h1:-2147483648≤n) (h2:n≤2147483647) (hb:b.bs.length≤1000000000):CallsK Tryz.prog 54 [.one (.ptr 0 0),.one (.int .i64 n)] (wrF [] b)
  (fun b':WSt=>b'.bs=b.bs++encN n∧b'.rs=b.rs++[]) (fun _=>.tup []) (wrF []):=CallsK.ofF (fun _=>rfl) (wnumber n b h1 h2 hb)
theorem cStr (l:List UInt8) (b:WSt) (hl:l.length≤1000000000) (hb:b.bs.length≤900000000):CallsK Tryz.prog 180 [.one (.ptr 0 0),.one (.str l)] (wrF [] b)
  (fun b':WSt=>b'.bs=b.bs++encS l∧b'.rs=b.rs++[]) (fun _=>.tup []) (wrF []):=CallsK.ofF (fun _=>rfl) (wstr l b hl hb)
theorem cTyp (t:Ty) (b:WSt) (h1:num32 t.k) (h2:num32 t.p) (h3:num32 t.q) (hl:t.s.length≤50000000) (hb:b.bs.length≤800000000):CallsK Tryz.prog 170 [.one (.ptr 0 0),.agg t.cells] (wrF [] b)
  (fun b':WSt=>b'.bs=b.bs++encTy t∧b'.rs=b.rs++[]) (fun _=>.tup []) (wrF []):=CallsK.ofF (fun _=>rfl) (wtyp t b h1 h2 h3 hl hb)
theorem encN_len (n:Int):(encN n).length≤10:=groups_len 9 (zz n)
theorem encS_len (l:List UInt8):(encS l).length≤10+l.length:=by
 have:=encN_len l.length;unfold encS; rw [List.length_append]; omega
theorem encTy_len (t:Ty):(encTy t).length≤41+t.s.length:=by
 have h1:=encN_len t.k; have h2:=encN_len t.p; have h3:=encN_len t.q; have h4:=encS_len t.s;unfold encTy; simp only [List.length_append,List.length_cons,List.length_nil]; omega
def eI (n:Int):List UInt8:=encN (n+1)
def encFm (f:Fm):List UInt8:=encN f.k++(encN f.w++(encN f.d++encS f.s))
theorem encFm_len (f:Fm):(encFm f).length≤40+f.s.length:=by
 have h1:=encN_len f.k; have h2:=encN_len f.w; have h3:=encN_len f.d; have h4:=encS_len f.s;unfold encFm; simp only [List.length_append]; omega
theorem pI (n:Int) (b:WSt) (hn:fineI n=true) (hb:b.bs.length≤700000000):CallsK Tryz.prog 192 [.one (.ptr 0 0),.one (.int .i64 n)] (wrF [] b)
  (fun b':WSt=>b'.bs=b.bs++eI n∧b'.rs=b.rs++[]) (fun _=>.tup []) (wrF []):=by
 have hn1:0≤n∧n<4000:=by
  simp [fineI,isRg] at hn; omega
 refine CallsK.m true Tryz.func192 (fun ρ w=>?_);refine V.q ?_;refine V.s 6 (.one (.int .i64 (IntKind.i64.wrap (n+1)))) (.one (.int .i64 (n+1))) (fun _=>by rw [wrap_in (by constructor<;>omega)]) ?_;refine V.c [] (cNum (n+1) b (by omega) (by omega) (by omega)) (fun b1 e1=>?_);refine V.q ?_;exact V.e b1 [] e1
theorem pT (t:Ty) (b:WSt) (ht:isTy t=true) (hb:b.bs.length≤700000000):CallsK Tryz.prog 170 [.one (.ptr 0 0),.agg t.cells] (wrF [] b)
  (fun b':WSt=>b'.bs=b.bs++encTy t∧b'.rs=b.rs++[]) (fun _=>.tup []) (wrF []):=by
 simp only [isTy,Bool.and_eq_true,decide_eq_true_eq] at ht;exact cTyp t b (isNum_32 ht.1.1.1) (isNum_32 ht.1.1.2) (isNum_32 ht.1.2) (by omega) (by omega)
theorem pF (f:Fm) (b:WSt) (hf:isFm f=true) (hb:b.bs.length≤700000000):CallsK Tryz.prog 197 [.one (.ptr 0 0),.agg f.cells] (wrF [] b)
  (fun b':WSt=>b'.bs=b.bs++encFm f∧b'.rs=b.rs++[]) (fun _=>.tup []) (wrF []):=by
 obtain ⟨k,w,d,s⟩:=f;simp only [isFm,Bool.and_eq_true,decide_eq_true_eq] at hf;refine CallsK.m true Tryz.func197 (fun ρ W=>?_);refine V.q ?_;refine V.c [] (cNum k b (isNum_32 hf.1.1.1).1 (isNum_32 hf.1.1.1).2 (by omega)) (fun b1 e1=>?_);have l1:b1.bs.length≤b.bs.length+10:=by rw [e1.1,List.length_append]; have:=encN_len k; omega
 refine V.q ?_;refine V.c [] (cNum w b1 (isNum_32 hf.1.1.2).1 (isNum_32 hf.1.1.2).2 (by omega)) (fun b2 e2=>?_);have l2:b2.bs.length≤b1.bs.length+10:=by rw [e2.1,List.length_append]; have:=encN_len w; omega
 refine V.q ?_;refine V.c [] (cNum d b2 (isNum_32 hf.1.2).1 (isNum_32 hf.1.2).2 (by omega)) (fun b3 e3=>?_);have l3:b3.bs.length≤b2.bs.length+10:=by rw [e3.1,List.length_append]; have:=encN_len d; omega
 refine V.q ?_;refine V.c [] (cStr s b3 (by omega) (by omega)) (fun b4 e4=>?_);refine V.q ?_;exact V.e b4 [] ⟨by rw [e4.1,e3.1,e2.1,e1.1]; simp [encFm],by rw [e4.2,e3.2,e2.2,e1.2]; simp⟩
theorem all_get {α:Type} {l:List α} {f:α→Bool} {i:Nat} (h:i<l.length) (d:α) (ha:l.all f=true):f (l.getD i d)=true:=by
 rw [List.getD,List.getElem?_eq_getElem h];exact List.all_eq_true.1 ha _ (List.getElem_mem h)
theorem flat_next {α:Type} {l:List α} {f:α→List UInt8} {i:Nat} (h:i<l.length) (d:α):(l.take (i+1)).flatMap f=(l.take i).flatMap f++f (l.getD i d):=by
 rw [List.take_add_one,List.getElem?_eq_getElem h,List.getD,List.getElem?_eq_getElem h,List.flatMap_append];simp
def encLst {α:Type} (f:α→List UInt8) (l:List α):List UInt8:=encN l.length++l.flatMap f
def lpI (x:In) (A:IA) (cp:Nat) (j:WSt×Nat):St :=
 { n:=29,slots:=[(0,.v (.one (.ptr 0 0))),(3,.v (.one (.val (.pointer (some ⟨cp,0,none⟩))))),(18,.v (.one (.row 2 A.ql x.l.length A.cl))),(19,.v (.one (.int .i64 x.l.length))),(20,.v (.one (.int .i64 j.2)))],gs:=[],
    heap:=(wrF [] j.1).heap,next:=1,rows:=[(0,rowL bsv 0 j.1.bs j.1.q j.1.c 5 1 true),(1,rowL rlv (0,0) j.1.rs j.1.q2 j.1.c2 62 2 true),(2,rowI x A)],nr:=3,pers:=[blkP cp [fnV 192] 213],wr:=true,fx:=1 }
set_option maxHeartbeats 1000000 in
theorem lPutI (x:In) (A:IA) (cb cp:Nat) (b:WSt) (hl:x.l.length≤1000) (hf:x.l.all fineI=true) (hb:b.bs.length≤600000000):CallsK Tryz.prog 263 [.one (.ptr 0 0),.agg (inV x A),.one (.val (.pointer (some ⟨cb,0,none⟩))),.one (.val (.pointer (some ⟨cp,0,none⟩)))] (wrF [blkP cb [fnV 190] 212,blkP cp [fnV 192] 213,rowP (rowI x A)] b)
  (fun b':WSt=>b'.bs=b.bs++encLst eI x.l∧b'.rs=b.rs++[]) (fun _=>.tup []) (wrF []):=by
 refine CallsK.m true Tryz.func263 (fun ρ w=>?_);refine V.t [selI.e] [] trivial ?_;refine V.lp 0 212 cb 0 [fnV 190] 212 (.one (fnV 190)) ?_;refine V.t [selI.e] [] trivial ?_;refine V.c [] (cNum x.l.length b (by omega) (by omega) (by omega)) (fun b1 e1=>?_);have l1:b1.bs.length≤b.bs.length+10:=by rw [e1.1,List.length_append]; have:=encN_len x.l.length; omega
 refine V.t [selI.e] [] trivial ?_;refine V.lp 0 212 cb 0 [fnV 190] 212 (.one (fnV 190)) ?_;refine V.t [selI.e] [] trivial ?_;refine V.ar 18 2 (rowI x A) ?_;refine V.loopK [0,3,18,19,20] [false,true] (fun j:WSt×Nat=>x.l.length - j.2) (lpI x A cp) (fun j=>j.2≤x.l.length∧j.1.bs=b1.bs++(x.l.take j.2).flatMap eI∧j.1.rs=b.rs++[]∧j.1.bs.length≤b1.bs.length+10*j.2) (b1,0) kq
  ⟨Nat.zero_le _,by simp,e1.2,Nat.le_refl _⟩ (fun j hj ih=>?_)
 obtain ⟨b2,i⟩:=j;obtain ⟨hi,e2,e3,l2⟩:=hj;simp only at hi e2 e3 l2;refine V.iter ?_;refine V.t [selI.e] [] trivial ?_;refine V.branch 21 (decide ((i:Int)<x.l.length)) kq (fun hb'=>?_) (fun hb'=>?_)
 ·have hlt:i<x.l.length:=by simpa using hb'
  have hfe:=all_get hlt 0 hf;refine V.t [selI.e] [(0:Int)≤i∧(i:Int)<x.l.length] ⟨by omega,by omega⟩ ?_;refine V.lp 0 213 cp 0 [fnV 192] 213 (.one (fnV 192)) ?_;refine V.t [selI.e] [] trivial ?_;refine V.c [] (pI (x.l.getD i 0) b2 hfe (by omega)) (fun b3 e4=>?_);have l3:(eI (x.l.getD i 0)).length≤10:=by have:=encN_len (x.l.getD i 0+1); show (encN (x.l.getD i 0+1)).length≤_; omega
  refine V.t [selI.e] [] trivial ?_;refine V.up 20 i (by omega) ?_;refine V.againK [0,3,18,19,20] [true] (ih (b3,i+1) ⟨hlt,?_,?_,?_⟩ (by simp only; omega)) kq kq
  ·simp only;rw [e4.1,e2,flat_next hlt 0,List.append_assoc]
  ·simp only;rw [e4.2,e3,List.append_nil,List.append_nil]
  ·simp only;rw [e4.1,List.length_append]; omega
 ·have hlen:x.l.length=i:=by
   have:¬ i<x.l.length:=by simpa using hb'
   omega
  refine V.t [selI.e] [] trivial ?_;exact V.e b2 [] ⟨by rw [e2,e1.1,← hlen,List.take_length,List.append_assoc]; rfl,e3⟩
def lpT (x:In) (A:IA) (cp:Nat) (j:WSt×Nat):St :=
 { n:=29,slots:=[(0,.v (.one (.ptr 0 0))),(3,.v (.one (.val (.pointer (some ⟨cp,0,none⟩))))),(18,.v (.one (.row 2 A.qy x.y.length A.cy))),(19,.v (.one (.int .i64 x.y.length))),(20,.v (.one (.int .i64 j.2)))],gs:=[],
    heap:=(wrF [] j.1).heap,next:=1,rows:=[(0,rowL bsv 0 j.1.bs j.1.q j.1.c 5 1 true),(1,rowL rlv (0,0) j.1.rs j.1.q2 j.1.c2 62 2 true),(2,rowT x A)],nr:=3,pers:=[blkP cp [fnV 170] 218],wr:=true,fx:=1 }
set_option maxHeartbeats 1000000 in
theorem lPutT (x:In) (A:IA) (cb cp:Nat) (b:WSt) (hl:x.y.length≤1000) (hf:x.y.all isTy=true) (hb:b.bs.length≤600000000):CallsK Tryz.prog 270 [.one (.ptr 0 0),.agg (inV x A),.one (.val (.pointer (some ⟨cb,0,none⟩))),.one (.val (.pointer (some ⟨cp,0,none⟩)))] (wrF [blkP cb [fnV 195] 217,blkP cp [fnV 170] 218,rowP (rowT x A)] b)
  (fun b':WSt=>b'.bs=b.bs++encLst encTy x.y∧b'.rs=b.rs++[]) (fun _=>.tup []) (wrF []):=by
 refine CallsK.m true Tryz.func270 (fun ρ w=>?_);refine V.t [selT.e] [] trivial ?_;refine V.lp 0 217 cb 0 [fnV 195] 217 (.one (fnV 195)) ?_;refine V.t [selT.e] [] trivial ?_;refine V.c [] (cNum x.y.length b (by omega) (by omega) (by omega)) (fun b1 e1=>?_);have l1:b1.bs.length≤b.bs.length+10:=by rw [e1.1,List.length_append]; have:=encN_len x.y.length; omega
 refine V.t [selT.e] [] trivial ?_;refine V.lp 0 217 cb 0 [fnV 195] 217 (.one (fnV 195)) ?_;refine V.t [selT.e] [] trivial ?_;refine V.ar 18 2 (rowT x A) ?_;refine V.loopK [0,3,18,19,20] [false,true] (fun j:WSt×Nat=>x.y.length - j.2) (lpT x A cp) (fun j=>j.2≤x.y.length∧j.1.bs=b1.bs++(x.y.take j.2).flatMap encTy∧j.1.rs=b.rs++[]∧j.1.bs.length≤b1.bs.length+300*j.2) (b1,0) kq
  ⟨Nat.zero_le _,by simp,e1.2,Nat.le_refl _⟩ (fun j hj ih=>?_)
 obtain ⟨b2,i⟩:=j;obtain ⟨hi,e2,e3,l2⟩:=hj;simp only at hi e2 e3 l2;refine V.iter ?_;refine V.t [selT.e] [] trivial ?_;refine V.branch 21 (decide ((i:Int)<x.y.length)) kq (fun hb'=>?_) (fun hb'=>?_)
 ·have hlt:i<x.y.length:=by simpa using hb'
  have hfe:=all_get hlt ty0 hf;refine V.t [selT.e] [(0:Int)≤i∧(i:Int)<x.y.length] ⟨by omega,by omega⟩ ?_;refine V.lp 0 218 cp 0 [fnV 170] 218 (.one (fnV 170)) ?_;refine V.t [selT.e] [] trivial ?_;refine V.c [] (pT (x.y.getD i ty0) b2 hfe (by omega)) (fun b3 e4=>?_);have l3:(encTy (x.y.getD i ty0)).length≤300:=by have:=encTy_len (x.y.getD i ty0); have h5:=hfe; simp only [isTy,Bool.and_eq_true,decide_eq_true_eq] at h5; omega
  refine V.t [selT.e] [] trivial ?_;refine V.up 20 i (by omega) ?_;refine V.againK [0,3,18,19,20] [true] (ih (b3,i+1) ⟨hlt,?_,?_,?_⟩ (by simp only; omega)) kq kq
  ·simp only;rw [e4.1,e2,flat_next hlt ty0,List.append_assoc]
  ·simp only;rw [e4.2,e3,List.append_nil,List.append_nil]
  ·simp only;rw [e4.1,List.length_append]; omega
 ·have hlen:x.y.length=i:=by
   have:¬ i<x.y.length:=by simpa using hb'
   omega
  refine V.t [selT.e] [] trivial ?_;exact V.e b2 [] ⟨by rw [e2,e1.1,← hlen,List.take_length,List.append_assoc]; rfl,e3⟩
def lpF (x:In) (A:IA) (cp:Nat) (j:WSt×Nat):St :=
 { n:=29,slots:=[(0,.v (.one (.ptr 0 0))),(3,.v (.one (.val (.pointer (some ⟨cp,0,none⟩))))),(18,.v (.one (.row 2 A.qf x.f.length A.cf))),(19,.v (.one (.int .i64 x.f.length))),(20,.v (.one (.int .i64 j.2)))],gs:=[],
    heap:=(wrF [] j.1).heap,next:=1,rows:=[(0,rowL bsv 0 j.1.bs j.1.q j.1.c 5 1 true),(1,rowL rlv (0,0) j.1.rs j.1.q2 j.1.c2 62 2 true),(2,rowF x A)],nr:=3,pers:=[blkP cp [fnV 197] 220],wr:=true,fx:=1 }
set_option maxHeartbeats 1000000 in
theorem lPutF (x:In) (A:IA) (cb cp:Nat) (b:WSt) (hl:x.f.length≤1000) (hf:x.f.all isFm=true) (hb:b.bs.length≤600000000):CallsK Tryz.prog 276 [.one (.ptr 0 0),.agg (inV x A),.one (.val (.pointer (some ⟨cb,0,none⟩))),.one (.val (.pointer (some ⟨cp,0,none⟩)))] (wrF [blkP cb [fnV 202] 226,blkP cp [fnV 197] 220,rowP (rowF x A)] b)
  (fun b':WSt=>b'.bs=b.bs++encLst encFm x.f∧b'.rs=b.rs++[]) (fun _=>.tup []) (wrF []):=by
 refine CallsK.m true Tryz.func276 (fun ρ w=>?_);refine V.t [selF.e] [] trivial ?_;refine V.lp 0 226 cb 0 [fnV 202] 226 (.one (fnV 202)) ?_;refine V.t [selF.e] [] trivial ?_;refine V.c [] (cNum x.f.length b (by omega) (by omega) (by omega)) (fun b1 e1=>?_);have l1:b1.bs.length≤b.bs.length+10:=by rw [e1.1,List.length_append]; have:=encN_len x.f.length; omega
 refine V.t [selF.e] [] trivial ?_;refine V.lp 0 226 cb 0 [fnV 202] 226 (.one (fnV 202)) ?_;refine V.t [selF.e] [] trivial ?_;refine V.ar 18 2 (rowF x A) ?_;refine V.loopK [0,3,18,19,20] [false,true] (fun j:WSt×Nat=>x.f.length - j.2) (lpF x A cp) (fun j=>j.2≤x.f.length∧j.1.bs=b1.bs++(x.f.take j.2).flatMap encFm∧j.1.rs=b.rs++[]∧j.1.bs.length≤b1.bs.length+300*j.2) (b1,0) kq
  ⟨Nat.zero_le _,by simp,e1.2,Nat.le_refl _⟩ (fun j hj ih=>?_)
 obtain ⟨b2,i⟩:=j;obtain ⟨hi,e2,e3,l2⟩:=hj;simp only at hi e2 e3 l2;refine V.iter ?_;refine V.t [selF.e] [] trivial ?_;refine V.branch 21 (decide ((i:Int)<x.f.length)) kq (fun hb'=>?_) (fun hb'=>?_)
 ·have hlt:i<x.f.length:=by simpa using hb'
  have hfe:=all_get hlt fm0 hf;refine V.t [selF.e] [(0:Int)≤i∧(i:Int)<x.f.length] ⟨by omega,by omega⟩ ?_;refine V.lp 0 220 cp 0 [fnV 197] 220 (.one (fnV 197)) ?_;refine V.t [selF.e] [] trivial ?_;refine V.c [] (pF (x.f.getD i fm0) b2 hfe (by omega)) (fun b3 e4=>?_);have l3:(encFm (x.f.getD i fm0)).length≤300:=by have:=encFm_len (x.f.getD i fm0); have h5:=hfe; simp only [isFm,Bool.and_eq_true,decide_eq_true_eq] at h5; omega
  refine V.t [selF.e] [] trivial ?_;refine V.up 20 i (by omega) ?_;refine V.againK [0,3,18,19,20] [true] (ih (b3,i+1) ⟨hlt,?_,?_,?_⟩ (by simp only; omega)) kq kq
  ·simp only;rw [e4.1,e2,flat_next hlt fm0,List.append_assoc]
  ·simp only;rw [e4.2,e3,List.append_nil,List.append_nil]
  ·simp only;rw [e4.1,List.length_append]; omega
 ·have hlen:x.f.length=i:=by
   have:¬ i<x.f.length:=by simpa using hb'
   omega
  refine V.t [selF.e] [] trivial ?_;exact V.e b2 [] ⟨by rw [e2,e1.1,← hlen,List.take_length,List.append_assoc]; rfl,e3⟩
theorem cRNum (X:RIn) (r:RSt) (h:okIn X r):CallsK Tryz.prog 57 [.one (.ptr 0 0)] (rdF [] X r) (fun r':RSt=>r'=(rdNum X r).2) (fun _=>.v (.one (.int .i64 (rdNum X r).1))) (rdF [] X):=CallsK.ofF (fun _=>rfl) (rnumber X r h)
def gI (X:RIn) (r:RSt):Int×RSt:=((rdNum X r).1 - 1,(rdNum X r).2)
theorem cgI (X:RIn) (r:RSt) (h:okIn X r):CallsK Tryz.prog 193 [.one (.ptr 0 0)] (rdF [] X r) (fun r':RSt=>r'=(gI X r).2) (fun _=>.v (.one (.int .i64 (gI X r).1))) (rdF [] X):=by
 obtain ⟨q1,q2⟩:num32 (rdNum X r).1:=isNum_32 (rdNum_ok h).2;refine CallsK.m true Tryz.func193 (fun ρ w=>?_);refine V.q ?_;refine V.c [] (cRNum X r h) (fun r1 e1=>?_);subst e1;refine V.q ?_;refine V.s 2 (.one (.int .i64 (IntKind.i64.wrap ((rdNum X r).1 - 1)))) (.one (.int .i64 ((rdNum X r).1 - 1))) (fun _=>by rw [wrap_in (by constructor<;>omega)]) ?_;exact V.e (rdNum X r).2 [] rfl
def rdList {α:Type} (g:RSt→α×RSt):Nat→RSt→List α×RSt
 | 0,r=>([],r)
 | k+1,r=>((g r).1::(rdList g k (g r).2).1,(rdList g k (g r).2).2)
def rdLst {α:Type} (X:RIn) (g:RSt→α×RSt) (l:List α) (r:RSt):List α×RSt :=
 if (decide ((rdNum X r).1<0)||decide ((rdNum X r).1>16))=true then (l,⟨(rdNum X r).2.at_,true⟩) else (l++(rdList g (rdNum X r).1.toNat (rdNum X r).2).1,(rdList g (rdNum X r).1.toNat (rdNum X r).2).2)
theorem cRStr (X:RIn) (r:RSt) (h:okIn X r):CallsK Tryz.prog 182 [.one (.ptr 0 0)] (rdF [] X r) (fun r':RSt=>r'=(rdStr X r).2) (fun _=>.v (.one (.str (rdStr X r).1))) (rdF [] X):=CallsK.ofF (fun _=>rfl) (rstr X r h)
theorem cgT (X:RIn) (r:RSt) (h:okIn X r):CallsK Tryz.prog 172 [.one (.ptr 0 0)] (rdF [] X r) (fun r':RSt=>r'=(rdTy X r).2) (fun _=>.v (.agg (rdTy X r).1.cells)) (rdF [] X):=CallsK.ofF (fun _=>rfl) (rtyp X r h)
def rdFm (X:RIn) (r:RSt):Fm×RSt :=
 let a:=rdNum X r
 let b:=rdNum X a.2
 let c:=rdNum X b.2
 let d:=rdStr X c.2
 (⟨a.1,b.1,c.1,d.1⟩,d.2)
theorem rdTy_ok {X:RIn} {r:RSt} (h:okIn X r):okIn X (rdTy X r).2:=rdStr_ok (rdFlag_ok (rdNum_ok (rdNum_ok (rdNum_ok h).1).1).1)
theorem rdFm_ok {X:RIn} {r:RSt} (h:okIn X r):okIn X (rdFm X r).2:=rdStr_ok (rdNum_ok (rdNum_ok (rdNum_ok h).1).1).1
theorem cgF (X:RIn) (r:RSt) (h:okIn X r):CallsK Tryz.prog 198 [.one (.ptr 0 0)] (rdF [] X r) (fun r':RSt=>r'=(rdFm X r).2) (fun _=>.v (.agg (rdFm X r).1.cells)) (rdF [] X):=by
 have h1:=(rdNum_ok h).1;have h2:=(rdNum_ok h1).1;have h3:=(rdNum_ok h2).1;refine CallsK.m true Tryz.func198 (fun ρ w=>?_);refine V.q ?_;refine V.c [] (cRNum X r h) (fun r1 e1=>?_);subst e1;refine V.q ?_;refine V.c [] (cRNum X _ h1) (fun r2 e2=>?_);subst e2;refine V.q ?_;refine V.c [] (cRNum X _ h2) (fun r3 e3=>?_);subst e3;refine V.q ?_;refine V.c [] (cRStr X _ h3) (fun r4 e4=>?_);subst e4;refine V.q ?_;exact V.e (rdFm X r).2 [] rfl
theorem gI_ok {X:RIn} {r:RSt} (h:okIn X r):okIn X (gI X r).2:=(rdNum_ok h).1
structure GL (α:Type) where
 r:RSt
 l:List α
 q:Option Addr
 c:Nat
 i:Nat
def xI (x:In) (j:GL Int):In:={ x with l:=j.l }
def aI (A:IA) (j:GL Int):IA:={ A with ql:=j.q,cl:=j.c }
def lgI (X:RIn) (x:In) (A:IA) (n:Int) (j:GL Int):St :=
 { n:=36,slots:=[(0,.v (.one (.ptr 0 0))),(1,.v (.one (.ptr 1 0))),(2,.v (.one (.ptr 2 0))),(3,.v (.one (.ptr 3 0))),(18,.v (.one (.int .i64 n))),(19,.v (.one (.int .i64 j.i)))],gs:=[],
    heap:=[(0,⟨[.str X.s,.int .i64 (j.r.at_:Int),.val (.slice X.q X.n X.c),.sb j.r.bad],104,true⟩),(1,⟨inO (xI x j) (aI A j),30,true⟩),(2,⟨[fnV 190],212,false⟩),(3,⟨[fnV 193],214,false⟩)],next:=4,rows:=inRows (xI x j) (aI A j),nr:=3,pers:=[],wr:=true,fx:=2 }
set_option maxHeartbeats 400000 in
theorem lGetI (X:RIn) (r:RSt) (h:okIn X r) (x:In) (A:IA) (cb cg:Nat) (hl:x.l.length≤1000):CallsK Tryz.prog 264 [.one (.ptr 0 0),.one (.ptr 1 0),.one (.val (.pointer (some ⟨cb,0,none⟩))),.one (.val (.pointer (some ⟨cg,0,none⟩)))]
  (gtF [blkP cb [fnV 190] 212,blkP cg [fnV 193] 214] X r x A)
  (fun y:RSt×In×IA=>y.1=(rdLst X (gI X) x.l r).2∧y.2.1={ x with l:=(rdLst X (gI X) x.l r).1 }) (fun _=>.tup []) (fun y=>gtF [] X y.1 y.2.1 y.2.2):=by
 refine CallsK.m true Tryz.func264 (fun ρ w=>?_);refine V.q ?_;refine V.c [] (cRNum X r h) (fun r1 e1=>?_);subst e1;obtain ⟨h1,hnum⟩:=rdNum_ok h;refine V.q ?_;refine V.bn 14 (decide ((rdNum X r).1<0)||decide ((rdNum X r).1>16)) (fun hb=>?_) (fun hb=>?_)
 ·refine V.q ?_;refine V.cellAs 0 3 ⟨[.str X.s,.int .i64 ((rdNum X r).2.at_:Int),.val (.slice X.q X.n X.c),.bool true],104,true⟩ (.bool true) (.sb true) kq rfl kq (fun _=>rfl) ?_;refine V.retK (⟨(rdNum X r).2.at_,true⟩,x,A) [] kq kq kq ?_;unfold rdLst;rw [if_pos hb];exact ⟨rfl,rfl⟩
 ·refine V.q ?_;refine V.blkInL 2 cb [fnV 190] 212 [blkP cg [fnV 193] 214] kq kq kq kq kq (fun w h1 h2 p hp=>by
   rw [List.mem_singleton] at hp;subst hp;exact blk_apart (by decide) w h1 (h2 _ (List.mem_singleton.2 rfl))) ?_
  refine V.blkInL 3 cg [fnV 193] 214 [] kq kq kq kq kq (fun w h1 h2 p hp=>by cases hp) ?_;have hn:0≤(rdNum X r).1∧(rdNum X r).1≤16:=by
   simp only [Bool.or_eq_false_iff,decide_eq_false_iff_not] at hb; omega
  have hres:rdLst X (gI X) x.l r=(x.l++(rdList (gI X) (rdNum X r).1.toNat (rdNum X r).2).1,(rdList (gI X) (rdNum X r).1.toNat (rdNum X r).2).2):=by unfold rdLst; rw [if_neg (by rw [hb]; simp)]
  refine V.loopK [0,1,2,3,18,19] [] (fun j:GL Int=>(rdNum X r).1.toNat - j.i) (lgI X x A (rdNum X r).1)
   (fun j=>okIn X j.r∧j.i≤(rdNum X r).1.toNat∧j.l.length≤x.l.length+j.i∧j.l++(rdList (gI X) ((rdNum X r).1.toNat - j.i) j.r).1=(rdLst X (gI X) x.l r).1∧(rdList (gI X) ((rdNum X r).1.toNat - j.i) j.r).2=(rdLst X (gI X) x.l r).2)
   ⟨(rdNum X r).2,x.l,A.ql,A.cl,0⟩ kq ⟨h1,Nat.zero_le _,Nat.le_refl _,by rw [hres]; rfl,by rw [hres]; rfl⟩ (fun j hj ih=>?_)
  obtain ⟨r2,l2,q2,c2,i⟩:=j;obtain ⟨h2,hi,hll,e1,e2⟩:=hj;simp only at h2 hi hll e1 e2;refine V.iter ?_;refine V.q ?_;refine V.bn 20 (decide ((i:Int)<(rdNum X r).1)) (fun hc=>?_) (fun hc=>?_)
  ·have hlt:(i:Int)<(rdNum X r).1:=by simpa using hc
   have hlt':i<(rdNum X r).1.toNat:=by omega
   obtain ⟨m,hm⟩:∃ m,(rdNum X r).1.toNat - i=m+1:=⟨(rdNum X r).1.toNat - i - 1,by omega⟩;have hm':(rdNum X r).1.toNat - (i+1)=m:=by omega
   rw [hm,rdList] at e1 e2;refine V.q ?_;refine V.drawX [0] [1] 14 kq ?_;refine @VX.run _ [0] [1] 14 _ _ ([selI.e]:List (Ent Tryz.prog)) [] kq kq trivial ?_;refine @VX.callK _ [0] [1] 14 _ _ _ _ _ _ _ _ _ [] (cgI X r2 h2) kq kq kq (fun _=>kq) (fun r3 e3=>?_);subst e3;refine @VX.run _ [0] [1] 14 _ _ ([selI.e]:List (Ent Tryz.prog)) [] kq kq trivial ?_;refine @VX.push _ [0] [1] 14 _ _ _ intv 0 l2 (gI X r2).1 1 q2 c2 3 1 [.int .i64 (gI X r2).1] 8 kq kq kq (by omega) rfl (fun _ _=>kq) (fun q3 c3=>?_);refine @VX.run _ [0] [1] 14 _ _ ([selI.e]:List (Ent Tryz.prog)) [] kq kq trivial ?_;refine @VX.stop _ [0] [1] 14 _ _ kq ?_;refine V.q ?_;refine V.up 19 i (by omega) ?_;refine V.againK [0,1,2,3,18,19] [] (ih ⟨(gI X r2).2,l2++[(gI X r2).1],q3,c3,i+1⟩ ⟨gI_ok h2,by simp only; omega,by simp only [List.length_append,List.length_cons,List.length_nil]; omega,?_,?_⟩ (by simp only; omega)) kq kq
   ·simp only;rw [hm',← e1,List.append_assoc]; rfl
   ·simp only;rw [hm']; exact e2
  ·have hge:¬ (i:Int)<(rdNum X r).1:=by simpa using hc
   have h0:(rdNum X r).1.toNat - i=0:=by omega
   rw [h0,rdList] at e1 e2;simp only [List.append_nil] at e1;simp only at e2;refine V.q ?_;exact V.e (r2,{ x with l:=l2 },{ A with ql:=q2,cl:=c2 }) [] ⟨e2,by rw [e1]⟩
def xT (x:In) (j:GL Ty):In:={ x with y:=j.l }
def aT (A:IA) (j:GL Ty):IA:={ A with qy:=j.q,cy:=j.c }
def lgT (X:RIn) (x:In) (A:IA) (n:Int) (j:GL Ty):St :=
 { n:=36,slots:=[(0,.v (.one (.ptr 0 0))),(1,.v (.one (.ptr 1 0))),(2,.v (.one (.ptr 2 0))),(3,.v (.one (.ptr 3 0))),(18,.v (.one (.int .i64 n))),(19,.v (.one (.int .i64 j.i)))],gs:=[],
    heap:=[(0,⟨[.str X.s,.int .i64 (j.r.at_:Int),.val (.slice X.q X.n X.c),.sb j.r.bad],104,true⟩),(1,⟨inO (xT x j) (aT A j),30,true⟩),(2,⟨[fnV 195],217,false⟩),(3,⟨[fnV 172],219,false⟩)],next:=4,rows:=inRows (xT x j) (aT A j),nr:=3,pers:=[],wr:=true,fx:=2 }
set_option maxHeartbeats 400000 in
theorem lGetT (X:RIn) (r:RSt) (h:okIn X r) (x:In) (A:IA) (cb cg:Nat) (hl:x.y.length≤1000):CallsK Tryz.prog 271 [.one (.ptr 0 0),.one (.ptr 1 0),.one (.val (.pointer (some ⟨cb,0,none⟩))),.one (.val (.pointer (some ⟨cg,0,none⟩)))]
  (gtF [blkP cb [fnV 195] 217,blkP cg [fnV 172] 219] X r x A)
  (fun y:RSt×In×IA=>y.1=(rdLst X (rdTy X) x.y r).2∧y.2.1={ x with y:=(rdLst X (rdTy X) x.y r).1 }) (fun _=>.tup []) (fun y=>gtF [] X y.1 y.2.1 y.2.2):=by
 refine CallsK.m true Tryz.func271 (fun ρ w=>?_);refine V.q ?_;refine V.c [] (cRNum X r h) (fun r1 e1=>?_);subst e1;obtain ⟨h1,hnum⟩:=rdNum_ok h;refine V.q ?_;refine V.bn 14 (decide ((rdNum X r).1<0)||decide ((rdNum X r).1>16)) (fun hb=>?_) (fun hb=>?_)
 ·refine V.q ?_;refine V.cellAs 0 3 ⟨[.str X.s,.int .i64 ((rdNum X r).2.at_:Int),.val (.slice X.q X.n X.c),.bool true],104,true⟩ (.bool true) (.sb true) kq rfl kq (fun _=>rfl) ?_;refine V.retK (⟨(rdNum X r).2.at_,true⟩,x,A) [] kq kq kq ?_;unfold rdLst;rw [if_pos hb];exact ⟨rfl,rfl⟩
 ·refine V.q ?_;refine V.blkInL 2 cb [fnV 195] 217 [blkP cg [fnV 172] 219] kq kq kq kq kq (fun w h1 h2 p hp=>by
   rw [List.mem_singleton] at hp;subst hp;exact blk_apart (by decide) w h1 (h2 _ (List.mem_singleton.2 rfl))) ?_
  refine V.blkInL 3 cg [fnV 172] 219 [] kq kq kq kq kq (fun w h1 h2 p hp=>by cases hp) ?_;have hn:0≤(rdNum X r).1∧(rdNum X r).1≤16:=by
   simp only [Bool.or_eq_false_iff,decide_eq_false_iff_not] at hb; omega
  have hres:rdLst X (rdTy X) x.y r=(x.y++(rdList (rdTy X) (rdNum X r).1.toNat (rdNum X r).2).1,(rdList (rdTy X) (rdNum X r).1.toNat (rdNum X r).2).2):=by unfold rdLst; rw [if_neg (by rw [hb]; simp)]
  refine V.loopK [0,1,2,3,18,19] [] (fun j:GL Ty=>(rdNum X r).1.toNat - j.i) (lgT X x A (rdNum X r).1)
   (fun j=>okIn X j.r∧j.i≤(rdNum X r).1.toNat∧j.l.length≤x.y.length+j.i∧j.l++(rdList (rdTy X) ((rdNum X r).1.toNat - j.i) j.r).1=(rdLst X (rdTy X) x.y r).1∧(rdList (rdTy X) ((rdNum X r).1.toNat - j.i) j.r).2=(rdLst X (rdTy X) x.y r).2)
   ⟨(rdNum X r).2,x.y,A.qy,A.cy,0⟩ kq ⟨h1,Nat.zero_le _,Nat.le_refl _,by rw [hres]; rfl,by rw [hres]; rfl⟩ (fun j hj ih=>?_)
  obtain ⟨r2,l2,q2,c2,i⟩:=j;obtain ⟨h2,hi,hll,e1,e2⟩:=hj;simp only at h2 hi hll e1 e2;refine V.iter ?_;refine V.q ?_;refine V.bn 20 (decide ((i:Int)<(rdNum X r).1)) (fun hc=>?_) (fun hc=>?_)
  ·have hlt:(i:Int)<(rdNum X r).1:=by simpa using hc
   have hlt':i<(rdNum X r).1.toNat:=by omega
   obtain ⟨m,hm⟩:∃ m,(rdNum X r).1.toNat - i=m+1:=⟨(rdNum X r).1.toNat - i - 1,by omega⟩;have hm':(rdNum X r).1.toNat - (i+1)=m:=by omega
   rw [hm,rdList] at e1 e2;refine V.q ?_;refine V.drawX [0] [2] 14 kq ?_;refine @VX.run _ [0] [2] 14 _ _ ([selT.e]:List (Ent Tryz.prog)) [] kq kq trivial ?_;refine @VX.callK _ [0] [2] 14 _ _ _ _ _ _ _ _ _ [] (cgT X r2 h2) kq kq kq (fun _=>kq) (fun r3 e3=>?_);subst e3;refine @VX.run _ [0] [2] 14 _ _ ([selT.e]:List (Ent Tryz.prog)) [] kq kq trivial ?_;refine @VX.push _ [0] [2] 14 _ _ _ Ty.cells ty0 l2 (rdTy X r2).1 2 q2 c2 23 5 (rdTy X r2).1.cells 48 kq kq kq (by omega) rfl (fun _ _=>kq) (fun q3 c3=>?_);refine @VX.run _ [0] [2] 14 _ _ ([selT.e]:List (Ent Tryz.prog)) [] kq kq trivial ?_;refine @VX.stop _ [0] [2] 14 _ _ kq ?_;refine V.q ?_;refine V.up 19 i (by omega) ?_;refine V.againK [0,1,2,3,18,19] [] (ih ⟨(rdTy X r2).2,l2++[(rdTy X r2).1],q3,c3,i+1⟩ ⟨rdTy_ok h2,by simp only; omega,by simp only [List.length_append,List.length_cons,List.length_nil]; omega,?_,?_⟩ (by simp only; omega)) kq kq
   ·simp only;rw [hm',← e1,List.append_assoc]; rfl
   ·simp only;rw [hm']; exact e2
  ·have hge:¬ (i:Int)<(rdNum X r).1:=by simpa using hc
   have h0:(rdNum X r).1.toNat - i=0:=by omega
   rw [h0,rdList] at e1 e2;simp only [List.append_nil] at e1;simp only at e2;refine V.q ?_;exact V.e (r2,{ x with y:=l2 },{ A with qy:=q2,cy:=c2 }) [] ⟨e2,by rw [e1]⟩
def xF (x:In) (j:GL Fm):In:={ x with f:=j.l }
def aF (A:IA) (j:GL Fm):IA:={ A with qf:=j.q,cf:=j.c }
def lgF (X:RIn) (x:In) (A:IA) (n:Int) (j:GL Fm):St :=
 { n:=36,slots:=[(0,.v (.one (.ptr 0 0))),(1,.v (.one (.ptr 1 0))),(2,.v (.one (.ptr 2 0))),(3,.v (.one (.ptr 3 0))),(18,.v (.one (.int .i64 n))),(19,.v (.one (.int .i64 j.i)))],gs:=[],
    heap:=[(0,⟨[.str X.s,.int .i64 (j.r.at_:Int),.val (.slice X.q X.n X.c),.sb j.r.bad],104,true⟩),(1,⟨inO (xF x j) (aF A j),30,true⟩),(2,⟨[fnV 202],226,false⟩),(3,⟨[fnV 198],221,false⟩)],next:=4,rows:=inRows (xF x j) (aF A j),nr:=3,pers:=[],wr:=true,fx:=2 }
set_option maxHeartbeats 400000 in
theorem lGetF (X:RIn) (r:RSt) (h:okIn X r) (x:In) (A:IA) (cb cg:Nat) (hl:x.f.length≤1000):CallsK Tryz.prog 277 [.one (.ptr 0 0),.one (.ptr 1 0),.one (.val (.pointer (some ⟨cb,0,none⟩))),.one (.val (.pointer (some ⟨cg,0,none⟩)))]
  (gtF [blkP cb [fnV 202] 226,blkP cg [fnV 198] 221] X r x A)
  (fun y:RSt×In×IA=>y.1=(rdLst X (rdFm X) x.f r).2∧y.2.1={ x with f:=(rdLst X (rdFm X) x.f r).1 }) (fun _=>.tup []) (fun y=>gtF [] X y.1 y.2.1 y.2.2):=by
 refine CallsK.m true Tryz.func277 (fun ρ w=>?_);refine V.q ?_;refine V.c [] (cRNum X r h) (fun r1 e1=>?_);subst e1;obtain ⟨h1,hnum⟩:=rdNum_ok h;refine V.q ?_;refine V.bn 14 (decide ((rdNum X r).1<0)||decide ((rdNum X r).1>16)) (fun hb=>?_) (fun hb=>?_)
 ·refine V.q ?_;refine V.cellAs 0 3 ⟨[.str X.s,.int .i64 ((rdNum X r).2.at_:Int),.val (.slice X.q X.n X.c),.bool true],104,true⟩ (.bool true) (.sb true) kq rfl kq (fun _=>rfl) ?_;refine V.retK (⟨(rdNum X r).2.at_,true⟩,x,A) [] kq kq kq ?_;unfold rdLst;rw [if_pos hb];exact ⟨rfl,rfl⟩
 ·refine V.q ?_;refine V.blkInL 2 cb [fnV 202] 226 [blkP cg [fnV 198] 221] kq kq kq kq kq (fun w h1 h2 p hp=>by
   rw [List.mem_singleton] at hp;subst hp;exact blk_apart (by decide) w h1 (h2 _ (List.mem_singleton.2 rfl))) ?_
  refine V.blkInL 3 cg [fnV 198] 221 [] kq kq kq kq kq (fun w h1 h2 p hp=>by cases hp) ?_;have hn:0≤(rdNum X r).1∧(rdNum X r).1≤16:=by
   simp only [Bool.or_eq_false_iff,decide_eq_false_iff_not] at hb; omega
  have hres:rdLst X (rdFm X) x.f r=(x.f++(rdList (rdFm X) (rdNum X r).1.toNat (rdNum X r).2).1,(rdList (rdFm X) (rdNum X r).1.toNat (rdNum X r).2).2):=by unfold rdLst; rw [if_neg (by rw [hb]; simp)]
  refine V.loopK [0,1,2,3,18,19] [] (fun j:GL Fm=>(rdNum X r).1.toNat - j.i) (lgF X x A (rdNum X r).1)
   (fun j=>okIn X j.r∧j.i≤(rdNum X r).1.toNat∧j.l.length≤x.f.length+j.i∧j.l++(rdList (rdFm X) ((rdNum X r).1.toNat - j.i) j.r).1=(rdLst X (rdFm X) x.f r).1∧(rdList (rdFm X) ((rdNum X r).1.toNat - j.i) j.r).2=(rdLst X (rdFm X) x.f r).2)
   ⟨(rdNum X r).2,x.f,A.qf,A.cf,0⟩ kq ⟨h1,Nat.zero_le _,Nat.le_refl _,by rw [hres]; rfl,by rw [hres]; rfl⟩ (fun j hj ih=>?_)
  obtain ⟨r2,l2,q2,c2,i⟩:=j;obtain ⟨h2,hi,hll,e1,e2⟩:=hj;simp only at h2 hi hll e1 e2;refine V.iter ?_;refine V.q ?_;refine V.bn 20 (decide ((i:Int)<(rdNum X r).1)) (fun hc=>?_) (fun hc=>?_)
  ·have hlt:(i:Int)<(rdNum X r).1:=by simpa using hc
   have hlt':i<(rdNum X r).1.toNat:=by omega
   obtain ⟨m,hm⟩:∃ m,(rdNum X r).1.toNat - i=m+1:=⟨(rdNum X r).1.toNat - i - 1,by omega⟩;have hm':(rdNum X r).1.toNat - (i+1)=m:=by omega
   rw [hm,rdList] at e1 e2;refine V.q ?_;refine V.drawX [0] [0] 14 kq ?_;refine @VX.run _ [0] [0] 14 _ _ ([selF.e]:List (Ent Tryz.prog)) [] kq kq trivial ?_;refine @VX.callK _ [0] [0] 14 _ _ _ _ _ _ _ _ _ [] (cgF X r2 h2) kq kq kq (fun _=>kq) (fun r3 e3=>?_);subst e3;refine @VX.run _ [0] [0] 14 _ _ ([selF.e]:List (Ent Tryz.prog)) [] kq kq trivial ?_;refine @VX.push _ [0] [0] 14 _ _ _ Fm.cells fm0 l2 (rdFm X r2).1 0 q2 c2 93 4 (rdFm X r2).1.cells 40 kq kq kq (by omega) rfl (fun _ _=>kq) (fun q3 c3=>?_);refine @VX.run _ [0] [0] 14 _ _ ([selF.e]:List (Ent Tryz.prog)) [] kq kq trivial ?_;refine @VX.stop _ [0] [0] 14 _ _ kq ?_;refine V.q ?_;refine V.up 19 i (by omega) ?_;refine V.againK [0,1,2,3,18,19] [] (ih ⟨(rdFm X r2).2,l2++[(rdFm X r2).1],q3,c3,i+1⟩ ⟨rdFm_ok h2,by simp only; omega,by simp only [List.length_append,List.length_cons,List.length_nil]; omega,?_,?_⟩ (by simp only; omega)) kq kq
   ·simp only;rw [hm',← e1,List.append_assoc]; rfl
   ·simp only;rw [hm']; exact e2
  ·have hge:¬ (i:Int)<(rdNum X r).1:=by simpa using hc
   have h0:(rdNum X r).1.toNat - i=0:=by omega
   rw [h0,rdList] at e1 e2;simp only [List.append_nil] at e1;simp only at e2;refine V.q ?_;exact V.e (r2,{ x with f:=l2 },{ A with qf:=q2,cf:=c2 }) [] ⟨e2,by rw [e1]⟩
theorem lMoveI (x y:In) (A B:IA) (cb:Nat):CallsK Tryz.prog 261 [.one (.ptr 0 0),.agg (inV x A),.one (.val (.pointer (some ⟨cb,0,none⟩)))] (mvF [blkP cb [fnV 190] 212] y B)
  (fun _:Unit=>True) (fun _=>.tup []) (fun _=>mvF [] { y with l:=x.l } { B with ql:=A.ql,cl:=A.cl }):=by
 refine CallsK.m true Tryz.func261 (fun ρ w=>?_);refine V.blkInL 2 cb [fnV 190] 212 [] kq kq kq kq kq (fun w h1 h2 p hp=>by cases hp) ?_;refine V.t [selI.e] [] trivial ?_;exact V.z
theorem lMoveT (x y:In) (A B:IA) (cb:Nat):CallsK Tryz.prog 268 [.one (.ptr 0 0),.agg (inV x A),.one (.val (.pointer (some ⟨cb,0,none⟩)))] (mvF [blkP cb [fnV 195] 217] y B)
  (fun _:Unit=>True) (fun _=>.tup []) (fun _=>mvF [] { y with y:=x.y } { B with qy:=A.qy,cy:=A.cy }):=by
 refine CallsK.m true Tryz.func268 (fun ρ w=>?_);refine V.blkInL 2 cb [fnV 195] 217 [] kq kq kq kq kq (fun w h1 h2 p hp=>by cases hp) ?_;refine V.t [selT.e] [] trivial ?_;exact V.z
theorem lMoveF (x y:In) (A B:IA) (cb:Nat):CallsK Tryz.prog 274 [.one (.ptr 0 0),.agg (inV x A),.one (.val (.pointer (some ⟨cb,0,none⟩)))] (mvF [blkP cb [fnV 202] 226] y B)
  (fun _:Unit=>True) (fun _=>.tup []) (fun _=>mvF [] { y with f:=x.f } { B with qf:=A.qf,cf:=A.cf }):=by
 refine CallsK.m true Tryz.func274 (fun ρ w=>?_);refine V.blkInL 2 cb [fnV 202] 226 [] kq kq kq kq kq (fun w h1 h2 p hp=>by cases hp) ?_;refine V.t [selF.e] [] trivial ?_;exact V.z
end Go.Proofs
end
