/- A symbolic run of the program that Lean checks, and what the functions of the program come to by it: part 6 of 12. -/
import Derived.Test.YteinbljapojcgaaGreatDoorQAE
set_option linter.unusedVariables false
section
namespace Go.Proofs
open Go Go.SX
set_option maxRecDepth 10000
def byteAt (n:Int) (s:Nat):UInt8:=UInt8.ofNat ((n / (2 ^ s)) % 256).toNat
def fourB (n:Int):List UInt8:=[byteAt n 24,byteAt n 16,byteAt n 8,byteAt n 0]
theorem byteAt_ok (n:Int) (s:Nat):bsv (byteAt n s)=[.int .u8 (IntKind.u8.wrap (n.fdiv (2 ^ s)))]:=by
 have h2:(0:Int)≤2 ^ s:=by have:(0:Int)<2 ^ s:=Int.pow_pos (by omega); omega
 rw [Int.fdiv_eq_ediv_of_nonneg _ h2];simp only [bsv,byteAt,IntKind.wrap,IntKind.bits,IntKind.signed];have h0:=Int.emod_nonneg (n / 2 ^ s) (show (256:Int)≠0 by omega);have h1:=Int.emod_lt_of_pos (n / 2 ^ s) (show (0:Int)<256 by omega);simp;omega
set_option maxHeartbeats 2000000 in
theorem wfour (n:Int) (b:WSt) (hb:b.bs.length≤900000000) (ρ:Nat→Nat) (w:World) (hF:FSat ρ (wrF [] b) w) :
  Calls Tryz.prog 214 (([.one (.ptr 0 0),.one (.int .i64 n)]:List CV).map (CV.den ρ)).toArray w (WrR [] b (fourB n) [] ρ w):=by
 obtain ⟨bs,q,cap,rs,q2,c2⟩:=b;simp only at hb;refine Calls.of_F hF [.one (.ptr 0 0),.one (.int .i64 n)] true Tryz.func214 kq kq (by simp [CV.wf,SV.wf,wrF,St.W]) ?_;refine V.u ?_;refine V.iter ?_;refine V.u ?_;refine V.kn 6 (decide ((3:Int)≥0)) true rfl ?_;refine V.u ?_;refine V.drawPush bsv 0 (bs) (byteAt n 24) 0 14 q cap 5 1 [.int .u8 (IntKind.u8.wrap (n.fdiv (2 ^ 24)))] 1 [(0:Int)≤24] kq (by simp [allP]) kq (by simp; omega) (byteAt_ok n 24) (fun _ _=>kq) (fun q1 c1'=>?_);refine V.u ?_;refine V.iter ?_;refine V.u ?_;refine V.kn 6 (decide ((2:Int)≥0)) true rfl ?_;refine V.u ?_;refine V.drawPush bsv 0 ((bs)++[byteAt n 24]) (byteAt n 16) 2 14 q1 c1' 5 1 [.int .u8 (IntKind.u8.wrap (n.fdiv (2 ^ 16)))] 1 [(0:Int)≤16] kq (by simp [allP]) kq (by simp; omega) (byteAt_ok n 16) (fun _ _=>kq) (fun qb cb'=>?_);refine V.u ?_;refine V.iter ?_;refine V.u ?_;refine V.kn 6 (decide ((1:Int)≥0)) true rfl ?_;refine V.u ?_;refine V.drawPush bsv 0 (((bs)++[byteAt n 24])++[byteAt n 16]) (byteAt n 8) 3 14 qb cb' 5 1 [.int .u8 (IntKind.u8.wrap (n.fdiv (2 ^ 8)))] 1 [(0:Int)≤8] kq (by simp [allP]) kq (by simp; omega) (byteAt_ok n 8) (fun _ _=>kq) (fun q3 c3'=>?_);refine V.u ?_;refine V.iter ?_;refine V.u ?_;refine V.kn 6 (decide ((0:Int)≥0)) true rfl ?_;refine V.u ?_;refine V.drawPush bsv 0 ((((bs)++[byteAt n 24])++[byteAt n 16])++[byteAt n 8]) (byteAt n 0) 4 14 q3 c3' 5 1 [.int .u8 (IntKind.u8.wrap (n.fdiv (2 ^ 0)))] 1 [(0:Int)≤0] kq (by simp [allP]) kq (by simp; omega) (byteAt_ok n 0) (fun _ _=>kq) (fun q4 c4'=>?_);refine V.u ?_;refine V.iter ?_;refine V.u ?_;refine V.kn 6 (decide ((-1:Int)≥0)) false rfl ?_;refine V.u ?_;exact V.retF (⟨((((bs)++[byteAt n 24])++[byteAt n 16])++[byteAt n 8])++[byteAt n 0],q4,c4',rs,q2,c2⟩:WSt) [5,1] (.tup []) kq kq kq kq kq kq kq ⟨by simp [fourB],by simp⟩
set_option maxHeartbeats 1000000 in
theorem wreloc (n:Int) (b:WSt) (hb:b.rs.length≤900000000) (ρ:Nat→Nat) (w:World) (hF:FSat ρ (wrF [] b) w) :
  Calls Tryz.prog 222 (([.one (.ptr 0 0),.one (.int .i64 n)]:List CV).map (CV.den ρ)).toArray w (WrR [] b [] [((b.bs.length:Nat),n)] ρ w):=by
 obtain ⟨bs,q,cap,rs,q2,c2⟩:=b;refine Calls.of_F hF [.one (.ptr 0 0),.one (.int .i64 n)] true Tryz.func222 kq kq (by simp [CV.wf,SV.wf,wrF,St.W]) ?_;refine V.u ?_;refine V.drawPush rlv (0,0) rs ((bs.length:Int),n) 1 16 q2 c2 62 2 [.int .i64 bs.length,.int .i64 n] 16 [] kq trivial kq (by simp only at hb; omega) rfl (fun _ _=>kq) (fun q' cap'=>?_);refine V.u ?_;exact V.retF (⟨bs,q,cap,rs++[((bs.length:Int),n)],q',cap'⟩:WSt) [0,2] (.tup []) kq kq kq kq kq kq kq ⟨by simp,by simp⟩
structure RSt where
 at_:Nat
 bad:Bool
structure RIn where
 s:List UInt8
 q:Option Addr
 n:Nat
 c:Nat
def rdF (ps:List Pers) (X:RIn) (r:RSt):St :=
 { n:=0,slots:=[],gs:=[],heap:=[(0,⟨[.str X.s,.int .i64 (r.at_:Int),.val (.slice X.q X.n X.c),.sb r.bad],104,true⟩)],next:=1,rows:=[],nr:=0,pers:=ps,wr:=false }
def takeB (X:RIn) (r:RSt):UInt8×RSt:=if r.at_<X.s.length then (X.s.getD r.at_ 0,⟨r.at_+1,r.bad⟩) else (0,⟨r.at_,true⟩)
def RdR (ps:List Pers) (X:RIn) (r:RSt) (v:RV) (r':RSt) (ρ:Nat→Nat) (w:World):Ending→World→Prop :=
 GivesF ρ (rdF ps X r) (fun x:RSt=>x=r') (fun _=>v) (rdF [] X) w
def okIn (X:RIn) (r:RSt):Prop:=X.s.length≤1000000000∧r.at_≤X.s.length
set_option maxHeartbeats 1000000 in
theorem rtake (X:RIn) (r:RSt) (h:okIn X r) (ρ:Nat→Nat) (w:World) (hF:FSat ρ (rdF [] X r) w) :
  Calls Tryz.prog 90 (([.one (.ptr 0 0)]:List CV).map (CV.den ρ)).toArray w (RdR [] X r (.v (.one (.int .u8 ((takeB X r).1.toNat:Int)))) (takeB X r).2 ρ w):=by
 obtain ⟨h1,h2⟩:=h;refine Calls.of_F hF [.one (.ptr 0 0)] false Tryz.func90 kq kq (by simp [CV.wf,SV.wf,rdF,St.W]) ?_;refine V.u ?_;refine V.drawR 1000 [] kq trivial ?_;refine V.u ?_;refine V.bn 12 (decide ((r.at_:Int)≥(X.s.length:Int))) (fun hb=>?_) (fun hb=>?_)
 ·have hb':¬ r.at_<X.s.length:=by simp at hb; omega
  refine V.u ?_;refine V.soft 0 ?_;exact V.retF (⟨r.at_,true⟩:RSt) [] (.v (.one (.int .u8 0))) kq kq (by simp only [takeB,if_neg hb']; kernel_rfl) kq kq kq kq (by simp [takeB,hb'])
 ·have hb':r.at_<X.s.length:=by simp at hb; omega
  refine V.run 100 [inK .i64 ((r.at_:Int)+1)] kq (by simp [allP,inK]; omega) ?_;refine V.drawR 1000 [inK .i64 ((r.at_:Int)+1 - 1),0≤(r.at_:Int)+1 - 1∧(r.at_:Int)+1 - 1<(X.s.length:Int)] kq (by simp [allP,inK]; omega) ?_;refine V.u ?_;have hn:((r.at_:Int)+1 - 1).toNat=r.at_:=by omega
  exact V.retF (⟨r.at_+1,r.bad⟩:RSt) [] (.v (.one (.int .u8 ((X.s.getD ((r.at_:Int)+1 - 1).toNat 0).toNat:Int)))) kq kq (by rw [hn]; simp only [takeB,if_pos hb']; rfl) kq kq kq kq (by simp [takeB,hb'])
def unzz (z:Nat):Int:=if z % 2=0 then ((z / 2:Nat):Int) else -(((z+1) / 2:Nat):Int)
theorem back_calls (z:Nat) (w:World) (h:z<4611686018427387904):Calls Tryz.prog 91 #[.int .u64 z] w (Gives (.int .i64 (unzz z)) w):=by
 refine Calls.of_plain [.one (.int .u64 z)] true Tryz.func91 kq kq (by simp [CV.wf,SV.wf]) ?_;refine V.run 100 [(2:Int)≠0] kq (by simp [allP]) ?_;refine V.bn 5 (decide ((z:Int).tmod 2=0)) (fun hb=>?_) (fun hb=>?_)
 ·have hb':z % 2=0:=by
   have h1:(z:Int).tmod 2=((z % 2:Nat):Int):=rfl;rw [h1] at hb; simp at hb; omega
  refine V.run 100 [(2:Int)≠0] kq (by simp [allP]) ?_;refine V.ret (.v (.one (.int .i64 (IntKind.i64.wrap (IntKind.u64.wrap ((z:Int).tdiv 2)))))) kq kq ?_;intro ρ a w hS;have h2:(z:Int).tdiv 2=((z / 2:Nat):Int):=rfl;have:IntKind.i64.wrap (IntKind.u64.wrap ((z:Int).tdiv 2))=unzz z:=by rw [h2]; simp [IntKind.wrap,IntKind.bits,IntKind.signed,unzz,hb']; omega
  rw [this];exact ⟨rfl,hS.chg⟩
 ·have hb':¬ z % 2=0:=by
   have h1:(z:Int).tmod 2=((z % 2:Nat):Int):=rfl;rw [h1] at hb; simp at hb; omega
  refine V.run 100 [(2:Int)≠0] kq (by simp [allP]) ?_;refine V.ret (.v (.one (.int .i64 (IntKind.i64.wrap (0 - IntKind.i64.wrap (IntKind.u64.wrap ((IntKind.u64.wrap ((z:Int)+1)).tdiv 2))))))) kq kq ?_;intro ρ a w hS;have h0:IntKind.u64.wrap ((z:Int)+1)=((z+1:Nat):Int):=by simp [IntKind.wrap,IntKind.bits,IntKind.signed]; omega
  have h2:(((z+1:Nat):Int)).tdiv 2=(((z+1) / 2:Nat):Int):=rfl;have:IntKind.i64.wrap (0 - IntKind.i64.wrap (IntKind.u64.wrap ((IntKind.u64.wrap ((z:Int)+1)).tdiv 2)))=unzz z:=by rw [h0,h2]; simp [IntKind.wrap,IntKind.bits,IntKind.signed,unzz,hb']; omega
  rw [this];exact ⟨rfl,hS.chg⟩
def isNum (n:Int):Bool:=decide (n>-2147483648)&&decide (n<2147483648)
theorem isNumber_calls (n:Int) (w:World):Calls Tryz.prog 53 #[.int .i64 n] w (Gives (.bool (isNum n)) w):=by
 refine Calls.of_plain [.one (.int .i64 n)] false Tryz.func53 kq kq (by simp [CV.wf,SV.wf]) ?_;refine V.u ?_;refine V.ret (.v (.one (.sb (decide (n>-2147483648)&&decide (n<2147483648))))) kq kq ?_;exact fun ρ a w hS=>⟨rfl,hS.chg⟩
def rdNumL (X:RIn):Nat→RSt→Nat→Nat→Nat→Int×RSt
 | 0,r,_,_,_=>(0,r)
 | k+1,r,z,m,n =>
  let b:=(takeB X r).1
  let r':=(takeB X r).2
  let z':=z+b.toNat % 128*m
  if 128≤b.toNat∧n+1<6 then rdNumL X k r' z' (m*128) (n+1)
  else if 128≤b.toNat∨(1<n+1∧b.toNat=0)∨¬ isNum (unzz z')=true then (0,⟨r'.at_,true⟩) else (unzz z',r')
def rdNum (X:RIn) (r:RSt):Int×RSt:=rdNumL X 6 r 0 1 0
structure RNI where
 r:RSt
 z:Nat
 m:Nat
 n:Nat
def rnumSt (X:RIn) (i:RNI):St:={ n:=48,slots:=[(0,.v (.one (.ptr 0 0))),(3,.v (.one (.int .u64 (i.z:Int)))),(4,.v (.one (.int .u64 (i.m:Int)))),(6,.v (.one (.int .i64 (i.n:Int)))),(8,.v (.one (.ptr 0 0)))],gs:=[],heap:=(rdF [] X i.r).heap,next:=1,rows:=[],nr:=0,pers:=[],wr:=false,fx:=1 }
theorem takeB_ok {X:RIn} {r:RSt} (h:okIn X r):okIn X (takeB X r).2:=by
 unfold takeB;split
 ·exact ⟨h.1,by simp only; omega⟩
 ·exact h
set_option maxHeartbeats 2000000 in
theorem rnumber (X:RIn) (r:RSt) (h:okIn X r) (ρ:Nat→Nat) (w:World) (hF:FSat ρ (rdF [] X r) w) :
  Calls Tryz.prog 57 (([.one (.ptr 0 0)]:List CV).map (CV.den ρ)).toArray w (RdR [] X r (.v (.one (.int .i64 (rdNum X r).1))) (rdNum X r).2 ρ w):=by
 refine Calls.of_F hF [.one (.ptr 0 0)] false Tryz.func57 kq kq (by simp [CV.wf,SV.wf,rdF,St.W]) ?_;refine V.u ?_;refine V.loopTo [0,3,4,6,8] [0] [] [] (fun i:RNI=>6 - i.n) (rnumSt X) (fun i=>okIn X i.r∧i.n<6∧i.m=128 ^ i.n∧i.z<128 ^ i.n∧rdNumL X (6 - i.n) i.r i.z i.m i.n=rdNum X r) ⟨r,0,1,0⟩ kq ⟨h,by simp,by simp,by simp,rfl⟩ (fun i hi ih=>?_);obtain ⟨r1,z,m,n⟩:=i;obtain ⟨g1,g2,g3,g4,g5⟩:=hi;simp only at g1 g2 g3 g4 g5;refine V.callW 90 [.one (.ptr 0 0)] [.one (.ptr 0 0)] [0] [] [] (rdF [] X r1) _ _ _ kq kq kq (fun _=>rfl) (fun _=>kq) (fun ρ w hF=>rtake X r1 g1 ρ w hF) ?_;rintro r2 rfl;generalize hb:(takeB X r1).1=b at *;have hbl:=b.toNat_lt;have hw:IntKind.u64.wrap ((b.toNat:Int).tmod 128)=((b.toNat % 128:Nat):Int):=by
  have:(b.toNat:Int).tmod 128=((b.toNat % 128:Nat):Int):=rfl;rw [this]; simp [IntKind.wrap,IntKind.bits,IntKind.signed]; omega
 have hm:m≤34359738368:=by
  have:m≤128 ^ 5:=g3▸Nat.pow_le_pow_right (by omega) (by omega);simpa using this
 have hx:b.toNat % 128≤127:=by omega
 have hp:b.toNat % 128*m≤127*m:=Nat.mul_le_mul_right m hx;have hzm:z<m:=g3▸g4;have hz':((z+b.toNat % 128*m:Nat):Int)=(z:Int)+IntKind.u64.wrap ((b.toNat:Int).tmod 128)*(m:Int):=by rw [hw]; push_cast; rfl
 have hpi:IntKind.u64.wrap ((b.toNat:Int).tmod 128)*(m:Int)=((b.toNat % 128*m:Nat):Int):=by rw [hw]; push_cast; rfl
 refine V.run 100 [(128:Int)≠0,inK .u64 (IntKind.u64.wrap ((b.toNat:Int).tmod 128)*(m:Int)),inK .u64 ((z:Int)+IntKind.u64.wrap ((b.toNat:Int).tmod 128)*(m:Int)),inK .u64 ((m:Int)*128),inK .i64 ((n:Int)+1)] kq ?_ ?_
 ·rw [← hz',hpi];simp only [allP,inK];omega
 refine V.bn 26 (decide ((b.toNat:Int)≥128)&&decide ((n:Int)+1<6)) (fun hc=>?_) (fun hc=>?_)
 ·have hc':128≤b.toNat∧n+1<6:=by simp at hc; omega
  refine V.u ?_;have e6:6 - n=(6 - (n+1))+1:=by omega
  have p1:rdNumL X (6 - (n+1)) (takeB X r1).2 (z+b.toNat % 128*m) (m*128) (n+1)=rdNum X r:=by
   rw [← g5,e6];simp only [rdNumL,hb,if_pos hc']
  have key:=ih ⟨(takeB X r1).2,z+b.toNat % 128*m,m*128,n+1⟩ ⟨takeB_ok g1,hc'.2,by simp only [g3,Nat.pow_succ],by simp only [Nat.pow_succ,← g3]; omega,p1⟩ (by simp only; omega);unfold rnumSt at key;have hm':((m*128:Nat):Int)=(m:Int)*128:=by push_cast; rfl
  have hn':((n+1:Nat):Int)=(n:Int)+1:=by push_cast; rfl
  simp only [hz',hm',hn'] at key;exact V.back [0,3,4,6,8] [0] [] [] key kq kq
 ·have hc':¬ (128≤b.toNat∧n+1<6):=by simp at hc; omega
  refine V.u ?_;refine V.callP 91 [.one (.int .u64 ((z:Int)+IntKind.u64.wrap ((b.toNat:Int).tmod 128)*(m:Int)))] (.v (.one (.int .i64 (unzz (z+b.toNat % 128*m))))) kq kq (fun _ _ w _=>by
   have:=back_calls (z+b.toNat % 128*m) w (by omega);rw [hz'] at this; exact this) ?_
  refine V.u ?_;have hmid:rdNum X r=if 128≤b.toNat∨(1<n+1∧b.toNat=0)∨¬ isNum (unzz (z+b.toNat % 128*m))=true then (0,⟨(takeB X r1).2.at_,true⟩) else (unzz (z+b.toNat % 128*m),(takeB X r1).2):=by
   rw [← g5,show 6 - n=(6 - (n+1))+1 by omega];simp only [rdNumL,hb,if_neg hc']
  rw [hmid];refine V.split 31 (decide ((b.toNat:Int)≥128)) kq (fun h1=>?_) (fun h1=>?_)
  ·have h1':128≤b.toNat:=by simp at h1; omega
   refine V.u ?_;rw [if_pos (.inl h1')];refine V.soft 0 ?_;exact V.retF (⟨(takeB X r1).2.at_,true⟩:RSt) [] (.v (.one (.int .i64 0))) kq kq kq kq kq kq kq rfl
  ·have h1':¬ 128≤b.toNat:=by simp at h1; omega
   refine V.u ?_;refine V.callPA 39 false (decide ((n:Int)+1>1)&&((b.toNat:Int)==0)) 53 [.one (.int .i64 (unzz (z+b.toNat % 128*m)))] (.one (.sb (isNum (unzz (z+b.toNat % 128*m))))) kq kq (fun _ _ _ w _=>isNumber_calls _ w) ?_;refine V.u ?_;refine V.bn 43 ((decide ((n:Int)+1>1)&&((b.toNat:Int)==0))||!(isNum (unzz (z+b.toNat % 128*m)))) (fun h2=>?_) (fun h2=>?_)
   ·have h2':128≤b.toNat∨(1<n+1∧b.toNat=0)∨¬ isNum (unzz (z+b.toNat % 128*m))=true:=by
     simp at h2;rcases h2 with h2 | h2
     ·exact .inr (.inl (by omega))
     ·exact .inr (.inr (by simp [h2]))
    refine V.u ?_;rw [if_pos h2'];refine V.soft 0 ?_;exact V.retF (⟨(takeB X r1).2.at_,true⟩:RSt) [] (.v (.one (.int .i64 0))) kq kq kq kq kq kq kq rfl
   ·have h2':¬ (128≤b.toNat∨(1<n+1∧b.toNat=0)∨¬ isNum (unzz (z+b.toNat % 128*m))=true):=by
     simp at h2;intro h3;rcases h3 with h3 | h3 | h3
     ·exact h1' h3
     ·exact absurd h3.2 (by omega)
     ·exact h3 h2.2
    refine V.u ?_;rw [if_neg h2'];exact V.retF (⟨(takeB X r1).2.at_,(takeB X r1).2.bad⟩:RSt) [] (.v (.one (.int .i64 (unzz (z+b.toNat % 128*m))))) kq kq kq kq kq kq kq rfl
def rdFlag (X:RIn) (r:RSt):Bool×RSt:=((takeB X r).1.toNat==1,⟨(takeB X r).2.at_,(takeB X r).2.bad||decide (1<(takeB X r).1.toNat)⟩)
set_option maxHeartbeats 1000000 in
theorem rflag (X:RIn) (r:RSt) (h:okIn X r) (ρ:Nat→Nat) (w:World) (hF:FSat ρ (rdF [] X r) w) :
  Calls Tryz.prog 208 (([.one (.ptr 0 0)]:List CV).map (CV.den ρ)).toArray w (RdR [] X r (.v (.one (.sb (rdFlag X r).1))) (rdFlag X r).2 ρ w):=by
 refine Calls.of_F hF [.one (.ptr 0 0)] false Tryz.func208 kq kq (by simp [CV.wf,SV.wf,rdF,St.W]) ?_;refine V.u ?_;refine V.callW 90 [.one (.ptr 0 0)] [.one (.ptr 0 0)] [0] [] [] (rdF [] X r) _ _ _ kq kq kq (fun _=>rfl) (fun _=>kq) (fun ρ w hF=>rtake X r h ρ w hF) ?_;rintro r2 rfl;refine V.u ?_;refine V.retF (⟨(takeB X r).2.at_,(takeB X r).2.bad||decide (((takeB X r).1.toNat:Int)>1)⟩:RSt) [] (.v (.one (.sb (((takeB X r).1.toNat:Int)==1)))) kq kq ?_ kq kq kq kq ?_
 ·have:(((takeB X r).1.toNat:Int)==1)=((takeB X r).1.toNat==1):=by rw [Bool.eq_iff_iff]; simp; omega
  rw [this]; rfl
 ·simp only [rdFlag];congr 2;rw [Bool.eq_iff_iff]; simp; omega
theorem isNum_32 {n:Int} (h:isNum n=true):num32 n:=by simp [isNum] at h; exact ⟨by omega,by omega⟩
theorem rdNumL_ok (X:RIn):∀ (k:Nat) (r:RSt) (z m n:Nat),okIn X r→okIn X (rdNumL X k r z m n).2∧isNum (rdNumL X k r z m n).1=true
 | 0,r,_,_,_,h=>⟨h,rfl⟩
 | k+1,r,z,m,n,h=>by
  have h1:=takeB_ok h;simp only [rdNumL];split
  ·exact rdNumL_ok X k _ _ _ _ h1
  ·split
   ·exact ⟨h1,rfl⟩
   ·rename_i hn;refine ⟨h1,?_⟩;by_cases hh:isNum (unzz (z+(takeB X r).1.toNat % 128*m))=true
    ·exact hh
    ·exact absurd (.inr (.inr hh)) hn
theorem rdNum_ok {X:RIn} {r:RSt} (h:okIn X r):okIn X (rdNum X r).2∧isNum (rdNum X r).1=true:=rdNumL_ok X 6 r 0 1 0 h
def rdStr (X:RIn) (r:RSt):List UInt8×RSt :=
 let n:=(rdNum X r).1
 let r':=(rdNum X r).2
 if n<0∨255<n∨(X.s.length:Int) - r'.at_<n then ([],⟨r'.at_,true⟩) else ((X.s.take (r'.at_+n.toNat)).drop r'.at_,⟨r'.at_+n.toNat,r'.bad⟩)
set_option maxHeartbeats 2000000 in
theorem rstr (X:RIn) (r:RSt) (h:okIn X r) (ρ:Nat→Nat) (w:World) (hF:FSat ρ (rdF [] X r) w) :
  Calls Tryz.prog 182 (([.one (.ptr 0 0)]:List CV).map (CV.den ρ)).toArray w (RdR [] X r (.v (.one (.str (rdStr X r).1))) (rdStr X r).2 ρ w):=by
 obtain ⟨g1,g2⟩:=rdNum_ok h;have g2:=isNum_32 g2;refine Calls.of_F hF [.one (.ptr 0 0)] false Tryz.func182 kq kq (by simp [CV.wf,SV.wf,rdF,St.W]) ?_;refine V.u ?_;refine V.callW 57 [.one (.ptr 0 0)] [.one (.ptr 0 0)] [0] [] [] (rdF [] X r) _ _ _ kq kq kq (fun _=>rfl) (fun _=>kq) (fun ρ w hF=>rnumber X r h ρ w hF) ?_;rintro r2 rfl;generalize hn:(rdNum X r).1=n at *;refine V.u ?_;refine V.drawR 1000 [(decide (n<0)||decide (n>255))=false→inK .i64 ((X.s.length:Int) - ((rdNum X r).2.at_:Int))] kq ?_ ?_
 ·have:=g1.1; have:=g1.2;simp only [allP,inK];exact fun _=>by omega
 refine V.u ?_;have q1:=g1.1;have q2:=g1.2;refine V.bn 25 ((decide (n<0)||decide (n>255))||decide (n>(X.s.length:Int) - ((rdNum X r).2.at_:Int))) (fun hb=>?_) (fun hb=>?_)
 ·have hb':n<0∨255<n∨(X.s.length:Int) - (rdNum X r).2.at_<n:=by simp at hb; omega
  refine V.u ?_;refine V.soft 0 ?_;refine V.retF (⟨(rdNum X r).2.at_,true⟩:RSt) [] (.v (.one (.str []))) kq kq ?_ kq kq kq kq ?_
  ·simp only [rdStr,hn,if_pos hb']; rfl
  ·simp only [rdStr,hn,if_pos hb']
 ·have hb':¬ (n<0∨255<n∨(X.s.length:Int) - (rdNum X r).2.at_<n):=by simp at hb; omega
  have hn0:n=(n.toNat:Int):=by omega
  refine V.run 100 [inK .i64 (((rdNum X r).2.at_:Int)+n)] kq (by simp only [allP,inK]; omega) ?_;refine V.drawR 1000 [inK .i64 (((rdNum X r).2.at_:Int)+n - n),0≤((rdNum X r).2.at_:Int)+n - n∧((rdNum X r).2.at_:Int)+n - n≤((rdNum X r).2.at_:Int)+n∧((rdNum X r).2.at_:Int)+n≤(X.s.length:Int)] kq (by simp only [allP,inK]; omega) ?_;refine V.u ?_;have e1:(((rdNum X r).2.at_+n.toNat:Nat):Int)=((rdNum X r).2.at_:Int)+n:=by omega
  have e2:(((rdNum X r).2.at_:Int)+n).toNat=(rdNum X r).2.at_+n.toNat:=by omega
  have e3:(((rdNum X r).2.at_:Int)+n - n).toNat=(rdNum X r).2.at_:=by omega
  refine V.retF (⟨(rdNum X r).2.at_+n.toNat,(rdNum X r).2.bad⟩:RSt) [] (.v (.one (.str ((X.s.take (((rdNum X r).2.at_:Int)+n).toNat).drop (((rdNum X r).2.at_:Int)+n - n).toNat)))) kq kq ?_ ?_ kq kq kq ?_
  ·simp only [rdStr,hn,if_neg hb',e2,e3]; rfl
  ·simp only [rdF,fragOf,e1]; kernel_rfl
  ·simp only [rdStr,hn,if_neg hb']
def rdTy (X:RIn) (r:RSt):Ty×RSt :=
 let a:=rdNum X r
 let b:=rdNum X a.2
 let c:=rdNum X b.2
 let d:=rdFlag X c.2
 let e:=rdStr X d.2
 (⟨a.1,b.1,c.1,d.1,e.1⟩,e.2)
theorem rdFlag_ok {X:RIn} {r:RSt} (h:okIn X r):okIn X (rdFlag X r).2:=takeB_ok h
theorem rdStr_ok {X:RIn} {r:RSt} (h:okIn X r):okIn X (rdStr X r).2:=by
 obtain ⟨h1,h2⟩:=(rdNum_ok h).1;unfold rdStr;simp only;split
 ·exact ⟨h1,h2⟩
 ·exact ⟨h1,by simp only; omega⟩
set_option maxHeartbeats 2000000 in
theorem rtyp (X:RIn) (r:RSt) (h:okIn X r) (ρ:Nat→Nat) (w:World) (hF:FSat ρ (rdF [] X r) w) :
  Calls Tryz.prog 172 (([.one (.ptr 0 0)]:List CV).map (CV.den ρ)).toArray w (RdR [] X r (.v (.agg (rdTy X r).1.cells)) (rdTy X r).2 ρ w):=by
 have h1:=(rdNum_ok h).1;have h2:=(rdNum_ok h1).1;have h3:=(rdNum_ok h2).1;have h4:=rdFlag_ok h3;refine Calls.of_F hF [.one (.ptr 0 0)] false Tryz.func172 kq kq (by simp [CV.wf,SV.wf,rdF,St.W]) ?_;refine V.u ?_;refine V.callW 57 [.one (.ptr 0 0)] [.one (.ptr 0 0)] [0] [] [] (rdF [] X r) _ _ _ kq kq kq (fun _=>rfl) (fun _=>kq) (fun ρ w hF=>rnumber X r h ρ w hF) ?_;rintro r1 rfl;refine V.u ?_;refine V.callW 57 [.one (.ptr 0 0)] [.one (.ptr 0 0)] [0] [] [] (rdF [] X _) _ _ _ kq kq kq (fun _=>rfl) (fun _=>kq) (fun ρ w hF=>rnumber X _ h1 ρ w hF) ?_;rintro r1 rfl;refine V.u ?_;refine V.callW 57 [.one (.ptr 0 0)] [.one (.ptr 0 0)] [0] [] [] (rdF [] X _) _ _ _ kq kq kq (fun _=>rfl) (fun _=>kq) (fun ρ w hF=>rnumber X _ h2 ρ w hF) ?_;rintro r1 rfl;refine V.u ?_;refine V.callW 208 [.one (.ptr 0 0)] [.one (.ptr 0 0)] [0] [] [] (rdF [] X _) _ _ _ kq kq kq (fun _=>rfl) (fun _=>kq) (fun ρ w hF=>rflag X _ h3 ρ w hF) ?_;rintro r1 rfl;refine V.u ?_;refine V.callW 182 [.one (.ptr 0 0)] [.one (.ptr 0 0)] [0] [] [] (rdF [] X _) _ _ _ kq kq kq (fun _=>rfl) (fun _=>kq) (fun ρ w hF=>rstr X _ h4 ρ w hF) ?_;rintro r1 rfl;refine V.u ?_;refine V.retF (⟨(rdTy X r).2.at_,(rdTy X r).2.bad⟩:RSt) [] (.v (.agg (rdTy X r).1.cells)) kq kq kq kq kq kq kq rfl
def orB (n b:Int):Int:=IntKind.i32.wrap ((BitVec.ofInt 32 (IntKind.i32.wrap (n*2 ^ 8)) ||| BitVec.ofInt 32 (IntKind.i32.wrap b)).toNat:Int)
def rdFour (X:RIn) (r:RSt):Int×RSt :=
 let a:=takeB X r
 let b:=takeB X a.2
 let c:=takeB X b.2
 let d:=takeB X c.2
 (IntKind.i64.wrap (orB (orB (orB (orB 0 a.1.toNat) b.1.toNat) c.1.toNat) d.1.toNat),d.2)
set_option maxHeartbeats 2000000 in
theorem rfour (X:RIn) (r:RSt) (h:okIn X r) (ρ:Nat→Nat) (w:World) (hF:FSat ρ (rdF [] X r) w) :
  Calls Tryz.prog 216 (([.one (.ptr 0 0)]:List CV).map (CV.den ρ)).toArray w (RdR [] X r (.v (.one (.int .i64 (rdFour X r).1))) (rdFour X r).2 ρ w):=by
 have h1:=takeB_ok h;have h2:=takeB_ok h1;have h3:=takeB_ok h2;refine Calls.of_F hF [.one (.ptr 0 0)] true Tryz.func216 kq kq (by simp [CV.wf,SV.wf,rdF,St.W]) ?_;refine V.u ?_;refine V.iter ?_;refine V.u ?_;refine V.kn 5 (decide ((0:Int)<4)) true rfl ?_;refine V.run 100 [(0:Int)≤8] kq (by simp [allP]) ?_;refine V.callW 90 [.one (.ptr 0 0)] [.one (.ptr 0 0)] [0] [] [] (rdF [] X r) _ _ _ kq kq kq (fun _=>rfl) (fun _=>kq) (fun ρ w hF=>rtake X _ h ρ w hF) ?_;rintro r1 rfl;refine V.u ?_;refine V.iter ?_;refine V.u ?_;refine V.kn 5 (decide ((1:Int)<4)) true rfl ?_;refine V.run 100 [(0:Int)≤8] kq (by simp [allP]) ?_;refine V.callW 90 [.one (.ptr 0 0)] [.one (.ptr 0 0)] [0] [] [] (rdF [] X _) _ _ _ kq kq kq (fun _=>rfl) (fun _=>kq) (fun ρ w hF=>rtake X _ h1 ρ w hF) ?_;rintro r1 rfl;refine V.u ?_;refine V.iter ?_;refine V.u ?_;refine V.kn 5 (decide ((2:Int)<4)) true rfl ?_;refine V.run 100 [(0:Int)≤8] kq (by simp [allP]) ?_;refine V.callW 90 [.one (.ptr 0 0)] [.one (.ptr 0 0)] [0] [] [] (rdF [] X _) _ _ _ kq kq kq (fun _=>rfl) (fun _=>kq) (fun ρ w hF=>rtake X _ h2 ρ w hF) ?_;rintro r1 rfl;refine V.u ?_;refine V.iter ?_;refine V.u ?_;refine V.kn 5 (decide ((3:Int)<4)) true rfl ?_;refine V.run 100 [(0:Int)≤8] kq (by simp [allP]) ?_;refine V.callW 90 [.one (.ptr 0 0)] [.one (.ptr 0 0)] [0] [] [] (rdF [] X _) _ _ _ kq kq kq (fun _=>rfl) (fun _=>kq) (fun ρ w hF=>rtake X _ h3 ρ w hF) ?_;rintro r1 rfl;refine V.u ?_;refine V.iter ?_;refine V.u ?_;refine V.kn 5 (decide ((4:Int)<4)) false rfl ?_;refine V.u ?_;exact V.retF (⟨(rdFour X r).2.at_,(rdFour X r).2.bad⟩:RSt) [] (.v (.one (.int .i64 (rdFour X r).1))) kq kq kq kq kq kq kq rfl
def boxF (ps:List Pers) (v:Int):St:={ n:=0,slots:=[],gs:=[],heap:=[(0,⟨[.int .i64 v],3,true⟩)],next:=1,rows:=[],nr:=0,pers:=ps,wr:=false }
def BxR (ps:List Pers) (v:Int) (x:RV) (ρ:Nat→Nat) (w:World):Ending→World→Prop:=GivesF ρ (boxF ps v) (fun _:Unit=>True) (fun _=>x) (fun _=>boxF [] v) w
theorem isAt (a p v:Int) (ρ:Nat→Nat) (w:World) (hF:FSat ρ (boxF [] v) w) :
  Calls Tryz.prog 282 (([.agg [.int .i64 a,.int .i64 p],.one (.ptr 0 0)]:List CV).map (CV.den ρ)).toArray w (BxR [] v (.v (.one (.sb (a==v)))) ρ w):=by
 refine Calls.of_F hF [.agg [.int .i64 a,.int .i64 p],.one (.ptr 0 0)] false Tryz.func282 kq kq (by simp [CV.wf,SV.wf,boxF,St.W]) ?_;refine V.u ?_;exact V.retF () [] (.v (.one (.sb (a==v)))) kq kq kq kq kq kq kq trivial
theorem drop_getD {α:Type} (l:List α) (i:Nat) (d:α) (h:i<l.length):l.drop i=l.getD i d::l.drop (i+1):=by
 rw [List.drop_eq_getElem_cons h]; simp [List.getD,List.getElem?_eq_getElem h]
def relRow (rl:List (Int×Int)) (q:Option Addr) (c:Nat):Row:=rowL rlv (0,0) rl q c 62 2 false
def idxF (v:Int):List (Int×Int)→Nat→Int
 | [],_=>-1
 | x::l,i=>if x.1==v then (i:Int) else idxF v l (i+1)
def ixSt (rl:List (Int×Int)) (q:Option Addr) (c:Nat) (v:Int) (i:Nat):St :=
 { n:=19,slots:=[(0,.v (.one (.row 0 q rl.length c))),(1,.v (.one (.fn 282 [0]))),(7,.v (.one (.int .i64 (rl.length:Int)))),(8,.v (.one (.int .i64 (i:Int))))],gs:=[],
    heap:=[(0,⟨[.int .i64 v],3,true⟩)],next:=1,rows:=[(0,relRow rl q c)],nr:=1,pers:=[],wr:=false,fx:=1 }
set_option maxHeartbeats 2000000 in
theorem indexF (rl:List (Int×Int)) (q:Option Addr) (c:Nat) (v:Int) (hl:rl.length≤1000000000) (ρ:Nat→Nat) (w:World) (hF:FSat ρ (boxF [rowP (relRow rl q c)] v) w) :
  Calls Tryz.prog 281 (([.one (.val (.slice q rl.length c)),.one (.fn 282 [0])]:List CV).map (CV.den ρ)).toArray w (BxR [rowP (relRow rl q c)] v (.v (.one (.int .i64 (idxF v rl 0)))) ρ w):=by
 refine Calls.of_F hF [.one (.val (.slice q rl.length c)),.one (.fn 282 [0])] false Tryz.func281 kq kq (by simp [CV.wf,SV.wf,boxF,St.W]) ?_;refine V.u ?_;refine V.ar 0 0 (relRow rl q c) ?_;refine V.loopAt [0,1,7,8] [0] [0] [] (fun i:Nat=>rl.length - i) (ixSt rl q c v) (fun i=>i≤rl.length∧idxF v (rl.drop i) i=idxF v rl 0) 0 kq ⟨by omega,rfl⟩ (fun i hi ih=>?_);obtain ⟨g1,g2⟩:=hi;refine V.u ?_;refine V.bn 9 (decide ((i:Int)<(rl.length:Int))) (fun hb=>?_) (fun hb=>?_)
 ·have hb':i<rl.length:=by simp at hb; omega
  have hd:rl.drop i=rl.getD i (0,0)::rl.drop (i+1):=drop_getD rl i (0,0) hb';rw [hd] at g2;simp only [idxF] at g2;refine V.run 100 [0≤(i:Int)∧(i:Int)<(rl.length:Int)] kq (by simp only [allP]; omega) ?_;refine V.callW 282 [.agg [.int .i64 (rl.getD i (0,0)).1,.int .i64 (rl.getD i (0,0)).2],.one (.ptr 0 0)] [.agg [.int .i64 (rl.getD i (0,0)).1,.int .i64 (rl.getD i (0,0)).2],.one (.ptr 0 0)] [0] [] [] (boxF [] v) _ _ _
   kq kq kq (fun _=>rfl) (fun _=>kq) (fun ρ w hF=>isAt _ _ v ρ w hF) ?_
  rintro _ _;refine V.u ?_;refine V.bn 16 ((rl.getD i (0,0)).1==v) (fun h1=>?_) (fun h1=>?_)
  ·rw [if_pos h1] at g2;refine V.u ?_;rw [← g2];exact V.retF () [] (.v (.one (.int .i64 (i:Int)))) kq kq kq kq kq kq kq trivial
  ·rw [if_neg (fun e=>by rw [h1] at e; cases e)] at g2;refine V.run 100 [inK .i64 ((i:Int)+1)] kq (by simp only [allP,inK]; omega) ?_;have key:=ih (i+1) ⟨by omega,g2⟩ (by omega);exact V.again [0,1,7,8] [0] [0] [] key kq kq
 ·have hb':i=rl.length:=by simp at hb; omega
  have:idxF v rl 0=-1:=by rw [← g2,hb',List.drop_length]; rfl
  rw [this];refine V.u ?_;exact V.retF () [] (.v (.one (.int .i64 (-1)))) kq kq kq kq kq kq kq trivial
def relAt (v:Int) (rl:List (Int×Int)):Option Int:=(rl.find? fun x=>x.1==v).map (·.2)
theorem idxF_spec (v:Int):∀ (l:List (Int×Int)) (i:Nat),(idxF v l i=-1∧relAt v l=none)∨∃ j:Nat,j<l.length∧idxF v l i=((i+j:Nat):Int)∧relAt v l=some (l.getD j (0,0)).2
 | [],_=>.inl ⟨rfl,rfl⟩
 | x::l,i=>by
  by_cases h:(x.1==v)=true
  ·exact .inr ⟨0,by simp,by simp [idxF,h],by simp [relAt,h]⟩
  ·have h':(x.1==v)=false:=by simpa using h
   rcases idxF_spec v l (i+1) with ⟨h1,h2⟩ | ⟨j,h1,h2,h3⟩
   ·exact .inl ⟨by simp [idxF,h',h1],by simpa [relAt,h'] using h2⟩
   ·refine .inr ⟨j+1,by simpa using h1,?_,?_⟩
    ·simp only [idxF,h',Bool.false_eq_true,if_false,h2]; omega
    ·simpa [relAt,h'] using h3
def rdRel (rl:List (Int×Int)) (v:Int) (r:RSt):Int×RSt :=
 match relAt v rl with
 | some p=>(p,r)
 | none=>(0,⟨r.at_,true⟩)
set_option maxHeartbeats 2000000 in
theorem rreloc (rl:List (Int×Int)) (X:RIn) (hX:X.n=rl.length) (v:Int) (r:RSt) (hl:rl.length≤1000000000) (ρ:Nat→Nat) (w:World) (hF:FSat ρ (rdF [rowP (relRow rl X.q X.c)] X r) w) :
  Calls Tryz.prog 224 (([.one (.ptr 0 0),.one (.int .i64 v)]:List CV).map (CV.den ρ)).toArray w (RdR [rowP (relRow rl X.q X.c)] X r (.v (.one (.int .i64 (rdRel rl v r).1))) (rdRel rl v r).2 ρ w):=by
 obtain ⟨s,q,n,c⟩:=X;simp only at hX hF;subst hX;refine Calls.of_F hF [.one (.ptr 0 0),.one (.int .i64 v)] false Tryz.func224 kq kq (by simp [CV.wf,SV.wf,rdF,St.W]) ?_;refine V.u ?_;refine V.callW 281 [.one (.val (.slice q rl.length c)),.one (.fn 282 [1])] [.one (.val (.slice q rl.length c)),.one (.fn 282 [0])] [1] [] [true] (boxF [rowP (relRow rl q c)] v) _ _ _
  kq kq kq (fun _=>rfl) (fun _=>kq) (fun ρ w hF=>indexF rl q c v hl ρ w hF) ?_
 rintro _ _;refine V.u ?_;refine V.bn 13 (decide (idxF v rl 0<0)) (fun hb=>?_) (fun hb=>?_)
 ·have hr:relAt v rl=none:=by
   rcases idxF_spec v rl 0 with ⟨_,h2⟩ | ⟨j,_,h2,_⟩
   ·exact h2
   ·rw [h2] at hb; simp at hb; omega
  refine V.u ?_;refine V.soft 0 ?_;refine V.retF (⟨r.at_,true⟩:RSt) [] (.v (.one (.int .i64 0))) kq kq ?_ kq kq kq kq ?_
  ·simp only [rdRel,hr]; rfl
  ·simp only [rdRel,hr]
 ·rcases idxF_spec v rl 0 with ⟨h2,_⟩ | ⟨j,h1,h2,hr⟩
  ·rw [h2] at hb; simp at hb
  ·rw [h2];simp only [Nat.zero_add];refine V.u ?_;refine V.ar 20 0 (relRow rl q c) ?_;refine V.run 100 [0≤((j:Nat):Int)∧((j:Nat):Int)<(rl.length:Int)] kq (by simp only [allP]; omega) ?_;refine V.retF (⟨r.at_,r.bad⟩:RSt) [] (.v (.one (.int .i64 (rl.getD j (0,0)).2))) kq kq ?_ kq kq kq kq ?_
   ·simp only [rdRel,hr]; rfl
   ·simp only [rdRel,hr]
structure Fm where
 k:Int
 w:Int
 d:Int
 s:List UInt8
def Fm.cells (f:Fm):List SV:=[.int .i64 f.k,.int .i64 f.w,.int .i64 f.d,.str f.s]
structure In where
 op:Int
 d:Int
 a:Int
 b:Int
 t:Ty
 u:Ty
 w:Ty
 n:Int
 m:Int
 p:Int
 vn:Int
 vs:List UInt8
 f:List Fm
 l:List Int
 y:List Ty
 size:Bool
 range:Bool
def inC (x:In) (sf sl sy:SV):List SV :=
 [.int .i64 x.op,.int .i64 x.d,.int .i64 x.a,.int .i64 x.b,
   .int .i64 x.t.k,.int .i64 x.t.p,.int .i64 x.t.q,.sb x.t.v,.str x.t.s,
   .int .i64 x.u.k,.int .i64 x.u.p,.int .i64 x.u.q,.sb x.u.v,.str x.u.s,
   .int .i64 x.w.k,.int .i64 x.w.p,.int .i64 x.w.q,.sb x.w.v,.str x.w.s,
   .int .i64 x.n,.int .i64 x.m,.int .i64 x.p,.int .i64 x.vn,.str x.vs,sf,sl,sy,.sb x.size,.sb x.range]
structure IA where
 qf:Option Addr
 cf:Nat
 ql:Option Addr
 cl:Nat
 qy:Option Addr
 cy:Nat
def inV (x:In) (A:IA):List SV:=inC x (.val (.slice A.qf x.f.length A.cf)) (.val (.slice A.ql x.l.length A.cl)) (.val (.slice A.qy x.y.length A.cy))
structure Tg {α:Type} (s:α):Prop
abbrev Tg.i {α:Type} {s:α} (_:Tg s):α:=s
inductive Sel where
 | D | A | B | N | M | P
def Sel.fn:Sel→Nat
 | .D=>92 | .A=>93 | .B=>94 | .N=>95 | .M=>96 | .P=>97
def Sel.off:Sel→Nat
 | .D=>1 | .A=>2 | .B=>3 | .N=>19 | .M=>20 | .P=>21
def Sel.get:Sel→In→Int
 | .D,x=>x.d | .A,x=>x.a | .B,x=>x.b | .N,x=>x.n | .M,x=>x.m | .P,x=>x.p
def Sel.set:Sel→In→Int→In
 | .D,x,v=>{ x with d:=v } | .A,x,v=>{ x with a:=v } | .B,x,v=>{ x with b:=v } | .N,x,v=>{ x with n:=v } | .M,x,v=>{ x with m:=v } | .P,x,v=>{ x with p:=v }
def Sel.val (s:Sel):SV:=.val (.func (.func s.fn) #[] #[])
def Sel.blk (s:Sel) (g:Nat):Pers:=blkP g [s.val] 159
theorem sel_calls (s:Sel) (g o:Nat) (w:World) (hg:g<w.heap.size):Calls Tryz.prog s.fn #[.pointer (some ⟨g,o,none⟩)] w (Gives (.pointer (some ⟨g,o+s.off,none⟩)) w):=by
 have fin:∀ (f:Nat) (off:Nat) (C:Ctx) (ρ:Nat→Nat) (a:Act) (w':World) (st:St),C.base=(fun _=>g)→st.fx=1→C.S=(fun _=>False)→C.w0=w→Sat C ρ st a w' →
   Gives (.pointer (some ⟨g,off,none⟩)) w (.returned ((RV.v (.one (.ptr 0 off))).den ρ)) w':=by
  intro f off C ρ a w' st e1 e2 e3 e4 hS;have h0:=(hS.fix 0 (by rw [e2]; exact Nat.zero_lt_one)).2;rw [e1] at h0;have hc:=hS.chg;rw [e3,e4] at hc;refine ⟨?_,hc⟩;show Ending.returned (.pointer (some ⟨ρ 0,off,none⟩))=_;rw [h0]
 cases s
 case D =>
  refine Calls.of_ptr g o hg false Tryz.func92 kq kq ?_;refine V.u ?_;exact V.ret (.v (.one (.ptr 0 (o+1)))) kq kq (fun ρ a w' hS=>fin 92 _ _ ρ a w' _ rfl kq rfl rfl hS)
 case A =>
  refine Calls.of_ptr g o hg false Tryz.func93 kq kq ?_;refine V.u ?_;exact V.ret (.v (.one (.ptr 0 (o+2)))) kq kq (fun ρ a w' hS=>fin 92 _ _ ρ a w' _ rfl kq rfl rfl hS)
 case B =>
  refine Calls.of_ptr g o hg false Tryz.func94 kq kq ?_;refine V.u ?_;exact V.ret (.v (.one (.ptr 0 (o+3)))) kq kq (fun ρ a w' hS=>fin 92 _ _ ρ a w' _ rfl kq rfl rfl hS)
 case N =>
  refine Calls.of_ptr g o hg false Tryz.func95 kq kq ?_;refine V.u ?_;exact V.ret (.v (.one (.ptr 0 (o+19)))) kq kq (fun ρ a w' hS=>fin 92 _ _ ρ a w' _ rfl kq rfl rfl hS)
 case M =>
  refine Calls.of_ptr g o hg false Tryz.func96 kq kq ?_;refine V.u ?_;exact V.ret (.v (.one (.ptr 0 (o+20)))) kq kq (fun ρ a w' hS=>fin 92 _ _ ρ a w' _ rfl kq rfl rfl hS)
 case P =>
  refine Calls.of_ptr g o hg false Tryz.func97 kq kq ?_;refine V.u ?_;exact V.ret (.v (.one (.ptr 0 (o+21)))) kq kq (fun ρ a w' hS=>fin 92 _ _ ρ a w' _ rfl kq rfl rfl hS)
def isRg (n:Int):Bool:=decide (n≥-1)&&decide (n<4000)
theorem isReg_calls (n:Int) (w:World):Calls Tryz.prog 152 #[.int .i64 n] w (Gives (.bool (isRg n)) w):=by
 refine Calls.of_plain [.one (.int .i64 n)] false Tryz.func152 kq kq (by simp [CV.wf,SV.wf]) ?_;refine V.u ?_;exact V.ret (.v (.one (.sb (decide (n≥-1)&&decide (n<4000))))) kq kq (fun ρ a w hS=>⟨rfl,hS.chg⟩)
set_option maxHeartbeats 2000000 in
theorem numFine (s:Sel) (x:In) (A:IA) (cb:Nat) (w:World) (hp:PersOk [s.blk cb] w) :
  Calls Tryz.prog 160 (([.agg (inV x A),.one (.val (.pointer (some ⟨cb,0,none⟩)))]:List CV).map (CV.den fun _=>0)).toArray w (Gives (.bool (isNum (Sel.get s x))) w):=by
 have tg:Tg s:=⟨⟩;cases s
 all_goals
  refine Calls.of_P _ hp [.agg (inV x A),.one (.val (.pointer (some ⟨cb,0,none⟩)))] false Tryz.func160 kq kq kq ?_;refine V.u ?_;refine V.lp 0 159 cb 0 [Sel.val tg.i] 159 (.one (Sel.val tg.i)) ?_;refine V.u ?_;refine V.callQ (Sel.fn tg.i) [.one (.ptr 0 0)] (.v (.one (.ptr 0 (0+Sel.off tg.i)))) kq kq (fun ρ a w hS=>sel_calls tg.i (ρ 0) 0 w (hS.lt 0 (by decide:0<1))) ?_;refine V.u ?_;refine V.callP 53 [.one (.int .i64 (Sel.get tg.i x))] (.v (.one (.sb (isNum (Sel.get tg.i x))))) kq kq (fun _ _ w _=>isNumber_calls _ w) ?_;refine V.u ?_;exact V.ret (.v (.one (.sb (isNum (Sel.get tg.i x))))) kq kq (fun ρ a w hS=>⟨rfl,hS.chg⟩)
set_option maxHeartbeats 2000000 in
theorem regFine (s:Sel) (x:In) (A:IA) (cb:Nat) (w:World) (hp:PersOk [s.blk cb] w) :
  Calls Tryz.prog 151 (([.agg (inV x A),.one (.val (.pointer (some ⟨cb,0,none⟩)))]:List CV).map (CV.den fun _=>0)).toArray w (Gives (.bool (isRg (Sel.get s x))) w):=by
 have tg:Tg s:=⟨⟩;cases s
 all_goals
  refine Calls.of_P _ hp [.agg (inV x A),.one (.val (.pointer (some ⟨cb,0,none⟩)))] false Tryz.func151 kq kq kq ?_;refine V.u ?_;refine V.lp 0 159 cb 0 [Sel.val tg.i] 159 (.one (Sel.val tg.i)) ?_;refine V.u ?_;refine V.callQ (Sel.fn tg.i) [.one (.ptr 0 0)] (.v (.one (.ptr 0 (0+Sel.off tg.i)))) kq kq (fun ρ a w hS=>sel_calls tg.i (ρ 0) 0 w (hS.lt 0 (by decide:0<1))) ?_;refine V.u ?_;refine V.callP 152 [.one (.int .i64 (Sel.get tg.i x))] (.v (.one (.sb (isRg (Sel.get tg.i x))))) kq kq (fun _ _ w _=>isReg_calls _ w) ?_;refine V.u ?_;exact V.ret (.v (.one (.sb (isRg (Sel.get tg.i x))))) kq kq (fun ρ a w hS=>⟨rfl,hS.chg⟩)
def intv (n:Int):List SV:=[.int .i64 n]
def fm0:Fm:=⟨0,0,0,[]⟩
def ty0:Ty:=⟨0,0,0,false,[]⟩
def inO (x:In) (A:IA):List SV:=inC x (.row 0 A.qf x.f.length A.cf) (.row 1 A.ql x.l.length A.cl) (.row 2 A.qy x.y.length A.cy)
def inRows (x:In) (A:IA):List (Nat×Row):=[(0,rowL Fm.cells fm0 x.f A.qf A.cf 93 4 true),(1,rowL intv 0 x.l A.ql A.cl 3 1 true),(2,rowL Ty.cells ty0 x.y A.qy A.cy 23 5 true)]
def gtF (ps:List Pers) (X:RIn) (r:RSt) (x:In) (A:IA):St :=
 { n:=0,slots:=[],gs:=[],heap:=[(0,⟨[.str X.s,.int .i64 (r.at_:Int),.val (.slice X.q X.n X.c),.sb r.bad],104,true⟩),(1,⟨inO x A,30,true⟩)],next:=2,rows:=inRows x A,nr:=3,pers:=ps,wr:=false }
def GtR (ps:List Pers) (X:RIn) (r:RSt) (x:In) (A:IA) (r':RSt) (x':In) (ρ:Nat→Nat) (w:World):Ending→World→Prop :=
 GivesF ρ (gtF ps X r x A) (fun y:RSt×In×IA=>y.1=r'∧y.2.1=x') (fun _=>.tup []) (fun y=>gtF [] X y.1 y.2.1 y.2.2) w
set_option maxHeartbeats 2000000 in
theorem numPut (s:Sel) (x:In) (A:IA) (cb:Nat) (b:WSt) (hx:num32 (s.get x)) (hb:b.bs.length≤800000000) (ρ:Nat→Nat) (w:World) (hF:FSat ρ (wrF [s.blk cb] b) w) :
  Calls Tryz.prog 161 (([.one (.ptr 0 0),.agg (inV x A),.one (.val (.pointer (some ⟨cb,0,none⟩)))]:List CV).map (CV.den ρ)).toArray w (WrR [s.blk cb] b (encN (Sel.get s x)) [] ρ w):=by
 have tg:Tg s:=⟨⟩;have hx:num32 (tg.i.get x):=hx;cases s
 all_goals
  refine Calls.of_F hF [.one (.ptr 0 0),.agg (inV x A),.one (.val (.pointer (some ⟨cb,0,none⟩)))] false Tryz.func161 kq kq (by simp [CV.wf,SV.wf,wrF,St.W,inV,inC]) ?_;refine V.u ?_;refine V.lp 0 159 cb 0 [Sel.val tg.i] 159 (.one (Sel.val tg.i)) ?_;refine V.u ?_;refine V.callQ (Sel.fn tg.i) [.one (.ptr 1 0)] (.v (.one (.ptr 1 (0+Sel.off tg.i)))) kq kq (fun ρ a w hS=>sel_calls tg.i (ρ 1) 0 w (hS.lt 1 (by decide:1<2))) ?_;refine V.u ?_;refine V.callW 54 [.one (.ptr 0 0),.one (.int .i64 (Sel.get tg.i x))] [.one (.ptr 0 0),.one (.int .i64 (Sel.get tg.i x))] [0] [0,1] [false] (wrF [] b) _ _ _ kq kq kq (fun _=>rfl) (fun _=>kq) (fun ρ w hF=>wnumber _ b hx.1 hx.2 (by omega) ρ w hF) ?_;intro b1 e1;refine V.u ?_;exact V.retF (⟨b1.bs,b1.q,b1.c,b1.rs,b1.q2,b1.c2⟩:WSt) [2,3] (.tup []) kq kq kq kq kq kq kq ⟨e1.1,e1.2⟩
set_option maxHeartbeats 2000000 in
theorem regPut (s:Sel) (x:In) (A:IA) (cb:Nat) (b:WSt) (h1:-1≤s.get x) (h2:s.get x<4000) (hb:b.bs.length≤800000000) (ρ:Nat→Nat) (w:World) (hF:FSat ρ (wrF [s.blk cb] b) w) :
  Calls Tryz.prog 153 (([.one (.ptr 0 0),.agg (inV x A),.one (.val (.pointer (some ⟨cb,0,none⟩)))]:List CV).map (CV.den ρ)).toArray w (WrR [s.blk cb] b (encN (Sel.get s x+1)) [] ρ w):=by
 have tg:Tg s:=⟨⟩;have h1:-1≤tg.i.get x:=h1;have h2:tg.i.get x<4000:=h2;cases s
 all_goals
  refine Calls.of_F hF [.one (.ptr 0 0),.agg (inV x A),.one (.val (.pointer (some ⟨cb,0,none⟩)))] false Tryz.func153 kq kq (by simp [CV.wf,SV.wf,wrF,St.W,inV,inC]) ?_;refine V.u ?_;refine V.lp 0 159 cb 0 [Sel.val tg.i] 159 (.one (Sel.val tg.i)) ?_;refine V.u ?_;refine V.callQ (Sel.fn tg.i) [.one (.ptr 1 0)] (.v (.one (.ptr 1 (0+Sel.off tg.i)))) kq kq (fun ρ a w hS=>sel_calls tg.i (ρ 1) 0 w (hS.lt 1 (by decide:1<2))) ?_;refine V.run 100 [inK .i64 (Sel.get tg.i x+1)] kq (by simp only [allP,inK]; omega) ?_;refine V.callW 54 [.one (.ptr 0 0),.one (.int .i64 (Sel.get tg.i x+1))] [.one (.ptr 0 0),.one (.int .i64 (Sel.get tg.i x+1))] [0] [0,1] [false] (wrF [] b) _ _ _ kq kq kq (fun _=>rfl) (fun _=>kq) (fun ρ w hF=>wnumber _ b (by omega) (by omega) (by omega) ρ w hF) ?_;intro b1 e1;refine V.u ?_;exact V.retF (⟨b1.bs,b1.q,b1.c,b1.rs,b1.q2,b1.c2⟩:WSt) [2,3] (.tup []) kq kq kq kq kq kq kq ⟨e1.1,e1.2⟩
set_option maxHeartbeats 2000000 in
theorem numGet (s:Sel) (X:RIn) (r:RSt) (x:In) (A:IA) (cb:Nat) (h:okIn X r) (ρ:Nat→Nat) (w:World) (hF:FSat ρ (gtF [s.blk cb] X r x A) w) :
  Calls Tryz.prog 162 (([.one (.ptr 0 0),.one (.ptr 1 0),.one (.val (.pointer (some ⟨cb,0,none⟩)))]:List CV).map (CV.den ρ)).toArray w (GtR [s.blk cb] X r x A (rdNum X r).2 (s.set x ((rdNum X r).1)) ρ w):=by
 have tg:Tg s:=⟨⟩;cases s
 all_goals
  refine Calls.of_F hF [.one (.ptr 0 0),.one (.ptr 1 0),.one (.val (.pointer (some ⟨cb,0,none⟩)))] false Tryz.func162 kq kq (by simp [CV.wf,SV.wf,gtF,St.W]) ?_;refine V.u ?_;refine V.lp 0 159 cb 0 [Sel.val tg.i] 159 (.one (Sel.val tg.i)) ?_;refine V.u ?_;refine V.callQ (Sel.fn tg.i) [.one (.ptr 1 0)] (.v (.one (.ptr 1 (0+Sel.off tg.i)))) kq kq (fun ρ a w hS=>sel_calls tg.i (ρ 1) 0 w (hS.lt 1 (by decide:1<2))) ?_;refine V.u ?_;refine V.callW 57 [.one (.ptr 0 0)] [.one (.ptr 0 0)] [0] [] [false] (rdF [] X r) _ _ _ kq kq kq (fun _=>rfl) (fun _=>kq) (fun ρ w hF=>rnumber X r h ρ w hF) ?_;rintro r1 rfl;refine V.u ?_;exact V.retF (⟨(rdNum X r).2,Sel.set tg.i x ((rdNum X r).1),A⟩:RSt×In×IA) [0,1,2] (.tup []) kq kq kq kq kq kq kq ⟨rfl,rfl⟩
set_option maxHeartbeats 2000000 in
theorem regGet (s:Sel) (X:RIn) (r:RSt) (x:In) (A:IA) (cb:Nat) (h:okIn X r) (ρ:Nat→Nat) (w:World) (hF:FSat ρ (gtF [s.blk cb] X r x A) w) :
  Calls Tryz.prog 154 (([.one (.ptr 0 0),.one (.ptr 1 0),.one (.val (.pointer (some ⟨cb,0,none⟩)))]:List CV).map (CV.den ρ)).toArray w (GtR [s.blk cb] X r x A (rdNum X r).2 (s.set x ((rdNum X r).1 - 1)) ρ w):=by
 have tg:Tg s:=⟨⟩;cases s
 all_goals
  obtain ⟨q1,q2⟩:num32 (rdNum X r).1:=isNum_32 (rdNum_ok h).2;refine Calls.of_F hF [.one (.ptr 0 0),.one (.ptr 1 0),.one (.val (.pointer (some ⟨cb,0,none⟩)))] false Tryz.func154 kq kq (by simp [CV.wf,SV.wf,gtF,St.W]) ?_;refine V.u ?_;refine V.lp 0 159 cb 0 [Sel.val tg.i] 159 (.one (Sel.val tg.i)) ?_;refine V.u ?_;refine V.callQ (Sel.fn tg.i) [.one (.ptr 1 0)] (.v (.one (.ptr 1 (0+Sel.off tg.i)))) kq kq (fun ρ a w hS=>sel_calls tg.i (ρ 1) 0 w (hS.lt 1 (by decide:1<2))) ?_;refine V.u ?_;refine V.callW 57 [.one (.ptr 0 0)] [.one (.ptr 0 0)] [0] [] [false] (rdF [] X r) _ _ _ kq kq kq (fun _=>rfl) (fun _=>kq) (fun ρ w hF=>rnumber X r h ρ w hF) ?_;rintro r1 rfl;refine V.run 100 [inK .i64 ((rdNum X r).1 - 1)] kq (by simp only [allP,inK]; omega) ?_;exact V.retF (⟨(rdNum X r).2,Sel.set tg.i x ((rdNum X r).1 - 1),A⟩:RSt×In×IA) [0,1,2] (.tup []) kq kq kq kq kq kq kq ⟨rfl,rfl⟩
def mvF (ps:List Pers) (y:In) (B:IA):St:={ n:=0,slots:=[],gs:=[],heap:=[(0,⟨inV y B,30,true⟩)],next:=1,rows:=[],nr:=0,pers:=ps,wr:=false }
def MvR (ps:List Pers) (y:In) (B:IA) (y':In) (B':IA) (ρ:Nat→Nat) (w:World):Ending→World→Prop :=
 GivesF ρ (mvF ps y B) (fun z:In×IA=>z=(y',B')) (fun _=>.tup []) (fun z=>mvF [] z.1 z.2) w
set_option maxHeartbeats 2000000 in
theorem numMove (s:Sel) (x y:In) (A B:IA) (cb:Nat) (ρ:Nat→Nat) (w:World) (hF:FSat ρ (mvF [s.blk cb] y B) w) :
  Calls Tryz.prog 159 (([.one (.ptr 0 0),.agg (inV x A),.one (.val (.pointer (some ⟨cb,0,none⟩)))]:List CV).map (CV.den ρ)).toArray w (MvR [s.blk cb] y B (s.set y (s.get x)) B ρ w):=by
 have tg:Tg s:=⟨⟩;cases s
 all_goals
  refine Calls.of_F hF [.one (.ptr 0 0),.agg (inV x A),.one (.val (.pointer (some ⟨cb,0,none⟩)))] false Tryz.func159 kq kq (by simp [CV.wf,SV.wf,mvF,St.W,inV,inC]) ?_;refine V.u ?_;refine V.blkIn 2 cb [Sel.val tg.i] 159 kq kq kq kq kq ?_;refine V.draw2 8 (Sel.fn tg.i) [.one (.ptr 0 0)] (.v (.one (.ptr 0 (0+Sel.off tg.i)))) (Sel.fn tg.i) [.one (.ptr 1 0)] (.v (.one (.ptr 1 (0+Sel.off tg.i)))) kq kq kq kq (fun ρ a w hS=>sel_calls tg.i (ρ 0) 0 w (hS.lt 0 (Nat.le_of_ble_eq_true kq))) kq kq kq (fun ρ a w hS=>sel_calls tg.i (ρ 1) 0 w (hS.lt 1 (Nat.le_of_ble_eq_true kq))) kq ?_;refine V.u ?_;exact V.retF ((Sel.set tg.i y (Sel.get tg.i x),B):In×IA) [] (.tup []) kq kq kq kq kq kq kq rfl
theorem chg_grow (w:World) (k:Nat) (os:Array Obj):Chg (fun _=>False) w (Sort.grow (w.drewN k) os) :=
 ⟨rfl,rfl,rfl,by simp [Sort.grow,World.drewN],fun i hi _=>by simp [Sort.grow,World.drewN,Array.getElem?_append_left hi]⟩
def varP (name:String) (cs:Array Value):Pers:=⟨fun k=>Tryz.prog.globalNamed name=some k,fun w=>w.var? Tryz.prog name=some cs⟩
theorem varP_stable (name:String) (cs:Array Value) (w w':World) (h:(varP name cs).φ w) (hk:∀ k,(varP name cs).D k→w'.heap[k]?=w.heap[k]?):(varP name cs).φ w':=by
 show w'.var? Tryz.prog name=some cs;have h':w.var? Tryz.prog name=some cs:=h;unfold World.var? at h' ⊢;cases hg:Tryz.prog.globalNamed name with
 | none=>rw [hg] at h'; cases h'
 | some g =>
  rw [hg] at h';simp only [Option.bind_some] at h' ⊢;rw [hk g hg]; exact h'
def tabP:Pers:=varP "internal/strconv.uint64pow10" (Lib.pow10Tab.map fun z=>Value.int .u64 z).toArray
theorem itoa_calls (n:Int) (h0:-9223372036854775808≤n) (h1:n≤9223372036854775807) (w:World) (htab:tabP.φ w) :
  Calls Tryz.prog 123 #[.int .i64 n] w (Gives (.string ⟨(Lib.itoa n).toArray⟩) w):=by
 refine (Tryz.strconv_Itoa n h0 h1 w htab).mono ?_;rintro e w' ⟨rfl,k,os,rfl⟩;exact ⟨rfl,chg_grow w k os⟩
def regT (n:Int):List UInt8:=if n<0 then [45] else 114::Lib.itoa n
set_option maxHeartbeats 1000000 in
theorem regText_calls (n:Int) (h0:-9223372036854775808≤n) (h1:n≤9223372036854775807) (hl:(Lib.itoa n).length≤100) (w:World) (hp:PersOk [tabP] w) :
  Calls Tryz.prog 156 (([.one (.int .i64 n)]:List CV).map (CV.den fun _=>0)).toArray w (Gives (.string ⟨(regT n).toArray⟩) w):=by
 refine Calls.of_P _ hp [.one (.int .i64 n)] false Tryz.func156 kq kq kq ?_;refine V.u ?_;refine V.bn 4 (decide (n<0)) (fun hb=>?_) (fun hb=>?_)
 ·have hb':n<0:=by simpa using hb
  refine V.u ?_;simp only [regT,if_pos hb'];exact V.ret (.v (.one (.str [45]))) kq kq (fun ρ a w hS=>⟨rfl,hS.chg⟩)
 ·have hb':¬ n<0:=by simpa using hb
  refine V.u ?_;refine V.callP 123 [.one (.int .i64 n)] (.v (.one (.str (Lib.itoa n)))) kq kq (fun ρ a w hS=>itoa_calls n h0 h1 w (hS.pers tabP (List.mem_of_getElem? (i:=0) kq)).1) ?_;refine V.run 100 [(1+(Lib.itoa n).length:Nat)≤9223372036854775807] kq (by simp only [allP]; omega) ?_;simp only [regT,if_neg hb'];exact V.ret (.v (.one (.str ([114]++Lib.itoa n)))) kq kq (fun ρ a w hS=>⟨rfl,hS.chg⟩)
def int64 (n:Int):Prop:=-9223372036854775808≤n∧n≤9223372036854775807
set_option maxHeartbeats 2000000 in
theorem numText (s:Sel) (x:In) (A:IA) (cb:Nat) (hx:int64 (s.get x)) (w:World) (hp:PersOk [tabP,s.blk cb] w) :
  Calls Tryz.prog 163 (([.agg (inV x A),.one (.val (.pointer (some ⟨cb,0,none⟩)))]:List CV).map (CV.den fun _=>0)).toArray w (Gives (.string ⟨(Lib.itoa (Sel.get s x)).toArray⟩) w):=by
 have tg:Tg s:=⟨⟩;have hx:int64 (tg.i.get x):=hx;cases s
 all_goals
  refine Calls.of_P _ hp [.agg (inV x A),.one (.val (.pointer (some ⟨cb,0,none⟩)))] false Tryz.func163 kq kq kq ?_;refine V.u ?_;refine V.lp 1 159 cb 0 [Sel.val tg.i] 159 (.one (Sel.val tg.i)) ?_;refine V.u ?_;refine V.callQ (Sel.fn tg.i) [.one (.ptr 0 0)] (.v (.one (.ptr 0 (0+Sel.off tg.i)))) kq kq (fun ρ a w hS=>sel_calls tg.i (ρ 0) 0 w (hS.lt 0 (by decide:0<1))) ?_;refine V.u ?_;refine V.callP 123 [.one (.int .i64 (Sel.get tg.i x))] (.v (.one (.str (Lib.itoa (Sel.get tg.i x))))) kq kq (fun ρ a w hS=>itoa_calls _ hx.1 hx.2 w (hS.pers tabP (List.mem_of_getElem? (i:=0) kq)).1) ?_;refine V.u ?_;exact V.ret (.v (.one (.str (Lib.itoa (Sel.get tg.i x))))) kq kq (fun ρ a w hS=>⟨rfl,hS.chg⟩)
set_option maxHeartbeats 2000000 in
theorem regTextF (s:Sel) (x:In) (A:IA) (cb:Nat) (hx:int64 (s.get x)) (hl:(Lib.itoa (s.get x)).length≤100) (w:World) (hp:PersOk [tabP,s.blk cb] w) :
  Calls Tryz.prog 155 (([.agg (inV x A),.one (.val (.pointer (some ⟨cb,0,none⟩)))]:List CV).map (CV.den fun _=>0)).toArray w (Gives (.string ⟨(regT (Sel.get s x)).toArray⟩) w):=by
 have tg:Tg s:=⟨⟩;have hl:(Lib.itoa (tg.i.get x)).length≤100:=hl;have hx:int64 (tg.i.get x):=hx;cases s
 all_goals
  refine Calls.of_P _ hp [.agg (inV x A),.one (.val (.pointer (some ⟨cb,0,none⟩)))] false Tryz.func155 kq kq kq ?_;refine V.u ?_;refine V.lp 1 159 cb 0 [Sel.val tg.i] 159 (.one (Sel.val tg.i)) ?_;refine V.u ?_;refine V.callQ (Sel.fn tg.i) [.one (.ptr 0 0)] (.v (.one (.ptr 0 (0+Sel.off tg.i)))) kq kq (fun ρ a w hS=>sel_calls tg.i (ρ 0) 0 w (hS.lt 0 (by decide:0<1))) ?_;refine V.u ?_;refine V.callP 156 [.one (.int .i64 (Sel.get tg.i x))] (.v (.one (.str (regT (Sel.get tg.i x))))) kq kq (fun ρ a w hS=>regText_calls _ hx.1 hx.2 hl w (hS.persOk [true,false])) ?_;refine V.u ?_;exact V.ret (.v (.one (.str (regT (Sel.get tg.i x))))) kq kq (fun ρ a w hS=>⟨rfl,hS.chg⟩)
def isTy (t:Ty):Bool:=isNum t.k&&isNum t.p&&isNum t.q&&decide ((t.s.length:Int)≤255)
theorem isType_calls (t:Ty) (w:World):Calls Tryz.prog 168 (([.agg t.cells]:List CV).map (CV.den fun _=>0)).toArray w (Gives (.bool (isTy t)) w):=by
 refine Calls.of_plain [.agg t.cells] false Tryz.func168 kq kq (by simp [CV.wf,SV.wf,Ty.cells]) ?_;refine V.u ?_;refine V.callP 53 [.one (.int .i64 t.k)] (.v (.one (.sb (isNum t.k)))) kq kq (fun _ _ w _=>isNumber_calls _ w) ?_;refine V.u ?_;refine V.callPA 6 true (isNum t.k) 53 [.one (.int .i64 t.p)] (.one (.sb (isNum t.p))) kq kq (fun _ _ _ w _=>isNumber_calls _ w) ?_;refine V.u ?_;refine V.callPA 11 true (isNum t.k&&isNum t.p) 53 [.one (.int .i64 t.q)] (.one (.sb (isNum t.q))) kq kq (fun _ _ _ w _=>isNumber_calls _ w) ?_;refine V.u ?_;exact V.ret (.v (.one (.sb (isTy t)))) kq kq (fun ρ a w hS=>⟨rfl,hS.chg⟩)
inductive TSel where
 | T | U | W
def TSel.fn:TSel→Nat
 | .T=>101 | .U=>102 | .W=>103
def TSel.off:TSel→Nat
 | .T=>4 | .U=>9 | .W=>14
def TSel.get:TSel→In→Ty
 | .T,x=>x.t | .U,x=>x.u | .W,x=>x.w
def TSel.set:TSel→In→Ty→In
 | .T,x,v=>{ x with t:=v } | .U,x,v=>{ x with u:=v } | .W,x,v=>{ x with w:=v }
def TSel.val (s:TSel):SV:=.val (.func (.func s.fn) #[] #[])
def TSel.blk (s:TSel) (g:Nat):Pers:=blkP g [s.val] 169
theorem ptr_fin {g off:Nat} {C:Ctx} {ρ:Nat→Nat} {a:Act} {w w':World} {st:St} (e1:C.base=(fun _=>g)) (e2:st.fx=1) (e3:C.S=(fun _=>False)) (e4:C.w0=w) (hS:Sat C ρ st a w') :
  Gives (.pointer (some ⟨g,off,none⟩)) w (.returned ((RV.v (.one (.ptr 0 off))).den ρ)) w':=by
 have h0:=(hS.fix 0 (by rw [e2]; exact Nat.zero_lt_one)).2;rw [e1] at h0;have hc:=hS.chg;rw [e3,e4] at hc;refine ⟨?_,hc⟩;show Ending.returned (.pointer (some ⟨ρ 0,off,none⟩))=_;rw [h0]
theorem tsel_calls (s:TSel) (g o:Nat) (w:World) (hg:g<w.heap.size):Calls Tryz.prog s.fn #[.pointer (some ⟨g,o,none⟩)] w (Gives (.pointer (some ⟨g,o+s.off,none⟩)) w):=by
 cases s
 case T =>
  refine Calls.of_ptr g o hg false Tryz.func101 kq kq ?_;refine V.u ?_;exact V.ret (.v (.one (.ptr 0 (o+4)))) kq kq (fun ρ a w' hS=>ptr_fin rfl kq rfl rfl hS)
 case U =>
  refine Calls.of_ptr g o hg false Tryz.func102 kq kq ?_;refine V.u ?_;exact V.ret (.v (.one (.ptr 0 (o+9)))) kq kq (fun ρ a w' hS=>ptr_fin rfl kq rfl rfl hS)
 case W =>
  refine Calls.of_ptr g o hg false Tryz.func103 kq kq ?_;refine V.u ?_;exact V.ret (.v (.one (.ptr 0 (o+14)))) kq kq (fun ρ a w' hS=>ptr_fin rfl kq rfl rfl hS)
set_option maxHeartbeats 2000000 in
theorem tyFine (s:TSel) (x:In) (A:IA) (cb:Nat) (w:World) (hp:PersOk [s.blk cb] w) :
  Calls Tryz.prog 167 (([.agg (inV x A),.one (.val (.pointer (some ⟨cb,0,none⟩)))]:List CV).map (CV.den fun _=>0)).toArray w (Gives (.bool (isTy (s.get x))) w):=by
 have tg:Tg s:=⟨⟩;cases s
 all_goals
  refine Calls.of_P _ hp [.agg (inV x A),.one (.val (.pointer (some ⟨cb,0,none⟩)))] false Tryz.func167 kq kq kq ?_;refine V.u ?_;refine V.lp 0 169 cb 0 [TSel.val tg.i] 169 (.one (TSel.val tg.i)) ?_;refine V.u ?_;refine V.callQ (TSel.fn tg.i) [.one (.ptr 0 0)] (.v (.one (.ptr 0 (0+TSel.off tg.i)))) kq kq (fun ρ a w hS=>tsel_calls tg.i (ρ 0) 0 w (hS.lt 0 (Nat.le_of_ble_eq_true kq))) ?_;refine V.u ?_;refine V.callP 168 [.agg (Ty.cells (TSel.get tg.i x))] (.v (.one (.sb (isTy (TSel.get tg.i x))))) kq kq (fun _ _ w _=>isType_calls _ w) ?_;refine V.u ?_;exact V.ret (.v (.one (.sb (isTy (TSel.get tg.i x))))) kq kq (fun ρ a w hS=>⟨rfl,hS.chg⟩)
set_option maxHeartbeats 2000000 in
theorem tyPut (s:TSel) (x:In) (A:IA) (cb:Nat) (b:WSt) (h1:num32 (s.get x).k) (h2:num32 (s.get x).p) (h3:num32 (s.get x).q) (hl:(s.get x).s.length≤50000000) (hb:b.bs.length≤800000000) (ρ:Nat→Nat) (w:World) (hF:FSat ρ (wrF [s.blk cb] b) w) :
  Calls Tryz.prog 169 (([.one (.ptr 0 0),.agg (inV x A),.one (.val (.pointer (some ⟨cb,0,none⟩)))]:List CV).map (CV.den ρ)).toArray w (WrR [s.blk cb] b (encTy (s.get x)) [] ρ w):=by
 have tg:Tg s:=⟨⟩;have h1:num32 (tg.i.get x).k:=h1;have h2:num32 (tg.i.get x).p:=h2;have h3:num32 (tg.i.get x).q:=h3;have hl:(tg.i.get x).s.length≤50000000:=hl;cases s
 all_goals
  refine Calls.of_F hF [.one (.ptr 0 0),.agg (inV x A),.one (.val (.pointer (some ⟨cb,0,none⟩)))] false Tryz.func169 kq kq (by simp [CV.wf,SV.wf,wrF,St.W,inV,inC]) ?_;refine V.u ?_;refine V.lp 0 169 cb 0 [TSel.val tg.i] 169 (.one (TSel.val tg.i)) ?_;refine V.u ?_;refine V.callQ (TSel.fn tg.i) [.one (.ptr 1 0)] (.v (.one (.ptr 1 (0+TSel.off tg.i)))) kq kq (fun ρ a w hS=>tsel_calls tg.i (ρ 1) 0 w (hS.lt 1 (Nat.le_of_ble_eq_true kq))) ?_;refine V.u ?_;refine V.callW 170 [.one (.ptr 0 0),.agg (Ty.cells (TSel.get tg.i x))] [.one (.ptr 0 0),.agg (Ty.cells (TSel.get tg.i x))] [0] [0,1] [false] (wrF [] b) _ _ _ kq kq kq (fun _=>rfl) (fun _=>kq) (fun ρ w hF=>wtyp _ b h1 h2 h3 hl hb ρ w hF) ?_;intro b1 e1;refine V.u ?_;exact V.retF (⟨b1.bs,b1.q,b1.c,b1.rs,b1.q2,b1.c2⟩:WSt) [2,3] (.tup []) kq kq kq kq kq kq kq ⟨e1.1,e1.2⟩
set_option maxHeartbeats 2000000 in
theorem tyGet (s:TSel) (X:RIn) (r:RSt) (x:In) (A:IA) (cb:Nat) (h:okIn X r) (ρ:Nat→Nat) (w:World) (hF:FSat ρ (gtF [s.blk cb] X r x A) w) :
  Calls Tryz.prog 171 (([.one (.ptr 0 0),.one (.ptr 1 0),.one (.val (.pointer (some ⟨cb,0,none⟩)))]:List CV).map (CV.den ρ)).toArray w (GtR [s.blk cb] X r x A (rdTy X r).2 (s.set x (rdTy X r).1) ρ w):=by
 have tg:Tg s:=⟨⟩;cases s
 all_goals
  refine Calls.of_F hF [.one (.ptr 0 0),.one (.ptr 1 0),.one (.val (.pointer (some ⟨cb,0,none⟩)))] false Tryz.func171 kq kq (by simp [CV.wf,SV.wf,gtF,St.W]) ?_;refine V.u ?_;refine V.lp 0 169 cb 0 [TSel.val tg.i] 169 (.one (TSel.val tg.i)) ?_;refine V.u ?_;refine V.callQ (TSel.fn tg.i) [.one (.ptr 1 0)] (.v (.one (.ptr 1 (0+TSel.off tg.i)))) kq kq (fun ρ a w hS=>tsel_calls tg.i (ρ 1) 0 w (hS.lt 1 (Nat.le_of_ble_eq_true kq))) ?_;refine V.u ?_;refine V.callW 172 [.one (.ptr 0 0)] [.one (.ptr 0 0)] [0] [] [false] (rdF [] X r) _ _ _ kq kq kq (fun _=>rfl) (fun _=>kq) (fun ρ w hF=>rtyp X r h ρ w hF) ?_;rintro r1 rfl;refine V.u ?_;exact V.retF (⟨(rdTy X r).2,TSel.set tg.i x (rdTy X r).1,A⟩:RSt×In×IA) [0,1,2] (.tup []) kq kq kq kq kq kq kq ⟨rfl,rfl⟩
set_option maxHeartbeats 2000000 in
theorem tyMove (s:TSel) (x y:In) (A B:IA) (cb:Nat) (ρ:Nat→Nat) (w:World) (hF:FSat ρ (mvF [s.blk cb] y B) w) :
  Calls Tryz.prog 166 (([.one (.ptr 0 0),.agg (inV x A),.one (.val (.pointer (some ⟨cb,0,none⟩)))]:List CV).map (CV.den ρ)).toArray w (MvR [s.blk cb] y B (s.set y (s.get x)) B ρ w):=by
 have tg:Tg s:=⟨⟩;cases s
 all_goals
  refine Calls.of_F hF [.one (.ptr 0 0),.agg (inV x A),.one (.val (.pointer (some ⟨cb,0,none⟩)))] false Tryz.func166 kq kq (by simp [CV.wf,SV.wf,mvF,St.W,inV,inC]) ?_;refine V.u ?_;refine V.blkIn 2 cb [TSel.val tg.i] 169 kq kq kq kq kq ?_;refine V.draw2 8 (TSel.fn tg.i) [.one (.ptr 0 0)] (.v (.one (.ptr 0 (0+TSel.off tg.i)))) (TSel.fn tg.i) [.one (.ptr 1 0)] (.v (.one (.ptr 1 (0+TSel.off tg.i)))) kq kq kq kq (fun ρ a w hS=>tsel_calls tg.i (ρ 0) 0 w (hS.lt 0 (Nat.le_of_ble_eq_true kq))) kq kq kq (fun ρ a w hS=>tsel_calls tg.i (ρ 1) 0 w (hS.lt 1 (Nat.le_of_ble_eq_true kq))) kq ?_;refine V.u ?_;exact V.retF ((TSel.set tg.i y (TSel.get tg.i x),B):In×IA) [] (.tup []) kq kq kq kq kq kq kq rfl
inductive FSel where
 | S | R
def FSel.fn:FSel→Nat
 | .S=>109 | .R=>110
def FSel.off:FSel→Nat
 | .S=>27 | .R=>28
def FSel.get:FSel→In→Bool
 | .S,x=>x.size | .R,x=>x.range
def FSel.set:FSel→In→Bool→In
 | .S,x,v=>{ x with size:=v } | .R,x,v=>{ x with range:=v }
def FSel.val (s:FSel):SV:=.val (.func (.func s.fn) #[] #[])
def FSel.blk (s:FSel) (g:Nat):Pers:=blkP g [s.val] 173
def psF (ps:List Pers) (x:In) (A:IA):St:={ n:=0,slots:=[],gs:=[],heap:=[(0,⟨inO x A,30,true⟩)],next:=1,rows:=inRows x A,nr:=3,pers:=ps,wr:=false }
def PsR (ps:List Pers) (x:In) (A:IA) (ok:Bool) (x':In) (ρ:Nat→Nat) (w:World):Ending→World→Prop :=
 GivesF ρ (psF ps x A) (fun y:In×IA=>y.1=x') (fun _=>.v (.one (.sb ok))) (fun y=>psF [] y.1 y.2) w
theorem fsel_calls (s:FSel) (g o:Nat) (w:World) (hg:g<w.heap.size):Calls Tryz.prog s.fn #[.pointer (some ⟨g,o,none⟩)] w (Gives (.pointer (some ⟨g,o+s.off,none⟩)) w):=by
 cases s
 case S =>
  refine Calls.of_ptr g o hg false Tryz.func109 kq kq ?_;refine V.u ?_;exact V.ret (.v (.one (.ptr 0 (o+27)))) kq kq (fun ρ a w' hS=>ptr_fin rfl kq rfl rfl hS)
 case R =>
  refine Calls.of_ptr g o hg false Tryz.func110 kq kq ?_;refine V.u ?_;exact V.ret (.v (.one (.ptr 0 (o+28)))) kq kq (fun ρ a w' hS=>ptr_fin rfl kq rfl rfl hS)
theorem flagFine (x:In) (A:IA) (w:World):Calls Tryz.prog 204 (([.agg (inV x A)]:List CV).map (CV.den fun _=>0)).toArray w (Gives (.bool true) w):=by
 refine Calls.of_P [] (by intro p hp; cases hp) [.agg (inV x A)] false Tryz.func204 kq kq kq ?_;refine V.u ?_;exact V.ret (.v (.one (.bool true))) kq kq (fun ρ a w hS=>⟨rfl,hS.chg⟩)
def bitT (v:Bool):List UInt8:=match v with
 | true=>[49]
 | false=>[48]
theorem flagText_calls (v:Bool) (w:World):Calls Tryz.prog 210 #[.bool v] w (Gives (.string ⟨(bitT v).toArray⟩) w):=by
 refine Calls.of_plain [.one (.sb v)] false Tryz.func210 kq kq (by simp [CV.wf,SV.wf]) ?_;refine V.u ?_;refine V.bn 3 v (fun hv=>?_) (fun hv=>?_)
 ·subst hv;refine V.u ?_;exact V.ret (.v (.one (.str [49]))) kq kq (fun ρ a w hS=>⟨rfl,hS.chg⟩)
 ·subst hv;refine V.u ?_;exact V.ret (.v (.one (.str [48]))) kq kq (fun ρ a w hS=>⟨rfl,hS.chg⟩)
set_option maxHeartbeats 2000000 in
theorem flagTextF (s:FSel) (x:In) (A:IA) (cb:Nat) (w:World) (hp:PersOk [s.blk cb] w) :
  Calls Tryz.prog 209 (([.agg (inV x A),.one (.val (.pointer (some ⟨cb,0,none⟩)))]:List CV).map (CV.den fun _=>0)).toArray w (Gives (.string ⟨(bitT (s.get x)).toArray⟩) w):=by
 cases s
 case S =>
  refine Calls.of_P _ hp [.agg (inV x A),.one (.val (.pointer (some ⟨cb,0,none⟩)))] false Tryz.func209 kq kq kq ?_;refine V.u ?_;refine V.lp 0 173 cb 0 [FSel.val .S] 173 (.one (FSel.val .S)) ?_;refine V.u ?_;refine V.callQ (FSel.fn .S) [.one (.ptr 0 0)] (.v (.one (.ptr 0 (0+FSel.off .S)))) kq kq (fun ρ a w hS=>fsel_calls .S (ρ 0) 0 w (hS.lt 0 (Nat.le_of_ble_eq_true kq))) ?_;refine V.u ?_;refine V.callP 210 [.one (.sb (FSel.get .S x))] (.v (.one (.str (bitT (FSel.get .S x))))) kq kq (fun _ _ w _=>flagText_calls _ w) ?_;refine V.u ?_;exact V.ret (.v (.one (.str (bitT (FSel.get .S x))))) kq kq (fun ρ a w hS=>⟨rfl,hS.chg⟩)
 case R =>
  refine Calls.of_P _ hp [.agg (inV x A),.one (.val (.pointer (some ⟨cb,0,none⟩)))] false Tryz.func209 kq kq kq ?_;refine V.u ?_;refine V.lp 0 173 cb 0 [FSel.val .R] 173 (.one (FSel.val .R)) ?_;refine V.u ?_;refine V.callQ (FSel.fn .R) [.one (.ptr 0 0)] (.v (.one (.ptr 0 (0+FSel.off .R)))) kq kq (fun ρ a w hS=>fsel_calls .R (ρ 0) 0 w (hS.lt 0 (Nat.le_of_ble_eq_true kq))) ?_;refine V.u ?_;refine V.callP 210 [.one (.sb (FSel.get .R x))] (.v (.one (.str (bitT (FSel.get .R x))))) kq kq (fun _ _ w _=>flagText_calls _ w) ?_;refine V.u ?_;exact V.ret (.v (.one (.str (bitT (FSel.get .R x))))) kq kq (fun ρ a w hS=>⟨rfl,hS.chg⟩)
set_option maxHeartbeats 2000000 in
theorem flagPut (s:FSel) (x:In) (A:IA) (cb:Nat) (b:WSt) (hb:b.bs.length≤800000000) (ρ:Nat→Nat) (w:World) (hF:FSat ρ (wrF [s.blk cb] b) w) :
  Calls Tryz.prog 205 (([.one (.ptr 0 0),.agg (inV x A),.one (.val (.pointer (some ⟨cb,0,none⟩)))]:List CV).map (CV.den ρ)).toArray w (WrR [s.blk cb] b [bitB (s.get x)] [] ρ w):=by
 cases s
 case S =>
  refine Calls.of_F hF [.one (.ptr 0 0),.agg (inV x A),.one (.val (.pointer (some ⟨cb,0,none⟩)))] false Tryz.func205 kq kq (by simp [CV.wf,SV.wf,wrF,St.W,inV,inC]) ?_;refine V.u ?_;refine V.lp 0 173 cb 0 [FSel.val .S] 173 (.one (FSel.val .S)) ?_;refine V.u ?_;refine V.callQ (FSel.fn .S) [.one (.ptr 1 0)] (.v (.one (.ptr 1 (0+FSel.off .S)))) kq kq (fun ρ a w hS=>fsel_calls .S (ρ 1) 0 w (hS.lt 1 (Nat.le_of_ble_eq_true kq))) ?_;refine V.u ?_;refine V.callW 206 [.one (.ptr 0 0),.one (.sb (FSel.get .S x))] [.one (.ptr 0 0),.one (.sb (FSel.get .S x))] [0] [0,1] [false] (wrF [] b) _ _ _ kq kq kq (fun _=>rfl) (fun _=>kq) (fun ρ w hF=>wflag _ b (by omega) ρ w hF) ?_;intro b1 e1;refine V.u ?_;exact V.retF (⟨b1.bs,b1.q,b1.c,b1.rs,b1.q2,b1.c2⟩:WSt) [2,3] (.tup []) kq kq kq kq kq kq kq ⟨e1.1,e1.2⟩
 case R =>
  refine Calls.of_F hF [.one (.ptr 0 0),.agg (inV x A),.one (.val (.pointer (some ⟨cb,0,none⟩)))] false Tryz.func205 kq kq (by simp [CV.wf,SV.wf,wrF,St.W,inV,inC]) ?_;refine V.u ?_;refine V.lp 0 173 cb 0 [FSel.val .R] 173 (.one (FSel.val .R)) ?_;refine V.u ?_;refine V.callQ (FSel.fn .R) [.one (.ptr 1 0)] (.v (.one (.ptr 1 (0+FSel.off .R)))) kq kq (fun ρ a w hS=>fsel_calls .R (ρ 1) 0 w (hS.lt 1 (Nat.le_of_ble_eq_true kq))) ?_;refine V.u ?_;refine V.callW 206 [.one (.ptr 0 0),.one (.sb (FSel.get .R x))] [.one (.ptr 0 0),.one (.sb (FSel.get .R x))] [0] [0,1] [false] (wrF [] b) _ _ _ kq kq kq (fun _=>rfl) (fun _=>kq) (fun ρ w hF=>wflag _ b (by omega) ρ w hF) ?_;intro b1 e1;refine V.u ?_;exact V.retF (⟨b1.bs,b1.q,b1.c,b1.rs,b1.q2,b1.c2⟩:WSt) [2,3] (.tup []) kq kq kq kq kq kq kq ⟨e1.1,e1.2⟩
set_option maxHeartbeats 2000000 in
theorem flagGet (s:FSel) (X:RIn) (r:RSt) (x:In) (A:IA) (cb:Nat) (h:okIn X r) (ρ:Nat→Nat) (w:World) (hF:FSat ρ (gtF [s.blk cb] X r x A) w) :
  Calls Tryz.prog 207 (([.one (.ptr 0 0),.one (.ptr 1 0),.one (.val (.pointer (some ⟨cb,0,none⟩)))]:List CV).map (CV.den ρ)).toArray w (GtR [s.blk cb] X r x A (rdFlag X r).2 (s.set x (rdFlag X r).1) ρ w):=by
 cases s
 case S =>
  refine Calls.of_F hF [.one (.ptr 0 0),.one (.ptr 1 0),.one (.val (.pointer (some ⟨cb,0,none⟩)))] false Tryz.func207 kq kq (by simp [CV.wf,SV.wf,gtF,St.W]) ?_;refine V.u ?_;refine V.lp 0 173 cb 0 [FSel.val .S] 173 (.one (FSel.val .S)) ?_;refine V.u ?_;refine V.callQ (FSel.fn .S) [.one (.ptr 1 0)] (.v (.one (.ptr 1 (0+FSel.off .S)))) kq kq (fun ρ a w hS=>fsel_calls .S (ρ 1) 0 w (hS.lt 1 (Nat.le_of_ble_eq_true kq))) ?_;refine V.u ?_;refine V.callW 208 [.one (.ptr 0 0)] [.one (.ptr 0 0)] [0] [] [false] (rdF [] X r) _ _ _ kq kq kq (fun _=>rfl) (fun _=>kq) (fun ρ w hF=>rflag X r h ρ w hF) ?_;rintro r1 rfl;refine V.u ?_;exact V.retF (⟨(rdFlag X r).2,FSel.set .S x (rdFlag X r).1,A⟩:RSt×In×IA) [0,1,2] (.tup []) kq kq kq kq kq kq kq ⟨rfl,rfl⟩
 case R =>
  refine Calls.of_F hF [.one (.ptr 0 0),.one (.ptr 1 0),.one (.val (.pointer (some ⟨cb,0,none⟩)))] false Tryz.func207 kq kq (by simp [CV.wf,SV.wf,gtF,St.W]) ?_;refine V.u ?_;refine V.lp 0 173 cb 0 [FSel.val .R] 173 (.one (FSel.val .R)) ?_;refine V.u ?_;refine V.callQ (FSel.fn .R) [.one (.ptr 1 0)] (.v (.one (.ptr 1 (0+FSel.off .R)))) kq kq (fun ρ a w hS=>fsel_calls .R (ρ 1) 0 w (hS.lt 1 (Nat.le_of_ble_eq_true kq))) ?_;refine V.u ?_;refine V.callW 208 [.one (.ptr 0 0)] [.one (.ptr 0 0)] [0] [] [false] (rdF [] X r) _ _ _ kq kq kq (fun _=>rfl) (fun _=>kq) (fun ρ w hF=>rflag X r h ρ w hF) ?_;rintro r1 rfl;refine V.u ?_;exact V.retF (⟨(rdFlag X r).2,FSel.set .R x (rdFlag X r).1,A⟩:RSt×In×IA) [0,1,2] (.tup []) kq kq kq kq kq kq kq ⟨rfl,rfl⟩
set_option maxHeartbeats 2000000 in
theorem flagMove (s:FSel) (x y:In) (A B:IA) (cb:Nat) (ρ:Nat→Nat) (w:World) (hF:FSat ρ (mvF [s.blk cb] y B) w) :
  Calls Tryz.prog 203 (([.one (.ptr 0 0),.agg (inV x A),.one (.val (.pointer (some ⟨cb,0,none⟩)))]:List CV).map (CV.den ρ)).toArray w (MvR [s.blk cb] y B (s.set y (s.get x)) B ρ w):=by
 cases s
 case S =>
  refine Calls.of_F hF [.one (.ptr 0 0),.agg (inV x A),.one (.val (.pointer (some ⟨cb,0,none⟩)))] false Tryz.func203 kq kq (by simp [CV.wf,SV.wf,mvF,St.W,inV,inC]) ?_;refine V.u ?_;refine V.blkIn 2 cb [FSel.val .S] 173 kq kq kq kq kq ?_;refine V.draw2 8 (FSel.fn .S) [.one (.ptr 0 0)] (.v (.one (.ptr 0 (0+FSel.off .S)))) (FSel.fn .S) [.one (.ptr 1 0)] (.v (.one (.ptr 1 (0+FSel.off .S)))) kq kq kq kq (fun ρ a w hS=>fsel_calls .S (ρ 0) 0 w (hS.lt 0 (Nat.le_of_ble_eq_true kq))) kq kq kq (fun ρ a w hS=>fsel_calls .S (ρ 1) 0 w (hS.lt 1 (Nat.le_of_ble_eq_true kq))) kq ?_;refine V.u ?_;exact V.retF ((FSel.set .S y (FSel.get .S x),B):In×IA) [] (.tup []) kq kq kq kq kq kq kq rfl
 case R =>
  refine Calls.of_F hF [.one (.ptr 0 0),.agg (inV x A),.one (.val (.pointer (some ⟨cb,0,none⟩)))] false Tryz.func203 kq kq (by simp [CV.wf,SV.wf,mvF,St.W,inV,inC]) ?_;refine V.u ?_;refine V.blkIn 2 cb [FSel.val .R] 173 kq kq kq kq kq ?_;refine V.draw2 8 (FSel.fn .R) [.one (.ptr 0 0)] (.v (.one (.ptr 0 (0+FSel.off .R)))) (FSel.fn .R) [.one (.ptr 1 0)] (.v (.one (.ptr 1 (0+FSel.off .R)))) kq kq kq kq (fun ρ a w hS=>fsel_calls .R (ρ 0) 0 w (hS.lt 0 (Nat.le_of_ble_eq_true kq))) kq kq kq (fun ρ a w hS=>fsel_calls .R (ρ 1) 0 w (hS.lt 1 (Nat.le_of_ble_eq_true kq))) kq ?_;refine V.u ?_;exact V.retF ((FSel.set .R y (FSel.get .R x),B):In×IA) [] (.tup []) kq kq kq kq kq kq kq rfl
set_option maxHeartbeats 2000000 in
theorem flagParse (s:FSel) (l:List UInt8) (x:In) (A:IA) (cb:Nat) (ρ:Nat→Nat) (w:World) (hF:FSat ρ (psF [s.blk cb] x A) w) :
  Calls Tryz.prog 211 (([.one (.str l),.one (.ptr 0 0),.one (.val (.pointer (some ⟨cb,0,none⟩)))]:List CV).map (CV.den ρ)).toArray w (PsR [s.blk cb] x A ((l==[48])||(l==[49])) (s.set x (l==[49])) ρ w):=by
 cases s
 case S =>
  refine Calls.of_F hF [.one (.str l),.one (.ptr 0 0),.one (.val (.pointer (some ⟨cb,0,none⟩)))] false Tryz.func211 kq kq (by simp [CV.wf,SV.wf,psF,St.W]) ?_;refine V.u ?_;refine V.lp 0 173 cb 0 [FSel.val .S] 173 (.one (FSel.val .S)) ?_;refine V.u ?_;refine V.callQ (FSel.fn .S) [.one (.ptr 0 0)] (.v (.one (.ptr 0 (0+FSel.off .S)))) kq kq (fun ρ a w hS=>fsel_calls .S (ρ 0) 0 w (hS.lt 0 (Nat.le_of_ble_eq_true kq))) ?_;refine V.u ?_;exact V.retF ((FSel.set .S x (l==[49]),A):In×IA) [0,1,2] (.v (.one (.sb ((l==[48])||(l==[49]))))) kq kq kq kq kq kq kq rfl
 case R =>
  refine Calls.of_F hF [.one (.str l),.one (.ptr 0 0),.one (.val (.pointer (some ⟨cb,0,none⟩)))] false Tryz.func211 kq kq (by simp [CV.wf,SV.wf,psF,St.W]) ?_;refine V.u ?_;refine V.lp 0 173 cb 0 [FSel.val .R] 173 (.one (FSel.val .R)) ?_;refine V.u ?_;refine V.callQ (FSel.fn .R) [.one (.ptr 0 0)] (.v (.one (.ptr 0 (0+FSel.off .R)))) kq kq (fun ρ a w hS=>fsel_calls .R (ρ 0) 0 w (hS.lt 0 (Nat.le_of_ble_eq_true kq))) ?_;refine V.u ?_;exact V.retF ((FSel.set .R x (l==[49]),A):In×IA) [0,1,2] (.v (.one (.sb ((l==[48])||(l==[49]))))) kq kq kq kq kq kq kq rfl
def isPl (n:Int):Bool:=decide (n≥0)&&decide (n≤1048576)
set_option maxHeartbeats 2000000 in
theorem plFine (s:Sel) (x:In) (A:IA) (cb:Nat) (w:World) (hp:PersOk [s.blk cb] w) :
  Calls Tryz.prog 212 (([.agg (inV x A),.one (.val (.pointer (some ⟨cb,0,none⟩)))]:List CV).map (CV.den fun _=>0)).toArray w (Gives (.bool (isPl (s.get x))) w):=by
 have tg:Tg s:=⟨⟩;cases s
 all_goals
  refine Calls.of_P _ hp [.agg (inV x A),.one (.val (.pointer (some ⟨cb,0,none⟩)))] false Tryz.func212 kq kq kq ?_;refine V.u ?_;refine V.lp 0 159 cb 0 [Sel.val tg.i] 159 (.one (Sel.val tg.i)) ?_;refine V.u ?_;refine V.callQ (Sel.fn tg.i) [.one (.ptr 0 0)] (.v (.one (.ptr 0 (0+Sel.off tg.i)))) kq kq (fun ρ a w hS=>sel_calls tg.i (ρ 0) 0 w (hS.lt 0 (Nat.le_of_ble_eq_true kq))) ?_;refine V.u ?_;refine V.split 9 (decide (Sel.get tg.i x≥0)) kq (fun hb=>?_) (fun hb=>?_)
  ·have e:isPl (Sel.get tg.i x)=decide (Sel.get tg.i x≤1048576):=by simp only [isPl,hb,Bool.true_and]
   rw [e];refine V.u ?_;refine V.lp 0 159 cb 0 [Sel.val tg.i] 159 (.one (Sel.val tg.i)) ?_;refine V.u ?_;refine V.callQ (Sel.fn tg.i) [.one (.ptr 0 0)] (.v (.one (.ptr 0 (0+Sel.off tg.i)))) kq kq (fun ρ a w hS=>sel_calls tg.i (ρ 0) 0 w (hS.lt 0 (Nat.le_of_ble_eq_true kq))) ?_;refine V.u ?_;exact V.ret (.v (.one (.sb (decide (Sel.get tg.i x≤1048576))))) kq kq (fun ρ a w hS=>⟨rfl,hS.chg⟩)
  ·have e:isPl (Sel.get tg.i x)=false:=by simp only [isPl,hb,Bool.false_and]
   rw [e];refine V.u ?_;exact V.ret (.v (.one (.bool false))) kq kq (fun ρ a w hS=>⟨rfl,hS.chg⟩)
set_option maxHeartbeats 2000000 in
theorem plPut (s:Sel) (x:In) (A:IA) (cb:Nat) (b:WSt) (hb:b.bs.length≤800000000) (ρ:Nat→Nat) (w:World) (hF:FSat ρ (wrF [s.blk cb] b) w) :
  Calls Tryz.prog 213 (([.one (.ptr 0 0),.agg (inV x A),.one (.val (.pointer (some ⟨cb,0,none⟩)))]:List CV).map (CV.den ρ)).toArray w (WrR [s.blk cb] b (fourB (s.get x)) [] ρ w):=by
 have tg:Tg s:=⟨⟩;cases s
 all_goals
  refine Calls.of_F hF [.one (.ptr 0 0),.agg (inV x A),.one (.val (.pointer (some ⟨cb,0,none⟩)))] false Tryz.func213 kq kq (by simp [CV.wf,SV.wf,wrF,St.W,inV,inC]) ?_;refine V.u ?_;refine V.lp 0 159 cb 0 [Sel.val tg.i] 159 (.one (Sel.val tg.i)) ?_;refine V.u ?_;refine V.callQ (Sel.fn tg.i) [.one (.ptr 1 0)] (.v (.one (.ptr 1 (0+Sel.off tg.i)))) kq kq (fun ρ a w hS=>sel_calls tg.i (ρ 1) 0 w (hS.lt 1 (Nat.le_of_ble_eq_true kq))) ?_;refine V.u ?_;refine V.callW 214 [.one (.ptr 0 0),.one (.int .i64 (Sel.get tg.i x))] [.one (.ptr 0 0),.one (.int .i64 (Sel.get tg.i x))] [0] [0,1] [false] (wrF [] b) _ _ _ kq kq kq (fun _=>rfl) (fun _=>kq) (fun ρ w hF=>wfour _ b (by omega) ρ w hF) ?_;intro b1 e1;refine V.u ?_;exact V.retF (⟨b1.bs,b1.q,b1.c,b1.rs,b1.q2,b1.c2⟩:WSt) [2,3] (.tup []) kq kq kq kq kq kq kq ⟨e1.1,e1.2⟩
set_option maxHeartbeats 2000000 in
theorem plGet (s:Sel) (X:RIn) (r:RSt) (x:In) (A:IA) (cb:Nat) (h:okIn X r) (ρ:Nat→Nat) (w:World) (hF:FSat ρ (gtF [s.blk cb] X r x A) w) :
  Calls Tryz.prog 215 (([.one (.ptr 0 0),.one (.ptr 1 0),.one (.val (.pointer (some ⟨cb,0,none⟩)))]:List CV).map (CV.den ρ)).toArray w (GtR [s.blk cb] X r x A (rdFour X r).2 (s.set x (rdFour X r).1) ρ w):=by
 have tg:Tg s:=⟨⟩;cases s
 all_goals
  refine Calls.of_F hF [.one (.ptr 0 0),.one (.ptr 1 0),.one (.val (.pointer (some ⟨cb,0,none⟩)))] false Tryz.func215 kq kq (by simp [CV.wf,SV.wf,gtF,St.W]) ?_;refine V.u ?_;refine V.lp 0 159 cb 0 [Sel.val tg.i] 159 (.one (Sel.val tg.i)) ?_;refine V.u ?_;refine V.callQ (Sel.fn tg.i) [.one (.ptr 1 0)] (.v (.one (.ptr 1 (0+Sel.off tg.i)))) kq kq (fun ρ a w hS=>sel_calls tg.i (ρ 1) 0 w (hS.lt 1 (Nat.le_of_ble_eq_true kq))) ?_;refine V.u ?_;refine V.callW 216 [.one (.ptr 0 0)] [.one (.ptr 0 0)] [0] [] [false] (rdF [] X r) _ _ _ kq kq kq (fun _=>rfl) (fun _=>kq) (fun ρ w hF=>rfour X r h ρ w hF) ?_;rintro r1 rfl;refine V.u ?_;exact V.retF (⟨(rdFour X r).2,Sel.set tg.i x (rdFour X r).1,A⟩:RSt×In×IA) [0,1,2] (.tup []) kq kq kq kq kq kq kq ⟨rfl,rfl⟩
set_option maxHeartbeats 2000000 in
theorem plText (s:Sel) (x:In) (A:IA) (cb:Nat) (hx:int64 (s.get x)) (hl:(Lib.itoa (s.get x)).length≤100) (w:World) (hp:PersOk [tabP,s.blk cb] w) :
  Calls Tryz.prog 217 (([.agg (inV x A),.one (.val (.pointer (some ⟨cb,0,none⟩)))]:List CV).map (CV.den fun _=>0)).toArray w (Gives (.string ⟨(64::Lib.itoa (s.get x)).toArray⟩) w):=by
 have tg:Tg s:=⟨⟩;have hl:(Lib.itoa (tg.i.get x)).length≤100:=hl;have hx:int64 (tg.i.get x):=hx;cases s
 all_goals
  refine Calls.of_P _ hp [.agg (inV x A),.one (.val (.pointer (some ⟨cb,0,none⟩)))] false Tryz.func217 kq kq kq ?_;refine V.u ?_;refine V.lp 1 159 cb 0 [Sel.val tg.i] 159 (.one (Sel.val tg.i)) ?_;refine V.u ?_;refine V.callQ (Sel.fn tg.i) [.one (.ptr 0 0)] (.v (.one (.ptr 0 (0+Sel.off tg.i)))) kq kq (fun ρ a w hS=>sel_calls tg.i (ρ 0) 0 w (hS.lt 0 (Nat.le_of_ble_eq_true kq))) ?_;refine V.u ?_;refine V.callP 123 [.one (.int .i64 (Sel.get tg.i x))] (.v (.one (.str (Lib.itoa (Sel.get tg.i x))))) kq kq (fun ρ a w hS=>itoa_calls _ hx.1 hx.2 w (hS.pers tabP (List.mem_of_getElem? (i:=0) kq)).1) ?_;refine V.run 100 [(1+(Lib.itoa (Sel.get tg.i x)).length:Nat)≤9223372036854775807] kq (by simp only [allP]; omega) ?_;exact V.ret (.v (.one (.str ([64]++Lib.itoa (Sel.get tg.i x))))) kq kq (fun ρ a w hS=>⟨rfl,hS.chg⟩)
theorem valMove (x y:In) (A B:IA) (ρ:Nat→Nat) (w:World) (hF:FSat ρ (mvF [] y B) w) :
  Calls Tryz.prog 177 (([.one (.ptr 0 0),.agg (inV x A)]:List CV).map (CV.den ρ)).toArray w (MvR [] y B { y with vn:=x.vn,vs:=x.vs } B ρ w):=by
 refine Calls.of_F hF [.one (.ptr 0 0),.agg (inV x A)] false Tryz.func177 kq kq (by simp [CV.wf,SV.wf,mvF,St.W,inV,inC]) ?_;refine V.u ?_;exact V.retF (({ y with vn:=x.vn,vs:=x.vs },B):In×IA) [] (.tup []) kq kq kq kq kq kq kq rfl
def isVal (x:In):Bool:=isNum x.vn&&decide ((x.vs.length:Int)≤255)
theorem valFine (x:In) (A:IA) (w:World):Calls Tryz.prog 178 (([.agg (inV x A)]:List CV).map (CV.den fun _=>0)).toArray w (Gives (.bool (isVal x)) w):=by
 refine Calls.of_P [] (by intro p hp; cases hp) [.agg (inV x A)] false Tryz.func178 kq kq kq ?_;refine V.u ?_;refine V.callP 53 [.one (.int .i64 x.vn)] (.v (.one (.sb (isNum x.vn)))) kq kq (fun _ _ w _=>isNumber_calls _ w) ?_;refine V.u ?_;exact V.ret (.v (.one (.sb (isVal x)))) kq kq (fun ρ a w hS=>⟨rfl,hS.chg⟩)
set_option maxHeartbeats 2000000 in
theorem valPut (x:In) (A:IA) (b:WSt) (h1:num32 x.vn) (hl:x.vs.length≤50000000) (hb:b.bs.length≤800000000) (ρ:Nat→Nat) (w:World) (hF:FSat ρ (wrF [] b) w) :
  Calls Tryz.prog 179 (([.one (.ptr 0 0),.agg (inV x A)]:List CV).map (CV.den ρ)).toArray w (WrR [] b (encN x.vn++encS x.vs) [] ρ w):=by
 refine Calls.of_F hF [.one (.ptr 0 0),.agg (inV x A)] true Tryz.func179 kq kq (by simp [CV.wf,SV.wf,wrF,St.W,inV,inC]) ?_;refine V.u ?_;refine V.callW 54 [.one (.ptr 0 0),.one (.int .i64 x.vn)] [.one (.ptr 0 0),.one (.int .i64 x.vn)] [0] [0,1] [] (wrF [] b) _ _ _ kq kq kq (fun _=>rfl) (fun _=>kq) (fun ρ w hF=>wnumber _ b h1.1 h1.2 (by omega) ρ w hF) ?_;intro b1 e1;have l1:b1.bs.length≤b.bs.length+10:=by rw [e1.1]; have:=groups_len 9 (zz x.vn); simp only [List.length_append]; omega
 refine V.u ?_;refine V.callW 180 [.one (.ptr 0 0),.one (.str x.vs)] [.one (.ptr 0 0),.one (.str x.vs)] [0] [2,3] [] (wrF [] b1) _ _ _ kq kq kq (fun _=>rfl) (fun _=>kq) (fun ρ w hF=>wstr _ b1 (by omega) (by omega) ρ w hF) ?_;intro b2 e2;refine V.u ?_;refine V.retF (⟨b2.bs,b2.q,b2.c,b2.rs,b2.q2,b2.c2⟩:WSt) [4,5] (.tup []) kq kq kq kq kq kq kq ⟨?_,?_⟩
 ·simp only [e2.1,e1.1,encN,encS,List.append_assoc]
 ·simp only [e2.2,e1.2,List.append_nil]
set_option maxHeartbeats 2000000 in
theorem valGet (X:RIn) (r:RSt) (x:In) (A:IA) (h:okIn X r) (ρ:Nat→Nat) (w:World) (hF:FSat ρ (gtF [] X r x A) w) :
  Calls Tryz.prog 181 (([.one (.ptr 0 0),.one (.ptr 1 0)]:List CV).map (CV.den ρ)).toArray w (GtR [] X r x A (rdStr X (rdNum X r).2).2 { x with vn:=(rdNum X r).1,vs:=(rdStr X (rdNum X r).2).1 } ρ w):=by
 have h1:=(rdNum_ok h).1;refine Calls.of_F hF [.one (.ptr 0 0),.one (.ptr 1 0)] false Tryz.func181 kq kq (by simp [CV.wf,SV.wf,gtF,St.W]) ?_;refine V.u ?_;refine V.callW 57 [.one (.ptr 0 0)] [.one (.ptr 0 0)] [0] [] [] (rdF [] X r) _ _ _ kq kq kq (fun _=>rfl) (fun _=>kq) (fun ρ w hF=>rnumber X r h ρ w hF) ?_;rintro r1 rfl;refine V.u ?_;refine V.callW 182 [.one (.ptr 0 0)] [.one (.ptr 0 0)] [0] [] [] (rdF [] X _) _ _ _ kq kq kq (fun _=>rfl) (fun _=>kq) (fun ρ w hF=>rstr X _ h1 ρ w hF) ?_;rintro r1 rfl;refine V.u ?_;exact V.retF (⟨(rdStr X (rdNum X r).2).2,{ x with vn:=(rdNum X r).1,vs:=(rdStr X (rdNum X r).2).1 },A⟩:RSt×In×IA) [0,1,2] (.tup []) kq kq kq kq kq kq kq ⟨rfl,rfl⟩
set_option maxHeartbeats 2000000 in
theorem farPut (x:In) (A:IA) (b:WSt) (hb:b.bs.length≤800000000) (hr:b.rs.length≤800000000) (ρ:Nat→Nat) (w:World) (hF:FSat ρ (wrF [] b) w) :
  Calls Tryz.prog 229 (([.one (.ptr 0 0),.agg (inV x A)]:List CV).map (CV.den ρ)).toArray w (WrR [] b (fourB x.n) [((b.bs.length:Nat),x.p)] ρ w):=by
 refine Calls.of_F hF [.one (.ptr 0 0),.agg (inV x A)] true Tryz.func229 kq kq (by simp [CV.wf,SV.wf,wrF,St.W,inV,inC]) ?_;refine V.u ?_;refine V.callW 222 [.one (.ptr 0 0),.one (.int .i64 x.p)] [.one (.ptr 0 0),.one (.int .i64 x.p)] [0] [0,1] [] (wrF [] b) _ _ _ kq kq kq (fun _=>rfl) (fun _=>kq) (fun ρ w hF=>wreloc _ b (by omega) ρ w hF) ?_;intro b1 e1;have l1:b1.bs.length≤b.bs.length:=by rw [e1.1,List.append_nil]; exact Nat.le_refl _
 refine V.u ?_;refine V.callW 214 [.one (.ptr 0 0),.one (.int .i64 x.n)] [.one (.ptr 0 0),.one (.int .i64 x.n)] [0] [2,3] [] (wrF [] b1) _ _ _ kq kq kq (fun _=>rfl) (fun _=>kq) (fun ρ w hF=>wfour _ b1 (by omega) ρ w hF) ?_;intro b2 e2;refine V.u ?_;refine V.retF (⟨b2.bs,b2.q,b2.c,b2.rs,b2.q2,b2.c2⟩:WSt) [4,5] (.tup []) kq kq kq kq kq kq kq ⟨?_,?_⟩
 ·simp only [e2.1,e1.1,List.append_nil]
 ·simp only [e2.2,e1.2,List.append_nil]
def encP (n:Int):List UInt8:=if n<0 then fourB (-1) else fourB 0
def relP (n:Int) (at_:Nat):List (Int×Int):=if n<0 then [] else [((at_:Int),n)]
set_option maxHeartbeats 2000000 in
theorem procPut (s:Sel) (x:In) (A:IA) (cb:Nat) (b:WSt) (hb:b.bs.length≤800000000) (hr:b.rs.length≤800000000) (ρ:Nat→Nat) (w:World) (hF:FSat ρ (wrF [s.blk cb] b) w) :
  Calls Tryz.prog 221 (([.one (.ptr 0 0),.agg (inV x A),.one (.val (.pointer (some ⟨cb,0,none⟩)))]:List CV).map (CV.den ρ)).toArray w (WrR [s.blk cb] b (encP (s.get x)) (relP (s.get x) b.bs.length) ρ w):=by
 have tg:Tg s:=⟨⟩;cases s
 all_goals
  refine Calls.of_F hF [.one (.ptr 0 0),.agg (inV x A),.one (.val (.pointer (some ⟨cb,0,none⟩)))] false Tryz.func221 kq kq (by simp [CV.wf,SV.wf,wrF,St.W,inV,inC]) ?_;refine V.u ?_;refine V.lp 0 159 cb 0 [Sel.val tg.i] 159 (.one (Sel.val tg.i)) ?_;refine V.u ?_;refine V.callQ (Sel.fn tg.i) [.one (.ptr 1 0)] (.v (.one (.ptr 1 (0+Sel.off tg.i)))) kq kq (fun ρ a w hS=>sel_calls tg.i (ρ 1) 0 w (hS.lt 1 (Nat.le_of_ble_eq_true kq))) ?_;refine V.u ?_;refine V.bn 9 (decide (Sel.get tg.i x<0)) (fun hn=>?_) (fun hn=>?_)
  ·have hn':Sel.get tg.i x<0:=by simpa using hn
   simp only [encP,relP,if_pos hn'];refine V.u ?_;refine V.callW 214 [.one (.ptr 0 0),.one (.int .i64 (-1))] [.one (.ptr 0 0),.one (.int .i64 (-1))] [0] [0,1] [false] (wrF [] b) _ _ _ kq kq kq (fun _=>rfl) (fun _=>kq) (fun ρ w hF=>wfour _ b (by omega) ρ w hF) ?_;intro b1 e1;refine V.u ?_;exact V.retF (⟨b1.bs,b1.q,b1.c,b1.rs,b1.q2,b1.c2⟩:WSt) [2,3] (.tup []) kq kq kq kq kq kq kq ⟨e1.1,e1.2⟩
  ·have hn':¬ Sel.get tg.i x<0:=by simpa using hn
   simp only [encP,relP,if_neg hn'];refine V.u ?_;refine V.lp 0 159 cb 0 [Sel.val tg.i] 159 (.one (Sel.val tg.i)) ?_;refine V.u ?_;refine V.callQ (Sel.fn tg.i) [.one (.ptr 1 0)] (.v (.one (.ptr 1 (0+Sel.off tg.i)))) kq kq (fun ρ a w hS=>sel_calls tg.i (ρ 1) 0 w (hS.lt 1 (Nat.le_of_ble_eq_true kq))) ?_;refine V.u ?_;refine V.callW 222 [.one (.ptr 0 0),.one (.int .i64 (Sel.get tg.i x))] [.one (.ptr 0 0),.one (.int .i64 (Sel.get tg.i x))] [0] [0,1] [false] (wrF [] b) _ _ _ kq kq kq (fun _=>rfl) (fun _=>kq) (fun ρ w hF=>wreloc _ b (by omega) ρ w hF) ?_;intro b1 e1;have l1:b1.bs.length≤b.bs.length:=by rw [e1.1,List.append_nil]; exact Nat.le_refl _
   refine V.u ?_;refine V.callW 214 [.one (.ptr 0 0),.one (.int .i64 (0))] [.one (.ptr 0 0),.one (.int .i64 (0))] [0] [2,3] [false] (wrF [] b1) _ _ _ kq kq kq (fun _=>rfl) (fun _=>kq) (fun ρ w hF=>wfour _ b1 (by omega) ρ w hF) ?_;intro b2 e2;refine V.u ?_;refine V.retF (⟨b2.bs,b2.q,b2.c,b2.rs,b2.q2,b2.c2⟩:WSt) [4,5] (.tup []) kq kq kq kq kq kq kq ⟨?_,?_⟩
   ·simp only [e2.1,e1.1,List.append_nil]
   ·simp only [e2.2,e1.2,List.append_nil]
def isPr (no:Bool) (n:Int):Bool:=(decide (n≥0)&&decide (n≤63))||(no&&(n==-1))
set_option maxHeartbeats 2000000 in
theorem procFine (s:Sel) (no:Bool) (x:In) (A:IA) (cb cn:Nat) (w:World) (hp:PersOk [s.blk cb,blkP cn [.sb no] 4] w) :
  Calls Tryz.prog 220 (([.agg (inV x A),.one (.val (.pointer (some ⟨cb,0,none⟩))),.one (.val (.pointer (some ⟨cn,0,none⟩)))]:List CV).map (CV.den fun _=>0)).toArray w (Gives (.bool (isPr no (s.get x))) w):=by
 have tg:Tg s:=⟨⟩;cases s
 all_goals
  refine Calls.of_P _ hp [.agg (inV x A),.one (.val (.pointer (some ⟨cb,0,none⟩))),.one (.val (.pointer (some ⟨cn,0,none⟩)))] false Tryz.func220 kq kq kq ?_;refine V.u ?_;refine V.lp 0 159 cb 0 [Sel.val tg.i] 159 (.one (Sel.val tg.i)) ?_;refine V.u ?_;refine V.callQ (Sel.fn tg.i) [.one (.ptr 0 0)] (.v (.one (.ptr 0 (0+Sel.off tg.i)))) kq kq (fun ρ a w hS=>sel_calls tg.i (ρ 0) 0 w (hS.lt 0 (Nat.le_of_ble_eq_true kq))) ?_;refine V.u ?_;refine V.split 16 (decide (Sel.get tg.i x≥0)&&decide (Sel.get tg.i x≤63)) kq (fun hb=>?_) (fun hb=>?_)
  ·have e:isPr no (Sel.get tg.i x)=true:=by simp only [isPr,hb,Bool.true_or]
   rw [e];refine V.u ?_;exact V.ret (.v (.one (.bool true))) kq kq (fun ρ a w hS=>⟨rfl,hS.chg⟩)
  ·have e:isPr no (Sel.get tg.i x)=(no&&(Sel.get tg.i x==-1)):=by simp only [isPr,hb,Bool.false_or]
   rw [e];refine V.u ?_;refine V.lp 1 4 cn 0 [.sb no] 4 (.one (.sb no)) ?_;refine V.u ?_;exact V.ret (.v (.one (.sb (no&&(Sel.get tg.i x==-1))))) kq kq (fun ρ a w hS=>⟨rfl,hS.chg⟩)
def rdPr (no:Bool) (rl:List (Int×Int)) (X:RIn) (r:RSt) (old:Int):Int×RSt :=
 if (no&&((rdFour X r).1==-1))=true then (-1,(rdFour X r).2)
 else if ((rdFour X r).1==0)=true then rdRel rl (r.at_:Int) (rdFour X r).2
 else (old,⟨(rdFour X r).2.at_,true⟩)
set_option maxHeartbeats 2000000 in
theorem procGet (s:Sel) (no:Bool) (rl:List (Int×Int)) (X:RIn) (hX:X.n=rl.length) (hl:rl.length≤1000000000) (r:RSt) (x:In) (A:IA) (cb cn:Nat) (h:okIn X r) (ρ:Nat→Nat) (w:World) (hF:FSat ρ (gtF [blkP cn [.sb no] 4,s.blk cb,rowP (relRow rl X.q X.c)] X r x A) w) :
  Calls Tryz.prog 223 (([.one (.ptr 0 0),.one (.ptr 1 0),.one (.val (.pointer (some ⟨cn,0,none⟩))),.one (.val (.pointer (some ⟨cb,0,none⟩)))]:List CV).map (CV.den ρ)).toArray w (GtR [blkP cn [.sb no] 4,s.blk cb,rowP (relRow rl X.q X.c)] X r x A (rdPr no rl X r (s.get x)).2 (s.set x (rdPr no rl X r (s.get x)).1) ρ w):=by
 have tg:Tg s:=⟨⟩;cases s
 all_goals
  refine Calls.of_F hF [.one (.ptr 0 0),.one (.ptr 1 0),.one (.val (.pointer (some ⟨cn,0,none⟩))),.one (.val (.pointer (some ⟨cb,0,none⟩)))] false Tryz.func223 kq kq (by simp [CV.wf,SV.wf,gtF,St.W]) ?_;refine V.u ?_;refine V.callW 216 [.one (.ptr 0 0)] [.one (.ptr 0 0)] [0] [] [false,false,false] (rdF [] X r) _ _ _ kq kq kq (fun _=>rfl) (fun _=>kq) (fun ρ w hF=>rfour X r h ρ w hF) ?_;rintro r1 rfl;refine V.u ?_;refine V.lp 0 4 cn 0 [.sb no] 4 (.one (.sb no)) ?_;refine V.u ?_;refine V.bn 17 (no&&((rdFour X r).1==-1)) (fun hb=>?_) (fun hb=>?_)
  ·have e:rdPr no rl X r (Sel.get tg.i x)=(-1,(rdFour X r).2):=by simp only [rdPr,if_pos hb]
   rw [e];refine V.u ?_;refine V.lp 1 159 cb 0 [Sel.val tg.i] 159 (.one (Sel.val tg.i)) ?_;refine V.u ?_;refine V.callQ (Sel.fn tg.i) [.one (.ptr 1 0)] (.v (.one (.ptr 1 (0+Sel.off tg.i)))) kq kq (fun ρ a w hS=>sel_calls tg.i (ρ 1) 0 w (hS.lt 1 (Nat.le_of_ble_eq_true kq))) ?_;refine V.u ?_;exact V.retF (⟨(rdFour X r).2,Sel.set tg.i x (-1),A⟩:RSt×In×IA) [0,1,2] (.tup []) kq kq kq kq kq kq kq ⟨rfl,rfl⟩
  ·refine V.u ?_;refine V.bn 27 ((rdFour X r).1==0) (fun hc=>?_) (fun hc=>?_)
   ·have e:rdPr no rl X r (Sel.get tg.i x)=rdRel rl (r.at_:Int) (rdFour X r).2:=by simp only [rdPr,hb,Bool.false_eq_true,if_false,if_pos hc]
    rw [e];refine V.u ?_;refine V.lp 1 159 cb 0 [Sel.val tg.i] 159 (.one (Sel.val tg.i)) ?_;refine V.u ?_;refine V.callQ (Sel.fn tg.i) [.one (.ptr 1 0)] (.v (.one (.ptr 1 (0+Sel.off tg.i)))) kq kq (fun ρ a w hS=>sel_calls tg.i (ρ 1) 0 w (hS.lt 1 (Nat.le_of_ble_eq_true kq))) ?_;refine V.u ?_;refine V.callW 224 [.one (.ptr 0 0),.one (.int .i64 (r.at_:Int))] [.one (.ptr 0 0),.one (.int .i64 (r.at_:Int))] [0] [] [false,false,true] (rdF [rowP (relRow rl X.q X.c)] X (rdFour X r).2) _ _ _ kq kq kq (fun _=>rfl) (fun _=>kq) (fun ρ w hF=>rreloc rl X hX _ _ hl ρ w hF) ?_;rintro r1 rfl;refine V.u ?_;exact V.retF (⟨(rdRel rl (r.at_:Int) (rdFour X r).2).2,Sel.set tg.i x (rdRel rl (r.at_:Int) (rdFour X r).2).1,A⟩:RSt×In×IA) [0,1,2] (.tup []) kq kq kq kq kq kq kq ⟨rfl,rfl⟩
   ·have e:rdPr no rl X r (Sel.get tg.i x)=(Sel.get tg.i x,⟨(rdFour X r).2.at_,true⟩):=by simp only [rdPr,hb,hc,Bool.false_eq_true,if_false]
    rw [e];refine V.u ?_;refine V.soft 0 ?_;exact V.retF (⟨⟨(rdFour X r).2.at_,true⟩,Sel.set tg.i x (Sel.get tg.i x),A⟩:RSt×In×IA) [0,1,2] (.tup []) kq kq kq kq kq kq kq ⟨rfl,rfl⟩
def prT (n:Int):List UInt8:=if n<0 then [33,45] else 33::Lib.itoa n
set_option maxHeartbeats 2000000 in
theorem procText (s:Sel) (x:In) (A:IA) (cb:Nat) (hx:int64 (s.get x)) (hl:(Lib.itoa (s.get x)).length≤100) (w:World) (hp:PersOk [tabP,s.blk cb] w) :
  Calls Tryz.prog 225 (([.agg (inV x A),.one (.val (.pointer (some ⟨cb,0,none⟩)))]:List CV).map (CV.den fun _=>0)).toArray w (Gives (.string ⟨(prT (s.get x)).toArray⟩) w):=by
 have tg:Tg s:=⟨⟩;have hl:(Lib.itoa (tg.i.get x)).length≤100:=hl;have hx:int64 (tg.i.get x):=hx;cases s
 all_goals
  refine Calls.of_P _ hp [.agg (inV x A),.one (.val (.pointer (some ⟨cb,0,none⟩)))] false Tryz.func225 kq kq kq ?_;refine V.u ?_;refine V.lp 1 159 cb 0 [Sel.val tg.i] 159 (.one (Sel.val tg.i)) ?_;refine V.u ?_;refine V.callQ (Sel.fn tg.i) [.one (.ptr 0 0)] (.v (.one (.ptr 0 (0+Sel.off tg.i)))) kq kq (fun ρ a w hS=>sel_calls tg.i (ρ 0) 0 w (hS.lt 0 (Nat.le_of_ble_eq_true kq))) ?_;refine V.u ?_;refine V.bn 8 (decide (Sel.get tg.i x<0)) (fun hn=>?_) (fun hn=>?_)
  ·have hn':Sel.get tg.i x<0:=by simpa using hn
   simp only [prT,if_pos hn'];refine V.u ?_;exact V.ret (.v (.one (.str [33,45]))) kq kq (fun ρ a w hS=>⟨rfl,hS.chg⟩)
  ·have hn':¬ Sel.get tg.i x<0:=by simpa using hn
   simp only [prT,if_neg hn'];refine V.u ?_;refine V.lp 1 159 cb 0 [Sel.val tg.i] 159 (.one (Sel.val tg.i)) ?_;refine V.u ?_;refine V.callQ (Sel.fn tg.i) [.one (.ptr 0 0)] (.v (.one (.ptr 0 (0+Sel.off tg.i)))) kq kq (fun ρ a w hS=>sel_calls tg.i (ρ 0) 0 w (hS.lt 0 (Nat.le_of_ble_eq_true kq))) ?_;refine V.u ?_;refine V.callP 123 [.one (.int .i64 (Sel.get tg.i x))] (.v (.one (.str (Lib.itoa (Sel.get tg.i x))))) kq kq (fun ρ a w hS=>itoa_calls _ hx.1 hx.2 w (hS.pers tabP (List.mem_of_getElem? (i:=0) kq)).1) ?_;refine V.run 100 [(1+(Lib.itoa (Sel.get tg.i x)).length:Nat)≤9223372036854775807] kq (by simp only [allP]; omega) ?_;exact V.ret (.v (.one (.str ([33]++Lib.itoa (Sel.get tg.i x))))) kq kq (fun ρ a w hS=>⟨rfl,hS.chg⟩)
def isFar (x:In):Bool:=decide (x.p≥0)&&decide (x.p≤63)&&decide (x.n≥0)&&decide (x.n≤1048576)
theorem farFine (x:In) (A:IA) (w:World):Calls Tryz.prog 228 (([.agg (inV x A)]:List CV).map (CV.den fun _=>0)).toArray w (Gives (.bool (isFar x)) w):=by
 refine Calls.of_P [] (by intro p hp; cases hp) [.agg (inV x A)] false Tryz.func228 kq kq kq ?_;refine V.u ?_;exact V.ret (.v (.one (.sb (isFar x)))) kq kq (fun ρ a w hS=>⟨rfl,hS.chg⟩)
set_option maxHeartbeats 2000000 in
theorem farGet (rl:List (Int×Int)) (X:RIn) (hX:X.n=rl.length) (hl:rl.length≤1000000000) (r:RSt) (x:In) (A:IA) (h':okIn X (rdRel rl (r.at_:Int) r).2) (ρ:Nat→Nat) (w:World) (hF:FSat ρ (gtF [rowP (relRow rl X.q X.c)] X r x A) w) :
  Calls Tryz.prog 230 (([.one (.ptr 0 0),.one (.ptr 1 0)]:List CV).map (CV.den ρ)).toArray w (GtR [rowP (relRow rl X.q X.c)] X r x A (rdFour X (rdRel rl (r.at_:Int) r).2).2 { x with p:=(rdRel rl (r.at_:Int) r).1,n:=(rdFour X (rdRel rl (r.at_:Int) r).2).1 } ρ w):=by
 refine Calls.of_F hF [.one (.ptr 0 0),.one (.ptr 1 0)] false Tryz.func230 kq kq (by simp [CV.wf,SV.wf,gtF,St.W]) ?_;refine V.u ?_;refine V.callW 224 [.one (.ptr 0 0),.one (.int .i64 (r.at_:Int))] [.one (.ptr 0 0),.one (.int .i64 (r.at_:Int))] [0] [] [true] (rdF [rowP (relRow rl X.q X.c)] X r) _ _ _ kq kq kq (fun _=>rfl) (fun _=>kq) (fun ρ w hF=>rreloc rl X hX _ _ hl ρ w hF) ?_;rintro r1 rfl;refine V.u ?_;refine V.callW 216 [.one (.ptr 0 0)] [.one (.ptr 0 0)] [0] [] [false] (rdF [] X _) _ _ _ kq kq kq (fun _=>rfl) (fun _=>kq) (fun ρ w hF=>rfour X _ h' ρ w hF) ?_;rintro r1 rfl;refine V.u ?_;exact V.retF (⟨(rdFour X (rdRel rl (r.at_:Int) r).2).2,{ x with p:=(rdRel rl (r.at_:Int) r).1,n:=(rdFour X (rdRel rl (r.at_:Int) r).2).1 },A⟩:RSt×In×IA) [0,1,2] (.tup []) kq kq kq kq kq kq kq ⟨rfl,rfl⟩
def dbTab:List Int:=[0,1,56,2,57,49,28,3,61,58,42,50,38,29,17,4,62,47,59,36,45,43,51,22,53,39,33,30,24,18,12,5,63,55,48,27,60,41,37,16,46,35,44,21,52,32,23,11,54,26,40,15,34,20,31,10,25,14,19,9,13,8,7,6]
structure GlbOk (w:World):Prop where
 tab:Lib.TabIs Tryz.prog w "internal/strconv.uint64pow10" .u64 Lib.pow10Tab
 syn:∃ tp p,w.var? Tryz.prog "strconv.ErrSyntax" = some #[Value.iface tp p]
 ran:∃ tp p,w.var? Tryz.prog "strconv.ErrRange" = some #[Value.iface tp p]
 max:∃ m,w.cell? ⟨1,0,none⟩=some (Value.int .i64 m)
 sp:Lib.TabIs Tryz.prog w "strings.asciiSpace" .u8 Lib.asciiSpaceTab
 db:Lib.TabIs Tryz.prog w "math/bits.deBruijn64tab" .u8 dbTab
def glbP:Pers:=⟨fun k=>k<12,GlbOk⟩
theorem var_same {w w':World} (nm:String) (g:Nat) (hg:Tryz.prog.globalNamed nm=some g) (hlt:g<12) (h:∀ k,k<12→w'.heap[k]?=w.heap[k]?):w'.var? Tryz.prog nm=w.var? Tryz.prog nm:=by
 unfold World.var?;rw [hg];simp only [Option.bind_some];rw [h g hlt]
theorem glb_stable (w w':World) (h:∀ k,k<12→w'.heap[k]?=w.heap[k]?) (hg:GlbOk w):GlbOk w':=by
 refine ⟨?_,?_,?_,?_,?_,?_⟩
 ·unfold Lib.TabIs; rw [var_same _ 3 kq (by decide) h]; exact hg.tab
 ·rw [var_same _ 4 kq (by decide) h]; exact hg.syn
 ·rw [var_same _ 5 kq (by decide) h]; exact hg.ran
 ·obtain ⟨m,hm⟩:=hg.max;exact ⟨m,by rw [World.cell?_of_block (w:=w) (a:=⟨1,0,none⟩) (h 1 (by decide))]; exact hm⟩
 ·unfold Lib.TabIs; rw [var_same _ 0 kq (by decide) h]; exact hg.sp
 ·unfold Lib.TabIs; rw [var_same _ 10 kq (by decide) h]; exact hg.db
theorem glb_of {w:World} (h:PersOk [glbP] w):GlbOk w:=(h glbP (List.mem_singleton.2 rfl)).1
theorem chg_drewN (w:World) (n:Nat):Chg (fun _=>False) w (w.drewN n):=⟨rfl,rfl,rfl,Nat.le_refl _,fun _ _ _=>rfl⟩
noncomputable def sItoa:Con Tryz.prog:=Con.i1 123 [glbP] (fun n=>(.v (.one (.str (Lib.itoa n))),[inK .i64 n])) (fun n ρ w hob hp =>
 itoa_calls n (hob _ (List.mem_singleton.2 rfl)).1 (hob _ (List.mem_singleton.2 rfl)).2 w (glb_of hp).tab)
noncomputable def sCutPrefix:Con Tryz.prog:=Con.s2 219 [] (fun s t=>(.tup [.one (.str (Lib.trimPrefix s t)),.one (.sb (Lib.hasPrefix s t))],[])) (fun s t ρ w _ _ =>
 (Tryz.strings_CutPrefix ⟨s.toArray⟩ ⟨t.toArray⟩ w).mono fun e w' ⟨h1,h2⟩=>⟨h1,by rw [h2]; exact Chg.refl _ _⟩)
noncomputable def sTrimPrefix:Con Tryz.prog:=Con.s2 254 [] (fun s t=>(.v (.one (.str (Lib.trimPrefix s t))),[])) (fun s t ρ w _ _ =>
 (Tryz.strings_TrimPrefix ⟨s.toArray⟩ ⟨t.toArray⟩ w).mono fun e w' ⟨h1,h2⟩=>⟨h1,by rw [h2]; exact Chg.refl _ _⟩)
theorem ba_size (l:List UInt8):(⟨l.toArray⟩:ByteArray).size=l.length:=by simp [ByteArray.size]
noncomputable def sCutSuffix:Con Tryz.prog:=Con.s2 267 [] (fun s t=>(.tup [.one (.str (Lib.trimSuffix s t)),.one (.sb (Lib.hasSuffix s t))],[s.length≤9223372036854775807])) (fun s t ρ w hob _ =>
 (Tryz.strings_CutSuffix ⟨s.toArray⟩ ⟨t.toArray⟩ w (by rw [ba_size]; exact hob _ (List.mem_singleton.2 rfl))).mono fun e w' ⟨h1,h2⟩=>⟨h1,by rw [h2]; exact Chg.refl _ _⟩)
noncomputable def sCut:Con Tryz.prog:=Con.s2 79 [glbP] (fun s t=>(.tup [.one (.str (Lib.cut s t).1),.one (.str (Lib.cut s t).2.1),.one (.sb (Lib.cut s t).2.2)],[s.length<4294967281])) (fun s t ρ w hob hp=>by
 obtain ⟨m,hm⟩:=(glb_of hp).max;exact (Tryz.strings_Cut ⟨s.toArray⟩ ⟨t.toArray⟩ m w (by rw [ba_size]; exact hob _ (List.mem_singleton.2 rfl)) hm).mono fun e w' ⟨h1,n,h2⟩=>⟨h1,by rw [h2]; exact chg_drewN w n⟩)
def splitC (c:UInt8):List UInt8→List (List UInt8)
 | []=>[[]]
 | x::l=>if x==c then []::splitC c l else match splitC c l with
  | h::t=>(x::h)::t
  | []=>[[x]]
def partsC (c:UInt8) (s:List UInt8):List (List UInt8):=match s with
 | []=>[]
 | _::_=>splitC c s
def cutC (c:UInt8):List UInt8→List UInt8×List UInt8×Bool
 | []=>([],[],false)
 | x::l=>if x==c then ([],l,true) else (x::(cutC c l).1,(cutC c l).2.1,(cutC c l).2.2)
theorem cut_one (c:UInt8):∀ s,Lib.cut s [c]=cutC c s
 | []=>by simp [Lib.cut,cutC,Lib.index]
 | x::l=>by
  have ih:=cut_one c l;have hge:=Lib.indexByte_ge l c;unfold cutC;rw [← ih];unfold Lib.cut;simp only [Lib.index_one,Lib.indexByte];by_cases hx:(x==c)=true
  ·simp [hx]
  ·simp only [hx,if_false,Bool.false_eq_true];by_cases h1:(Lib.indexByte l c==-1)=true
   ·have h1':Lib.indexByte l c=-1:=by simpa using h1
    simp [h1']
   ·have h1':¬ Lib.indexByte l c=-1:=by simpa using h1
    have h2:0≤Lib.indexByte l c:=by omega
    have h3:0≤Lib.indexByte l c+1:=by omega
    have h4:(Lib.indexByte l c+1).toNat=(Lib.indexByte l c).toNat+1:=by omega
    simp [h1',h2,h3,h4]
theorem splitC_cut (c:UInt8):∀ s,splitC c s=(cutC c s).1::(if (cutC c s).2.2 then splitC c (cutC c s).2.1 else [])
 | []=>by simp [splitC,cutC]
 | x::l=>by
  have ih:=splitC_cut c l;rw [splitC,cutC];by_cases hx:(x==c)=true
  ·rw [if_pos hx,if_pos hx]; rfl
  ·rw [if_neg hx,if_neg hx,ih]
theorem cutC_len (c:UInt8):∀ s,(cutC c s).2.1.length+(if (cutC c s).2.2 then 1 else 0)≤s.length
 | []=>by simp [cutC]
 | x::l=>by
  have ih:=cutC_len c l;unfold cutC;by_cases hx:(x==c)=true
  ·simp [hx]
  ·simp only [hx,if_false,Bool.false_eq_true,List.length_cons];omega
theorem cutC_less (c:UInt8):∀ s,s≠[]→(cutC c s).2.1.length<s.length
 | [],h=>absurd rfl h
 | x::l,_=>by
  have ih:=cutC_len c l;unfold cutC;by_cases hx:(x==c)=true
  ·simp [hx]
  ·simp only [hx,if_false,Bool.false_eq_true,List.length_cons];have:(cutC c l).2.1.length≤l.length:=by omega
   omega
theorem cutC_no (c:UInt8):∀ s,(cutC c s).2.2=false→(cutC c s).2.1=[]
 | []=>by simp [cutC]
 | x::l=>by
  have ih:=cutC_no c l;unfold cutC;by_cases hx:(x==c)=true
  ·simp [hx]
  ·simpa [hx] using ih
def ptF (c:UInt8) (s:List UInt8):St:={ n:=0,slots:=[],gs:=[],heap:=[(0,⟨[.str s],9,true⟩),(1,⟨[.str [c]],9,true⟩)],next:=2,rows:=[],nr:=0,pers:=[glbP],wr:=false }
def ptEnc (c:UInt8) (s:List UInt8) (i:Nat):Array Value:=#[.string ⟨((partsC c s).getD i []).toArray⟩]
noncomputable def T1:List (Ent Tryz.prog):=[⟨sCut,[0]⟩,sCutPrefix.e,sCutSuffix.e]
structure PtI where
 i:Nat
 t:List UInt8
 O:Nat→Prop
 Ow:Nat→Prop
theorem partsC_ne {c:UInt8} {t:List UInt8} (h:t≠[]):partsC c t=splitC c t:=by
 cases t with
 | nil=>exact absurd rfl h
 | cons x l=>rfl
def ptSt {l n:Nat} {enc:Nat→Array Value} {w:World} (Y:Yd Tryz.prog l n enc w) (c:UInt8) (x:PtI):St :=
 { n:=28,slots:=[(0,.v (.one (.val (.func (.yield l) #[] #[])))),(1,.v (.one (.ptr 0 0))),(2,.v (.one (.ptr 1 0)))],gs:=[],
    heap:=[(0,⟨[.str x.t],9,true⟩),(1,⟨[.str [c]],9,true⟩)],next:=2,rows:=[],nr:=0,pers:=[jP Y x.i x.O x.Ow [glbP],glbP],wr:=true,fx:=2 }
set_option maxHeartbeats 1000000 in
theorem parts_iter (c:UInt8) (s:List UInt8) (hs:s.length<4294967281):Iter Tryz.prog 294 [.one (.ptr 0 0),.one (.ptr 1 0)] (ptF c s) (partsC c s).length (ptEnc c s):=by
 refine Iter.mk true Tryz.func294 kq kq (fun ρ w l Y O Ow=>?_);refine V.t T1 [] trivial ?_;refine V.loopK [0,1,2] [true,true] (fun x:PtI=>x.t.length) (ptSt Y c) (fun x=>(∃ pre,partsC c s=pre++partsC c x.t∧pre.length=x.i)∧x.t.length<4294967281) ⟨0,s,O,Ow⟩ kq ⟨⟨[],rfl,rfl⟩,hs⟩ (fun x hx ih=>?_);obtain ⟨i,t,O,Ow⟩:=x;obtain ⟨⟨pre,hpre,hpl⟩,hlen⟩:=hx;simp only at hpre hpl hlen;refine V.t T1 [] trivial ?_;refine V.bn 8 (!(t==[])) (fun hb=>?_) (fun hb=>?_)
 ·have ht:t≠[]:=by simpa using hb
  have hcut:=splitC_cut c t;have hless:=cutC_less c t ht;have hno:=cutC_no c t;rw [partsC_ne ht,hcut] at hpre;rw [← cut_one] at hpre hless hno;have hget:(partsC c s).getD i []=(Lib.cut t [c]).1:=by rw [hpre,← hpl]; simp
  have hi:i<(partsC c s).length:=by rw [hpre,← hpl]; simp
  refine V.t T1 [t.length<4294967281] hlen ?_;refine V.yield Y i O Ow [glbP] [.one (.str (Lib.cut t [c]).1)] kq (fun _=>trivial) kq kq hi (fun ρ=>by simp only [ptEnc,hget]; rfl) kq (fun O1 Ow1=>?_) (fun O1 Ow1=>?_)
  ·refine V.t T1 [] trivial ?_;refine V.bn 25 ((Lib.cut t [c]).2.2&&((Lib.cut t [c]).2.1==[])) (fun hb2=>?_) (fun hb2=>?_)
   ·rw [Bool.and_eq_true] at hb2;have hr:(Lib.cut t [c]).2.1=[]:=by simpa using hb2.2
    rw [hb2.1,if_pos rfl,hr] at hpre;have hn2:i+2=(partsC c s).length:=by rw [hpre,← hpl]; simp [splitC]
    have hget2:(partsC c s).getD (i+1) []=[]:=by
     rw [hpre];have:i+1=pre.length+1:=by omega
     rw [this]; simp [splitC,List.getD]
    refine V.t T1 [] trivial ?_;refine V.yield Y (i+1) O1 Ow1 [glbP] [.one (.str [])] kq (fun _=>trivial) kq kq (by omega) (fun ρ=>by simp only [ptEnc,hget2]; rfl) kq (fun O2 Ow2=>?_) (fun O2 Ow2=>?_)
    ·refine V.t T1 [] trivial ?_;have hn3:i+1+1=(partsC c s).length:=hn2;exact V.iterEnd Y (i+1+1) hn3 O2 Ow2 [glbP] (.tup []) kq kq kq
    ·refine V.t T1 [] trivial ?_;exact V.iterOff Y O2 Ow2 [glbP] (.tup []) kq kq kq
   ·refine V.t T1 [] trivial ?_;refine V.againK [0,1,2] [true,true] (ih ⟨i+1,(Lib.cut t [c]).2.1,O1,Ow1⟩ ⟨⟨pre++[(Lib.cut t [c]).1],?_,?_⟩,?_⟩ ?_) kq kq
    ·rw [hpre,List.append_assoc];congr 1;simp only [List.singleton_append,List.cons.injEq,true_and];cases hm:(Lib.cut t [c]).2.2 with
     | true =>
      rw [hm] at hb2;have hr:(Lib.cut t [c]).2.1≠[]:=by simpa using hb2
      rw [if_pos rfl,partsC_ne hr]
     | false=>rw [hno hm]; rfl
    ·simp [hpl]
    ·simp only; omega
    ·exact hless
  ·refine V.t T1 [] trivial ?_;exact V.iterOff Y O1 Ow1 [glbP] (.tup []) kq kq kq
 ·have ht:t=[]:=by simpa using hb
  subst ht;have hin:i=(partsC c s).length:=by rw [hpre,← hpl]; simp [partsC]
  refine V.t T1 [] trivial ?_;exact V.iterEnd Y i hin O Ow [glbP] (.tup []) kq kq kq
def noF:St:={ n:=0,slots:=[],gs:=[],heap:=[],next:=0,rows:=[],nr:=0,pers:=[],wr:=false }
def glbF:St:={ noF with pers:=[glbP] }
theorem cParts (c:UInt8) (s:List UInt8):CallsK Tryz.prog 258 [.one (.str s),.one (.str [c])] noF (fun _:Unit=>True) (fun _=>.v (.one (.fn 294 [0,1])))
  (fun _=>{ noF with heap:=[(0,⟨[.str s],9,true⟩),(1,⟨[.str [c]],9,true⟩)],next:=2 }):=by
 refine CallsK.m true Tryz.func258 (fun ρ w=>?_);refine V.q ?_;exact V.z
theorem splitC_len (c:UInt8):∀ s,(splitC c s).length≤s.length+1
 | []=>by simp [splitC]
 | x::l=>by
  have ih:=splitC_len c l;rw [splitC];split
  ·simp; omega
  ·split
   ·rename_i h t e;rw [e] at ih; simp at ih ⊢; omega
   ·simp
theorem partsC_len (c:UInt8) (s:List UInt8):(partsC c s).length≤s.length+1:=by
 unfold partsC;split
 ·simp
 ·exact splitC_len c _
structure LX (α:Type) where
 l:List α
 q:Option Addr
 cap:Nat
def pcSt (n:Int) (x:LX (List UInt8)):St :=
 { n:=23,slots:=[(2,.v (.one (.int .i64 n))),(8,.v (.one (.ptr 0 0)))],gs:=[],heap:=[(0,⟨[.row 0 x.q x.l.length x.cap],118,true⟩)],next:=1,rows:=[(0,rowL strS [] x.l x.q x.cap 9 1 true)],nr:=1,pers:=[glbP],wr:=true,fx:=0 }
theorem cPieces (c:UInt8) (s:List UInt8) (n:Int) (hs:s.length<4294967281):CallsK Tryz.prog 186 [.one (.str s),.one (.str [c]),.one (.int .i64 n)] glbF (fun _:Option Addr×Nat=>True)
  (fun x=>.tup [.one (.row 0 x.1 (partsC c s).length x.2),.one (.sb (((partsC c s).length:Int)==n))]) (fun x=>{ noF with rows:=[(0,rowL strS [] (partsC c s) x.1 x.2 9 1 true)],nr:=1 }):=by
 refine CallsK.m true Tryz.func186 (fun ρ w=>?_);refine V.q ?_;refine V.c [] (cParts c s) (fun _ _=>?_);refine V.q ?_;refine V.nilB strS [] 0 0 ⟨[.val (.slice none 0 0)],118,true⟩ 9 1 kq rfl ?_;refine V.rangeFc (pcSt n) ⟨fun _=>rfl,fun _=>rfl,fun _=>rfl,fun _=>rfl,fun _=>rfl,fun _=>rfl,fun _=>rfl,fun _=>rfl⟩ (fun i x=>x.l=(partsC c s).take i) (fun _ _=>False) (fun i=>[.one (.str ((partsC c s).getD i []))]) (fun i ρ=>rfl)
  ⟨[],none,0⟩ [2,8] [true] [(0,false)] (parts_iter c s hs) kq kq rfl kq kq kq (fun i=>kq) (fun i=>kq) (fun i x ρ1 W l r q hi hx=>?_) (fun x l r q hx=>?_) (fun cd x l r q hx=>hx.elim)
 ·refine V.q ?_;refine V.begin 2 l (recOf q none) kq rfl kq rfl ?_;refine V.q ?_;have hlen:x.l.length=i:=by rw [hx,List.length_take]; omega
  have hpl:=partsC_len c s;refine V.push strS [] x.l ((partsC c s).getD i []) 0 x.q x.cap 9 1 [.str ((partsC c s).getD i [])] 16 kq (by omega) rfl (fun _ _=>kq) (fun q' cap'=>?_);refine V.q ?_;refine V.roundEnd [2,8] [true] none ⟨x.l++[(partsC c s).getD i []],q',cap'⟩ kq kq kq rfl rfl ?_;show _=List.take (i+1) (partsC c s);rw [hx,List.take_add_one,List.getD];cases e:(partsC c s)[i]? with
  | none=>rw [List.getElem?_eq_none_iff] at e; omega
  | some y=>rfl
 ·have hxl:x.l=partsC c s:=by rw [hx,List.take_length]
  refine V.q ?_;refine V.retD 1 r kq rfl (by rintro e w ⟨x,ρ,_,h,_⟩; exact ⟨_,h⟩) kq kq ?_;rw [← hxl];exact V.e (x.q,x.cap) [] trivial
theorem chg_bytes (w:World) (e:TypeId) (s:ByteArray):Chg (fun _=>False) w (Lib.bytesWorld w e s):=by
 refine ⟨?_,?_,?_,?_,fun k hk _=>?_⟩
 ·unfold Lib.bytesWorld World.freeze; rfl
 ·unfold Lib.bytesWorld World.freeze; rfl
 ·unfold Lib.bytesWorld World.freeze; rfl
 ·unfold Lib.bytesWorld World.freeze;simp [World.alloc]
 ·have hne:w.heap.size≠k:=by omega
  unfold Lib.bytesWorld World.freeze;simp [World.alloc,Array.getElem?_modify,hne];have:k<w.drew.heap.size:=hk;rw [Array.getElem?_push_lt this];exact (Array.getElem?_eq_getElem _).symm
noncomputable def sAtoi (s:List UInt8) (v:Int) (h:Lib.atoiAll s=.ok v) (hl:s.length≤281474976710656):Con Tryz.prog :=
 Con.inst 255 [] [.one (.str s)] (.tup [.one (.int .i64 v),.one (.val .nilIface)]) (fun ρ w _ =>
  (Tryz.strconv_Atoi_ok ⟨s.toArray⟩ (by rw [ba_size]; omega) v h w).mono fun e w' ⟨h1,h2⟩=>⟨h1,by
   rcases h2 with rfl | ⟨t,rfl⟩
   ·exact Chg.refl _ _
   ·exact chg_bytes _ _ _⟩)
def bySyn (s:List UInt8):Prop:=(∀ v,Lib.atoiAll s≠.ok v)∧Lib.atoiAll s≠.range
theorem cAtoiBad (s:List UInt8) (hl:s.length≤281474976710656) (n:Int) (h:(bySyn s∧n=0)∨(Lib.atoiAll s=.range∧n=Lib.atoiSat s)) :
  CallsK Tryz.prog 255 [.one (.str s)] glbF (fun _:Nat=>True) (fun N=>.tup [.one (.int .i64 n),.one (.val (.iface 287 (.pointer (some ⟨N,0,none⟩))))]) (fun _=>noF):=by
 intro ρ w hF;have hg:GlbOk w:=(hF.pers glbP (List.mem_singleton.2 rfl)).1;have hend:∀ N w',Go.RowKit.Below w.heap.size w w'→GivesK ρ glbF (fun _:Nat=>True) (fun N=>.tup [.one (.int .i64 n),.one (.val (.iface 287 (.pointer (some ⟨N,0,none⟩))))]) (fun _=>noF) w
   (.returned (.tuple #[.int .i64 n,.iface 287 (.pointer (some ⟨N,0,none⟩))])) w':=fun N w' hb =>
  ⟨N,ρ,trivial,rfl,fun _ _=>rfl,Nat.le_refl _,fun b _ h2=>absurd h2 (Nat.not_lt_zero b),⟨fun b blk hb=>(by cases hb),fun b c hb=>absurd hb (Nat.not_lt_zero b),fun b hb=>absurd hb (Nat.not_lt_zero b),fun r R hR=>(by cases hR),fun r r' R R' hR=>(by cases hR),fun p hp=>(by cases hp)⟩,
      fun b hb=>absurd hb (Nat.not_lt_zero b),fun x hx=>(by
    rcases List.mem_cons.1 hx with rfl | hx
    ·trivial
    ·rcases List.mem_cons.1 hx with rfl | hx
     ·trivial
     ·cases hx),⟨hb.os,hb.tape,hb.output,hb.size,fun k hk _=>hb.block k hk⟩,fun b blk hb=>absurd hb (Nat.not_lt_zero b),fun r R hR=>(by cases hR),fun p hp=>(by cases hp)⟩
 rcases h with ⟨h1,rfl⟩ | ⟨h1,rfl⟩
 ·obtain ⟨tp,p,hv⟩:=hg.syn;refine (Tryz.strconv_Atoi_syntax_var ⟨s.toArray⟩ (by rw [ba_size]; exact hl) h1 tp p w hv).mono ?_;rintro e w' ⟨N,rfl,_,_,hb⟩;exact hend N w' hb
 ·obtain ⟨tp,p,hv⟩:=hg.ran;refine (Tryz.strconv_Atoi_range_var ⟨s.toArray⟩ (by rw [ba_size]; exact hl) h1 tp p w hv).mono ?_;rintro e w' ⟨N,rfl,_,_,hb⟩;exact hend N w' hb
def decN (s:List UInt8):Int:=match Lib.atoiAll s with
 | .ok v=>v
 | .range=>Lib.atoiSat s
 | _=>0
def decB (s:List UInt8):Bool:=match Lib.atoiAll s with
 | .ok v=>isNum v&&(Lib.itoa v==s)
 | _=>false
noncomputable def aIsNum:Con Tryz.prog:=Con.auto Tryz.func53 true [] [] kq kq
noncomputable def T4 (s:List UInt8) (v:Int) (h:Lib.atoiAll s=.ok v) (hl:s.length≤281474976710656):List (Ent Tryz.prog):=[⟨sAtoi s v h hl,[]⟩,aIsNum.e,⟨sItoa,[0]⟩]
theorem _root_.Go.SX.CallsK.as {α:Type} {P:Program} {f:FuncId} {ys:List CV} {F:St} {p:α→Prop} {v:α→RV} {F':α→St} (h:CallsK P f ys F p v F') (v':α→RV) (hd:∀ x ρ,p x→(v' x).den ρ=(v x).den ρ) (hw:∀ x,p x→(v' x).wf (F' x).W) :
  CallsK P f ys F p v' F':=by
 intro ρ w hF;refine (h ρ w hF).mono ?_;rintro e w' ⟨x,ρ',hp,he,k1,k2,k3,k4,k5,k6,k7⟩;exact ⟨x,ρ',hp,by rw [hd x ρ' hp]; exact he,k1,k2,k3,k4,k5,hw x hp,k7⟩
theorem cDec (s:List UInt8) (hl:s.length≤281474976710656):CallsK Tryz.prog 165 [.one (.str s)] glbF (fun _:Unit=>True) (fun _=>.tup [.one (.int .i64 (decN s)),.one (.sb (decB s))]) (fun _=>noF):=by
 have hwf:∀ n b,RV.wf noF.W (.tup [.one (.int .i64 n),.one (.sb b)]):=fun n b x hx=>by
  rcases List.mem_cons.1 hx with rfl | hx
  ·trivial
  ·rcases List.mem_cons.1 hx with rfl | hx
   ·trivial
   ·cases hx
 have hbad:∀ n,((bySyn s∧n=0)∨(Lib.atoiAll s=.range∧n=Lib.atoiSat s))→decN s=n→decB s=false →
   CallsK Tryz.prog 165 [.one (.str s)] glbF (fun _:Unit=>True) (fun _=>.tup [.one (.int .i64 (decN s)),.one (.sb (decB s))]) (fun _=>noF):=by
  intro n h e1 e2;rw [e1,e2];refine CallsK.as (v:=fun _=>.tup [.one (.int .i64 n),.one (.bool false)]) ?_ _ (fun _ _ _=>rfl) (fun _ _=>hwf _ _);refine CallsK.m true Tryz.func165 (fun ρ w=>?_);refine V.q ?_;refine V.c [(0,false)] (cAtoiBad s hl n h) (fun N _=>?_);refine V.q ?_;exact V.z
 cases h:Lib.atoiAll s with
 | ok v =>
  rw [show decN s=v by unfold decN; rw [h],show decB s=(isNum v&&(Lib.itoa v==s)) by unfold decB; rw [h]];refine CallsK.m true Tryz.func165 (fun ρ w=>?_);refine V.runT (T4 s v h hl) [[CV.one (SV.str s)]=[CV.one (SV.str s)],isNum v=true→inK IntKind.i64 v] kq kq ⟨rfl,fun hb=>?_⟩ ?_
  ·simp [isNum] at hb;constructor<;>omega
  ·exact V.z
 | range=>exact hbad _ (.inr ⟨h,rfl⟩) (by unfold decN; rw [h]) (by unfold decB; rw [h])
 | _=>exact hbad 0 (.inl ⟨⟨fun v e=>(by rw [h] at e; cases e),fun e=>(by rw [h] at e; cases e)⟩,rfl⟩) (by unfold decN; rw [h]) (by unfold decB; rw [h])
theorem _root_.Go.SX.CallsK.gives {P:Program} {f:FuncId} {ys:List CV} {F F':St} {v:RV} (h:CallsK P f ys F (fun _:Unit=>True) (fun _=>v) (fun _=>F')) (hF:F.heap=[]∧F.next=0∧F.rows=[])
  (hv:∀ ρ ρ',v.den ρ=v.den ρ') (ρ:Nat→Nat) (w:World) (hp:PersOk F.pers w):Calls P f (ys.map (CV.den ρ)).toArray w (Gives (v.den ρ) w):=by
 obtain ⟨h1,h2,h3⟩:=hF;have hs:FSat ρ F w:=⟨fun b blk hb=>(by rw [h1] at hb; cases hb),fun b c hb=>(by rw [h2] at hb; exact absurd hb (Nat.not_lt_zero b)),fun b hb=>(by rw [h2] at hb; exact absurd hb (Nat.not_lt_zero b)),fun r R hR=>(by rw [h3] at hR; cases hR),fun r r' R R' hR=>(by rw [h3] at hR; cases hR),
    fun p hpm=>⟨(hp p hpm).1,(hp p hpm).2.1,fun k hD=>⟨(hp p hpm).2.2 k hD,fun b hb=>(by rw [h2] at hb; exact absurd hb (Nat.not_lt_zero b)),fun r R hR=>(by rw [h3] at hR; cases hR)⟩⟩⟩
 refine (h ρ w hs).mono ?_;rintro e w' ⟨x,ρ',_,he,_,_,_,_,_,_,hc,_⟩;refine ⟨by rw [he,hv ρ' ρ],hc.os,hc.tape,hc.output,hc.size,fun k hk _=>hc.block k hk ?_⟩;rintro (⟨b,blk,hb,_⟩ | ⟨r,R,hR,_⟩)
 ·rw [h1] at hb; cases hb
 ·rw [h3] at hR; cases hR
noncomputable def sDecimal:Con Tryz.prog:=Con.s1 165 [glbP] (fun s=>(.tup [.one (.int .i64 (decN s)),.one (.sb (decB s))],[s.length≤281474976710656])) (fun s ρ w hob hp =>
 CallsK.gives (cDec s (hob _ (List.mem_singleton.2 rfl))) ⟨rfl,rfl,rfl⟩ (fun _ _=>rfl) ρ w hp)
noncomputable def T5:List (Ent Tryz.prog):=[sTrimPrefix.e,⟨sDecimal,[0]⟩]
noncomputable def aRegOf:Con Tryz.prog:=Con.auto Tryz.func158 true T5 [glbP] kq kq
end Go.Proofs
end
section
namespace Go.SX
open Go
theorem strRow_flat (l:List (List UInt8)) (q:Option Addr) (cap:Nat):(rowL strS [] l q cap 9 1 true).flat=l.map fun s=>Value.string ⟨s.toArray⟩:=by
 have h1:(rowL strS [] l q cap 9 1 true).flat=(List.range l.length).map fun i=>Value.string ⟨(l.getD i []).toArray⟩:=by
  show (List.range l.length).flatMap (fun i=>[Value.string ⟨(l.getD i []).toArray⟩])=_;rw [List.flatMap_def]
  induction (List.range l.length) with
  | nil=>rfl
  | cons x xs ih=>simp only [List.map_cons,List.flatten_cons,ih,List.singleton_append]
 rw [h1];apply List.ext_getElem?;intro i;rw [List.getElem?_map,List.getElem?_map];by_cases hi:i<l.length
 ·rw [List.getElem?_range hi,List.getElem?_eq_getElem hi,Option.map_some,Option.map_some,List.getD,List.getElem?_eq_getElem hi];rfl
 ·rw [List.getElem?_eq_none (by simp; omega),List.getElem?_eq_none (by omega)];rfl
theorem strRow_ok {w:World} {g:Nat} {l:List (List UInt8)} {cap:Nat} {cur:Array Value} (hg:w.heap[g]?=some (.cells cur 9 (0,0))) (hcur:cur.toList.take l.length=l.map fun s=>Value.string ⟨s.toArray⟩) (hcap:l.length≤cap) (hmx:cap≤maxLen) (hsz:cur.size=cap) :
  (rowL strS [] l (some ⟨g,0,none⟩) cap 9 1 true).ok w:=by
 have hat:∀ i,i<l.length→cur[i]?=some (Value.string ⟨(l.getD i []).toArray⟩):=by
  intro i hi;have h1:(cur.toList.take l.length)[i]?=(l.map fun s=>Value.string ⟨s.toArray⟩)[i]?:=by rw [hcur]
  rw [List.getElem?_take_of_lt hi] at h1;rw [Array.getElem?_toList] at h1;rw [h1,List.getElem?_map,List.getD,List.getElem?_eq_getElem hi];rfl
 refine ⟨fun i hi=>⟨rfl,fun x hx=>?_⟩,fun hp=>⟨g,0,rfl,fun i j x hi hx=>?_⟩,fun _ _=>⟨?_,.inr ⟨g,cap,cur,rfl,Nat.zero_le _,hg,hcap,hmx,by simp only [rowL]; omega,?_⟩⟩,fun o ho=>(by cases ho)⟩
 ·have:x=.str (l.getD i []):=by simpa [rowL,strS] using hx
  subst this; trivial
 ·have hi':i<l.length:=hi;simp only [rowL,strS] at hx;cases j with
  | zero =>
   simp only [List.getElem?_cons_zero,Option.some.injEq] at hx;subst hx;show w.cell? ⟨g,0+(i*1+0),none⟩=_;rw [Lib.cell_of_heap hg];simp only [Nat.zero_add,Nat.mul_one,Nat.add_zero];rw [hat i hi'];rfl
  | succ j=>simp at hx
 ·rw [strRow_flat]; simp [rowL]
 ·rw [strRow_flat];simp only [rowL,Nat.mul_one];exact hcur
theorem CallsK.newStrs {P:Program} {f:FuncId} {ys:List CV} {F:St} (l:List (List UInt8)) (hl:l.length≤4294967296) (hF:F.heap=[]∧F.next=0∧F.rows=[])
  (h:∀ ρ w,FSat ρ F w→Calls P f (ys.map (CV.den ρ)).toArray w fun e w'=>e=.returned (.slice (some ⟨w.heap.size,0,none⟩) l.length l.length)∧w'=w.alloc (.cells (l.map fun s=>Value.string ⟨s.toArray⟩).toArray 9)) :
  CallsK P f ys F (fun _:Nat=>True) (fun g=>.v (.one (.row 0 (some ⟨g,0,none⟩) l.length l.length))) (fun g=>{ n:=0,slots:=[],gs:=[],heap:=[],next:=0,rows:=[(0,rowL strS [] l (some ⟨g,0,none⟩) l.length 9 1 true)],nr:=1,pers:=[],wr:=false }):=by
 obtain ⟨f1,f2,f3⟩:=hF;intro ρ w hS;refine (h ρ w hS).mono ?_;rintro e w' ⟨rfl,rfl⟩;have hg:(w.alloc (.cells (l.map fun s=>Value.string ⟨s.toArray⟩).toArray 9)).heap[w.heap.size]?=some (.cells (l.map fun s=>Value.string ⟨s.toArray⟩).toArray 9 (0,0)):=by
  show (w.heap.push _)[w.heap.size]?=_;simp
 have hok:=strRow_ok (l:=l) (cap:=l.length) hg (by simp [List.take_of_length_le]) (Nat.le_refl _) (by unfold maxLen; omega) (by simp);have huse:∀ k,(rowL strS [] l (some ⟨w.heap.size,0,none⟩) l.length 9 1 true).uses k→k=w.heap.size:=by
  rintro k ⟨ad,h1,h2,_⟩;cases h1; exact h2.symm
 have hrow:∀ r R,look [((0:Nat),rowL strS [] l (some ⟨w.heap.size,0,none⟩) l.length 9 1 true)] r=some R→r=0∧R=rowL strS [] l (some ⟨w.heap.size,0,none⟩) l.length 9 1 true:=by
  intro r R hR;simp only [look] at hR;split at hR
  ·rename_i e; cases hR; exact ⟨((beq_iff _ _).1 e).symm,rfl⟩
  ·cases hR
 have hsz:(w.alloc (.cells (l.map fun s=>Value.string ⟨s.toArray⟩).toArray 9)).heap.size=w.heap.size+1:=World.size_alloc _ _;refine ⟨w.heap.size,ρ,trivial,rfl,fun _ _=>rfl,by rw [f2]; exact Nat.le_refl _,fun b _ h2=>absurd h2 (Nat.not_lt_zero b),⟨fun b blk hb=>(by cases hb),fun b c hb=>absurd hb (Nat.not_lt_zero b),fun b hb=>absurd hb (Nat.not_lt_zero b),?_,?_,fun p hp=>(by cases hp)⟩,
    fun b hb=>(by rw [f2] at hb; exact absurd hb (Nat.not_lt_zero b)),⟨Nat.zero_lt_succ 0,fun R hR=>(by obtain ⟨_,rfl⟩:=hrow 0 R hR; exact ⟨rfl,rfl,rfl⟩)⟩,Chg.alloc _ _ _,fun b blk hb=>(by rw [f2] at hb; exact absurd hb (Nat.not_lt_zero b)),?_,fun p hp=>(by cases hp)⟩
 ·intro r R hR;obtain ⟨rfl,rfl⟩:=hrow r R hR;exact ⟨Nat.zero_lt_succ 0,hok,fun k hk=>⟨by rw [huse k hk,hsz]; omega,fun b hb=>absurd hb (Nat.not_lt_zero b)⟩⟩
 ·intro r r' R R' h1 h2 hne;obtain ⟨rfl,_⟩:=hrow r R h1;obtain ⟨rfl,_⟩:=hrow r' R' h2;exact absurd rfl hne
 ·intro r R hR k hk;obtain ⟨_,rfl⟩:=hrow r R hR;exact .inr (.inr (Nat.le_of_eq (huse k hk).symm))
end Go.SX
namespace Go.Proofs
open Go Go.SX
theorem cFields (s:List UInt8) (hs:s.length<4294967281) (ha:s.all (fun b=>decide (b.toNat<128))=true) (hn:(Lib.fields s).length≤4294967296):CallsK Tryz.prog 114 [.one (.str s)] glbF (fun _:Nat=>True)
  (fun g=>.v (.one (.row 0 (some ⟨g,0,none⟩) (Lib.fields s).length (Lib.fields s).length))) (fun g=>{ n:=0,slots:=[],gs:=[],heap:=[],next:=0,rows:=[(0,rowL strS [] (Lib.fields s) (some ⟨g,0,none⟩) (Lib.fields s).length 9 1 true)],nr:=1,pers:=[],wr:=false }):=by
 refine CallsK.newStrs (Lib.fields s) hn ⟨rfl,rfl,rfl⟩ (fun ρ w hS=>?_);have hg:GlbOk w:=(hS.pers glbP (List.mem_singleton.2 rfl)).1;exact Tryz.strings_Fields ⟨s.toArray⟩ w (by rw [ba_size]; exact hs) (fun j b hb=>by
  have:=List.all_eq_true.1 ha b (List.mem_of_getElem? hb);simpa using this) hg.sp
end Go.Proofs
end
section
namespace Go.Proofs
open Go Go.SX
def splS (s sep:List UInt8):List (List UInt8):=(Lib.splitB ⟨sep.toArray⟩ 0 (Lib.countB ⟨s.toArray⟩ ⟨sep.toArray⟩) ⟨s.toArray⟩).map (·.data.toList)
theorem cSplit (s sep:List UInt8) (hs:s.length<4294967281) (h1:1≤sep.length) (hn:(splS s sep).length=Lib.countB ⟨s.toArray⟩ ⟨sep.toArray⟩+1) (hm:(splS s sep).length≤4294967296):CallsK Tryz.prog 128 [.one (.str s),.one (.str sep)] glbF (fun _:Nat=>True)
  (fun g=>.v (.one (.row 0 (some ⟨g,0,none⟩) (splS s sep).length (splS s sep).length))) (fun g=>{ n:=0,slots:=[],gs:=[],heap:=[],next:=0,rows:=[(0,rowL strS [] (splS s sep) (some ⟨g,0,none⟩) (splS s sep).length 9 1 true)],nr:=1,pers:=[],wr:=false }):=by
 refine CallsK.newStrs (splS s sep) hm ⟨rfl,rfl,rfl⟩ (fun ρ w hS=>?_);obtain ⟨m,hmx⟩:=((hS.pers glbP (List.mem_singleton.2 rfl)).1:GlbOk w).max;refine (Tryz.strings_Split ⟨s.toArray⟩ ⟨sep.toArray⟩ m w (by rw [ba_size]; exact hs) hmx (by rw [ba_size]; exact h1)).mono ?_;rintro e w' ⟨rfl,rfl⟩;refine ⟨?_,?_⟩
 ·rw [hn]
 ·congr 2;unfold splS;rw [List.map_map];rfl
theorem cJoin (l:List (List UInt8)) (sep:List UInt8) (q:Option Addr) (cap:Nat) (hn:l.length≤140737488355328) (hj:(Lib.join l sep).length≤140737488355328) :
  CallsK Tryz.prog 121 [.one (.row 0 q l.length cap),.one (.str sep)] { n:=0,slots:=[],gs:=[],heap:=[],next:=0,rows:=[(0,rowL strS [] l q cap 9 1 true)],nr:=1,pers:=[],wr:=false } (fun _:Unit=>True)
  (fun _=>.v (.one (.str (Lib.join l sep)))) (fun _=>noF):=by
 intro ρ w hS;obtain ⟨_,hok,huse⟩:=hS.rows 0 _ rfl;have hend:∀ w',Chg (fun _=>False) w w'→GivesK ρ { n:=0,slots:=[],gs:=[],heap:=[],next:=0,rows:=[(0,rowL strS [] l q cap 9 1 true)],nr:=1,pers:=[],wr:=false } (fun _:Unit=>True) (fun _=>.v (.one (.str (Lib.join l sep)))) (fun _=>noF) w (.returned (.string ⟨(Lib.join l sep).toArray⟩)) w':=fun w' hc =>
  ⟨(),ρ,trivial,rfl,fun _ _=>rfl,Nat.le_refl _,fun b _ h2=>absurd h2 (Nat.not_lt_zero b),⟨fun b blk hb=>(by cases hb),fun b c hb=>absurd hb (Nat.not_lt_zero b),fun b hb=>absurd hb (Nat.not_lt_zero b),fun r R hR=>(by cases hR),fun r r' R R' hR=>(by cases hR),fun p hp=>(by cases hp)⟩,
      fun b hb=>absurd hb (Nat.not_lt_zero b),trivial,⟨hc.os,hc.tape,hc.output,hc.size,fun k hk _=>hc.block k hk id⟩,fun b blk hb=>absurd hb (Nat.not_lt_zero b),fun r R hR=>(by cases hR),fun p hp=>(by cases hp)⟩
 cases l with
 | nil =>
  refine (Tryz.strings_Join_none q cap ⟨sep.toArray⟩ w).mono ?_;rintro e w' ⟨rfl,rfl⟩;exact hend _ (Chg.refl _ _)
 | cons x xs =>
  obtain ⟨b,off,hs,hcell⟩:=hok.addr (Nat.zero_lt_succ _);have hq:q=some ⟨b,off,none⟩:=hs;subst hq;obtain ⟨_,⟨hv,_⟩ | ⟨g,cap',cur,hv,_,hg,hcap,_⟩⟩:=hok.own rfl rfl
  ·cases hv
  ·simp only [rowL] at hv hcap;injection hv with e1 e2 e3;cases e1;subst e3;have hlt:=(Array.getElem?_eq_some_iff.1 hg).1;have hmap:((x::xs).map fun s=>(⟨s.toArray⟩:ByteArray)).map (·.data.toList)=x::xs:=by
    rw [List.map_map];exact (List.map_congr_left fun a _=>by simp).trans (List.map_id _)
   have:=Tryz.strings_Join b 0 cap ((x::xs).map fun s=>(⟨s.toArray⟩:ByteArray)) ⟨sep.toArray⟩ w (fun j y hy=>by
    rw [List.getElem?_map] at hy;obtain ⟨z,hz,rfl⟩:=Option.map_eq_some_iff.1 hy;have hj':j<(x::xs).length:=(List.getElem?_eq_some_iff.1 hz).1;have h3:=hcell j 0 (.str z) hj' (by simp only [rowL,strS,List.getD,hz]; rfl);simpa [rowL,SV.den0,SV.den] using h3) hlt (by simpa using hn) (by simpa using hcap) (by rw [hmap]; exact hj)
   rw [hmap] at this;simp only [List.length_map] at this;refine this.mono ?_;rintro e w' ⟨rfl,hb⟩;exact hend _ ⟨hb.os,hb.tape,hb.output,hb.size,fun k hk _=>hb.block k hk⟩
end Go.Proofs
end
