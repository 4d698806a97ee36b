/- A symbolic run of the program that Lean checks, and what the functions of the program come to by it: part 12 of 12. -/
import Derived.Shelf.Lays
import Derived.Ground.Names2Prog
import Derived.Shelf.Strings.Search3
import Derived.Test.YteinbljapojcgaaGreatDoorProg
import Derived.Test.YteinbljapojcgaaGreatDoorRows
import Derived.Test.YteinbljapojcgaaGreatDoorTie
import Derived.Test.YteinbljapojcgaaGreatDoorCards
import Derived.JoinedOf
import Derived.KernelRfl
import Derived.SevenTiedAt
import Derived.ChangeMaps5
import Derived.ProofKit
import Derived.OpenShut
import Derived.Stop.Joined
import Derived.Test.YteinbljapojcgaaGreatDoorQAK
set_option linter.unusedVariables false
section
namespace Go.Proofs
open Go Go.SX
set_option maxRecDepth 10000
def FtK (f:Fl) (x:In) (A:IA):Prop:=CallsK Tryz.prog 63 [.agg (inV x A),.one (.int .u8 (f.ch.toNat:Int))] (stP (glbP::lsP x A)) (fun _:Unit=>True) (fun _=>.v (.one (.str (f.txt x)))) (fun _=>noF)
theorem join_snoc (c:UInt8) (l:List (List UInt8)) (w:List UInt8):Lib.join (l++[w]) [c]=if l.length=0 then w else Lib.join l [c]++[c]++w:=by
 induction l with
 | nil=>exact Lib.join_one _ _
 | cons v l ih =>
  rw [if_neg (by simp)];cases l with
  | nil=>rw [Lib.join_one]; show Lib.join [v,w] [c]=_; rw [join_two,Lib.join_one]; simp
  | cons u l =>
   rw [if_neg (by simp)] at ih;show Lib.join (v::u::(l++[w])) [c]=_;rw [join_two,join_two];have ih':Lib.join (u::(l++[w])) [c]=_:=ih;rw [ih'];simp
theorem ft_D (x:In) (A:IA) (hf:Fl.fineB .D x=true):FtK .D x A:=by
 have h:=isRg_b (n:=Sel.get .D x) hf;refine CallsK.m true Tryz.func63 (fun ρ w=>?_);refine V.rc [⟨sRegR,[3]⟩] 60 [inK .i64 (Sel.get .D x)] ⟨by omega,by omega⟩ ?_;refine V.s 4 (.one (.str (rgT (Sel.get .D x)))) (.one (.str (Fl.txt .D x))) (fun _=>by rw [rg_eq]; rfl) ?_;exact V.z
theorem ft_A (x:In) (A:IA) (hf:Fl.fineB .A x=true):FtK .A x A:=by
 have h:=isRg_b (n:=Sel.get .A x) hf;refine CallsK.m true Tryz.func63 (fun ρ w=>?_);refine V.rc [⟨sRegR,[3]⟩] 60 [inK .i64 (Sel.get .A x)] ⟨by omega,by omega⟩ ?_;refine V.s 4 (.one (.str (rgT (Sel.get .A x)))) (.one (.str (Fl.txt .A x))) (fun _=>by rw [rg_eq]; rfl) ?_;exact V.z
theorem ft_B (x:In) (A:IA) (hf:Fl.fineB .B x=true):FtK .B x A:=by
 have h:=isRg_b (n:=Sel.get .B x) hf;refine CallsK.m true Tryz.func63 (fun ρ w=>?_);refine V.rc [⟨sRegR,[3]⟩] 60 [inK .i64 (Sel.get .B x)] ⟨by omega,by omega⟩ ?_;refine V.s 4 (.one (.str (rgT (Sel.get .B x)))) (.one (.str (Fl.txt .B x))) (fun _=>by rw [rg_eq]; rfl) ?_;exact V.z
theorem ft_N (x:In) (A:IA) (hf:Fl.fineB .N x=true):FtK .N x A:=by
 have h:=isNum_b (n:=Sel.get .N x) hf;refine CallsK.m true Tryz.func63 (fun ρ w=>?_);refine V.rc [⟨sItoa,[3]⟩] 60 [inK .i64 (Sel.get .N x)] ⟨by omega,by omega⟩ ?_;exact V.z
theorem ft_M (x:In) (A:IA) (hf:Fl.fineB .M x=true):FtK .M x A:=by
 have h:=isNum_b (n:=Sel.get .M x) hf;refine CallsK.m true Tryz.func63 (fun ρ w=>?_);refine V.rc [⟨sItoa,[3]⟩] 60 [inK .i64 (Sel.get .M x)] ⟨by omega,by omega⟩ ?_;exact V.z
theorem ft_P (x:In) (A:IA) (hf:Fl.fineB .P x=true):FtK .P x A:=by
 have h:=isNum_b (n:=Sel.get .P x) hf;refine CallsK.m true Tryz.func63 (fun ρ w=>?_);refine V.rc [⟨sItoa,[3]⟩] 60 [inK .i64 (Sel.get .P x)] ⟨by omega,by omega⟩ ?_;exact V.z
theorem ft_aN (x:In) (A:IA) (hf:Fl.fineB .aN x=true):FtK .aN x A:=by
 have h:=isPl_b (n:=Sel.get .N x) hf;have h2:=(itoa100 h).2;have h3:1+(Lib.itoa (Sel.get .N x)).length≤9223372036854775807:=by omega
 refine CallsK.m true Tryz.func63 (fun ρ w=>?_);refine V.rc [⟨sItoa,[3]⟩] 60 [inK .i64 (Sel.get .N x),(1+(Lib.itoa (Sel.get .N x)).length:Nat)≤9223372036854775807] ⟨⟨by omega,by omega⟩,h3⟩ ?_;exact V.z
theorem ft_aM (x:In) (A:IA) (hf:Fl.fineB .aM x=true):FtK .aM x A:=by
 have h:=isPl_b (n:=Sel.get .M x) hf;have h2:=(itoa100 h).2;have h3:1+(Lib.itoa (Sel.get .M x)).length≤9223372036854775807:=by omega
 refine CallsK.m true Tryz.func63 (fun ρ w=>?_);refine V.rc [⟨sItoa,[3]⟩] 60 [inK .i64 (Sel.get .M x),(1+(Lib.itoa (Sel.get .M x)).length:Nat)≤9223372036854775807] ⟨⟨by omega,by omega⟩,h3⟩ ?_;exact V.z
theorem ft_pN (x:In) (A:IA) (hf:Fl.fineB .pN x=true):FtK .pN x A:=by
 have h:=isPr_b (no:=false) (n:=Sel.get .N x) hf;have h2:=(itoa100 h).2;have h3:1+(Lib.itoa (Sel.get .N x)).length≤9223372036854775807:=by omega
 have hn:¬ Sel.get .N x<0:=by
  have h':isPr false (Sel.get .N x)=true:=hf;unfold isPr at h';simp at h';omega
 refine CallsK.m true Tryz.func63 (fun ρ w=>?_);refine V.rc [⟨sItoa,[3]⟩] 60 [inK .i64 (Sel.get .N x),(1+(Lib.itoa (Sel.get .N x)).length:Nat)≤9223372036854775807] ⟨⟨by omega,by omega⟩,h3⟩ ?_;refine V.s 4 (.one (.str ([33]++Lib.itoa (Sel.get .N x)))) (.one (.str (Fl.txt .pN x))) (fun _=>by rw [show Fl.txt .pN x=prT (Sel.get .N x) from rfl]; unfold prT; rw [if_neg hn]; rfl) ?_;exact V.z
theorem ft_pM (x:In) (A:IA) (hf:Fl.fineB .pM x=true):FtK .pM x A:=by
 have h:=isPr_b (no:=true) (n:=Sel.get .M x) hf;have h2:=(itoa100 h).2;have h3:1+(Lib.itoa (Sel.get .M x)).length≤9223372036854775807:=by omega
 refine CallsK.m true Tryz.func63 (fun ρ w=>?_);refine V.rc [⟨sItoa,[3]⟩] 11 [] trivial ?_;refine V.t [⟨sItoa,[3]⟩] [] trivial ?_;refine V.bn 72 (decide (Sel.get .M x<0)) (fun hh=>?_) (fun hh=>?_)
 ·refine V.q ?_;refine V.s 4 (.one (.str [33,45])) (.one (.str (Fl.txt .pM x))) (fun _=>by rw [show Fl.txt .pM x=prT (Sel.get .M x) from rfl]; unfold prT; rw [if_pos (of_decide_eq_true hh)]) ?_;exact V.z
 ·refine V.t [⟨sItoa,[3]⟩] [inK .i64 (Sel.get .M x),(1+(Lib.itoa (Sel.get .M x)).length:Nat)≤9223372036854775807] ⟨⟨by omega,by omega⟩,h3⟩ ?_;refine V.s 4 (.one (.str ([33]++Lib.itoa (Sel.get .M x)))) (.one (.str (Fl.txt .pM x))) (fun _=>by rw [show Fl.txt .pM x=prT (Sel.get .M x) from rfl]; unfold prT; rw [if_neg (of_decide_eq_false hh)]; rfl) ?_;exact V.z
theorem ft_far (x:In) (A:IA) (hf:Fl.fineB .far x=true):FtK .far x A:=by
 have h':isFar x=true:=hf;unfold isFar at h';simp only [Bool.and_eq_true,decide_eq_true_eq] at h';have hp:inK .i64 x.p:=⟨by omega,by omega⟩;have hn:inK .i64 x.n:=⟨by omega,by omega⟩;have h1:=Lib.itoa_length_le x.p hp.1 hp.2;have h2:=Lib.itoa_length_le x.n hn.1 hn.2;have o1:1+(Lib.itoa x.p).length≤9223372036854775807:=by omega
 have o2:([33]++Lib.itoa x.p).length+1≤9223372036854775807:=by rw [List.length_append,List.length_singleton]; omega
 have o3:([33]++Lib.itoa x.p++[64]).length+(Lib.itoa x.n).length≤9223372036854775807:=by rw [List.length_append,List.length_append,List.length_singleton,List.length_singleton]; omega
 refine CallsK.m true Tryz.func63 (fun ρ w=>?_);refine V.rc [⟨sItoa,[3]⟩] 60 [inK .i64 x.p,1+(Lib.itoa x.p).length≤9223372036854775807,([33]++Lib.itoa x.p:List UInt8).length+1≤9223372036854775807,inK .i64 x.n,([33]++Lib.itoa x.p++[64]:List UInt8).length+(Lib.itoa x.n).length≤9223372036854775807] ⟨hp,o1,o2,hn,o3⟩ ?_;exact V.z
theorem ft_T (x:In) (A:IA) (hf:Fl.fineB .T x=true):FtK .T x A:=by
 have h:=isTy_in (t:=TSel.get .T x) hf;refine CallsK.m true Tryz.func63 (fun ρ w=>?_);refine V.rc [⟨sTyTextR,[3]⟩] 60 [inK .i64 (TSel.get .T x).k∧inK .i64 (TSel.get .T x).p∧inK .i64 (TSel.get .T x).q∧(TSel.get .T x).s.length≤1000000000] h ?_;exact V.z
theorem ft_U (x:In) (A:IA) (hf:Fl.fineB .U x=true):FtK .U x A:=by
 have h:=isTy_in (t:=TSel.get .U x) hf;refine CallsK.m true Tryz.func63 (fun ρ w=>?_);refine V.rc [⟨sTyTextR,[3]⟩] 60 [inK .i64 (TSel.get .U x).k∧inK .i64 (TSel.get .U x).p∧inK .i64 (TSel.get .U x).q∧(TSel.get .U x).s.length≤1000000000] h ?_;exact V.z
theorem ft_W (x:In) (A:IA) (hf:Fl.fineB .W x=true):FtK .W x A:=by
 have h:=isTy_in (t:=TSel.get .W x) hf;refine CallsK.m true Tryz.func63 (fun ρ w=>?_);refine V.rc [⟨sTyTextR,[3]⟩] 60 [inK .i64 (TSel.get .W x).k∧inK .i64 (TSel.get .W x).p∧inK .i64 (TSel.get .W x).q∧(TSel.get .W x).s.length≤1000000000] h ?_;exact V.z
theorem ft_V (x:In) (A:IA) (hf:Fl.fineB .V x=true):FtK .V x A:=by
 have h':isVal x=true:=hf;unfold isVal at h';rw [Bool.and_eq_true,decide_eq_true_eq] at h';have hk:=inK_num h'.1;have h1:=Lib.itoa_length_le x.vn hk.1 hk.2;have h5:=hexTl x.vs;have o1:(Lib.itoa x.vn).length+1≤9223372036854775807:=by omega
 have o2:x.vs.length≤1000000000:=by omega
 have o3:(Lib.itoa x.vn++[44]).length+(hexT x.vs).length≤9223372036854775807:=by rw [List.length_append,h5,List.length_singleton]; omega
 refine CallsK.m true Tryz.func63 (fun ρ w=>?_);refine V.rc [⟨sItoa,[3]⟩,⟨sHexR,[]⟩] 60 [inK .i64 x.vn,(Lib.itoa x.vn).length+1≤9223372036854775807,x.vs.length≤1000000000,(Lib.itoa x.vn++[44]:List UInt8).length+(hexT x.vs).length≤9223372036854775807] ⟨hk,o1,o2,o3⟩ ?_;exact V.z
theorem ft_Sz (x:In) (A:IA) (hf:Fl.fineB .Sz x=true):FtK .Sz x A:=by
 refine CallsK.m true Tryz.func63 (fun ρ w=>?_);refine V.rc [aBitR.e] 60 [] trivial ?_;refine V.s 4 (.one (.str (bitU (FSel.get .S x)))) (.one (.str (Fl.txt .Sz x))) (fun _=>by rw [show Fl.txt .Sz x=bitT (FSel.get .S x) from rfl]; cases FSel.get .S x<;>rfl) ?_;exact V.z
theorem ft_Rg (x:In) (A:IA) (hf:Fl.fineB .Rg x=true):FtK .Rg x A:=by
 refine CallsK.m true Tryz.func63 (fun ρ w=>?_);refine V.rc [aBitR.e] 60 [] trivial ?_;refine V.s 4 (.one (.str (bitU (FSel.get .R x)))) (.one (.str (Fl.txt .Rg x))) (fun _=>by rw [show Fl.txt .Rg x=bitT (FSel.get .R x) from rfl]; cases FSel.get .R x<;>rfl) ?_;exact V.z
def fxL (x:In) (A:IA) (j:HXI):St :=
 { n:=168,slots:=[(1,.v (.one (.int .u8 (Fl.ch .L).toNat))),(2,.v (.one (.ptr 0 0))),(5,.v (.one (.str j.l))),(6,.v (.one (.int .i64 (x.l.length:Int)))),(7,.v (.one (.int .i64 (j.i:Int))))],gs:=[],heap:=[(0,⟨inV x A,30,true⟩)],next:=1,rows:=[],nr:=0,pers:=glbP::lsP x A,wr:=true,fx:=0 }
set_option maxHeartbeats 2000000 in
theorem ft_L (x:In) (A:IA) (hf:Fl.fineB .L x=true):FtK .L x A:=by
 have hall:=and_l hf;have hlen:(x.l.length:Int)≤16:=of_decide_eq_true (and_r hf);refine CallsK.m true Tryz.func63 (fun ρ w=>?_);refine V.rc [] 20 [] trivial ?_;refine V.loopK [1,2,5,6,7] [true,true,true,true] (fun j:HXI=>x.l.length - j.i) (fxL x A) (fun j=>j.i≤x.l.length∧j.l=[91]++Lib.join ((x.l.take j.i).map rgT) [59]∧j.l.length≤1+1001*j.i) ⟨[91],none,0,0⟩ kq ⟨Nat.zero_le _,rfl,Nat.le_refl _⟩ (fun j hj ih=>?_);obtain ⟨s,q0,c0,i⟩:=j;obtain ⟨hi,hs,hsl⟩:=hj;simp only at hi hs hsl;refine V.iter ?_;refine V.q ?_;refine V.bn 129 (decide ((i:Int)<(x.l.length:Int))) (fun hc=>?_) (fun hc=>?_)
 ·have hlt:i<x.l.length:=by simpa using hc
  have hfe:=all_get hlt 0 hall;have hin:=fineI_lt hfe;have htl:(rgT (x.l.getD i 0)).length≤1000:=Nat.le_trans (rgT_len (n:=x.l.getD i 0) (by omega) (by omega)) (by decide);have htk:(x.l.take (i+1)).map rgT=(x.l.take i).map rgT++[rgT (x.l.getD i 0)]:=by
   rw [List.take_add_one,List.getElem?_eq_getElem hlt,List.map_append,List.getD,List.getElem?_eq_getElem hlt]; rfl
  have hz:((x.l.take i).map rgT).length=i:=by rw [List.length_map,List.length_take]; omega
  refine V.q ?_;refine V.bn 133 (decide ((i:Int)>0)) (fun hp=>?_) (fun hp=>?_)
  ·have hi0:0<i:=by simpa using hp
   have o1:s.length+1≤9223372036854775807:=by omega
   have o2:(s++[59]).length+(rgT (x.l.getD i 0)).length≤9223372036854775807:=by rw [List.length_append,List.length_singleton]; omega
   refine V.t [] [(s.length+1:Nat)≤9223372036854775807] o1 ?_;refine V.rc [] 2 [] trivial ?_;refine V.ar 140 2 (rowI x A) ?_;refine V.rc [⟨sRegR,[3]⟩] 3 [(0:Int)≤i∧(i:Int)<x.l.length,inK .i64 (x.l.getD i 0),((s++[59]:List UInt8).length+(rgT (x.l.getD i 0)).length:Nat)≤9223372036854775807] ⟨⟨by omega,by omega⟩,⟨by omega,by omega⟩,o2⟩ ?_;refine V.up 7 i (by omega) ?_;exact V.againK [1,2,5,6,7] [true,true,true,true] (ih ⟨s++[59]++rgT (x.l.getD i 0),none,0,i+1⟩ ⟨hlt,by simp only; rw [htk,join_snoc,hz,if_neg (by omega),hs]; simp,by simp only [List.length_append,List.length_singleton]; omega⟩ (by simp only; omega)) kq kq
  ·have hi0:i=0:=by simpa using hp
   have o2:s.length+(rgT (x.l.getD i 0)).length≤9223372036854775807:=by omega
   refine V.rc [] 2 [] trivial ?_;refine V.ar 140 2 (rowI x A) ?_;refine V.rc [⟨sRegR,[3]⟩] 3 [(0:Int)≤i∧(i:Int)<x.l.length,inK .i64 (x.l.getD i 0),(s.length+(rgT (x.l.getD i 0)).length:Nat)≤9223372036854775807] ⟨⟨by omega,by omega⟩,⟨by omega,by omega⟩,o2⟩ ?_;refine V.up 7 i (by omega) ?_;exact V.againK [1,2,5,6,7] [true,true,true,true] (ih ⟨s++rgT (x.l.getD i 0),none,0,i+1⟩ ⟨hlt,by simp only; rw [htk,join_snoc,hz,if_pos hi0,hs,hi0]; simp [Lib.join],by simp only [List.length_append]; omega⟩ (by simp only; omega)) kq kq
 ·have hle:i=x.l.length:=by simp at hc; omega
  have o1:s.length+1≤9223372036854775807:=by omega
  rw [hle,List.take_length] at hs;refine V.t [] [(s.length+1:Nat)≤9223372036854775807] o1 ?_;subst hs;exact V.z
def fxY (x:In) (A:IA) (j:HXI):St :=
 { n:=168,slots:=[(1,.v (.one (.int .u8 (Fl.ch .Y).toNat))),(2,.v (.one (.ptr 0 0))),(5,.v (.one (.str j.l))),(6,.v (.one (.int .i64 (x.y.length:Int)))),(7,.v (.one (.int .i64 (j.i:Int))))],gs:=[],heap:=[(0,⟨inV x A,30,true⟩)],next:=1,rows:=[],nr:=0,pers:=glbP::lsP x A,wr:=true,fx:=0 }
set_option maxHeartbeats 2000000 in
theorem ft_Y (x:In) (A:IA) (hf:Fl.fineB .Y x=true):FtK .Y x A:=by
 have hall:=and_l hf;have hlen:(x.y.length:Int)≤16:=of_decide_eq_true (and_r hf);refine CallsK.m true Tryz.func63 (fun ρ w=>?_);refine V.rc [] 20 [] trivial ?_;refine V.loopK [1,2,5,6,7] [true,true,true,true] (fun j:HXI=>x.y.length - j.i) (fxY x A) (fun j=>j.i≤x.y.length∧j.l=[91]++Lib.join ((x.y.take j.i).map tyTx) [59]∧j.l.length≤1+1001*j.i) ⟨[91],none,0,0⟩ kq ⟨Nat.zero_le _,rfl,Nat.le_refl _⟩ (fun j hj ih=>?_);obtain ⟨s,q0,c0,i⟩:=j;obtain ⟨hi,hs,hsl⟩:=hj;simp only at hi hs hsl;refine V.iter ?_;refine V.q ?_;refine V.bn 129 (decide ((i:Int)<(x.y.length:Int))) (fun hc=>?_) (fun hc=>?_)
 ·have hlt:i<x.y.length:=by simpa using hc
  have hfe:=all_get hlt ty0 hall;have hin:=isTy_in hfe;have htl:(tyTx (x.y.getD i ty0)).length≤1000:=tyTx_b hfe;have htk:(x.y.take (i+1)).map tyTx=(x.y.take i).map tyTx++[tyTx (x.y.getD i ty0)]:=by
   rw [List.take_add_one,List.getElem?_eq_getElem hlt,List.map_append,List.getD,List.getElem?_eq_getElem hlt]; rfl
  have hz:((x.y.take i).map tyTx).length=i:=by rw [List.length_map,List.length_take]; omega
  refine V.q ?_;refine V.bn 133 (decide ((i:Int)>0)) (fun hp=>?_) (fun hp=>?_)
  ·have hi0:0<i:=by simpa using hp
   have o1:s.length+1≤9223372036854775807:=by omega
   have o2:(s++[59]).length+(tyTx (x.y.getD i ty0)).length≤9223372036854775807:=by rw [List.length_append,List.length_singleton]; omega
   refine V.t [] [(s.length+1:Nat)≤9223372036854775807] o1 ?_;refine V.rc [] 3 [] trivial ?_;refine V.ar 150 3 (rowT x A) ?_;refine V.rc [⟨sTyTextR,[3]⟩] 2 [(0:Int)≤i∧(i:Int)<x.y.length,inK .i64 (x.y.getD i ty0).k∧inK .i64 (x.y.getD i ty0).p∧inK .i64 (x.y.getD i ty0).q∧(x.y.getD i ty0).s.length≤1000000000,((s++[59]:List UInt8).length+(tyTx (x.y.getD i ty0)).length:Nat)≤9223372036854775807] ⟨⟨by omega,by omega⟩,hin,o2⟩ ?_;refine V.up 7 i (by omega) ?_;exact V.againK [1,2,5,6,7] [true,true,true,true] (ih ⟨s++[59]++tyTx (x.y.getD i ty0),none,0,i+1⟩ ⟨hlt,by simp only; rw [htk,join_snoc,hz,if_neg (by omega),hs]; simp,by simp only [List.length_append,List.length_singleton]; omega⟩ (by simp only; omega)) kq kq
  ·have hi0:i=0:=by simpa using hp
   have o2:s.length+(tyTx (x.y.getD i ty0)).length≤9223372036854775807:=by omega
   refine V.rc [] 3 [] trivial ?_;refine V.ar 150 3 (rowT x A) ?_;refine V.rc [⟨sTyTextR,[3]⟩] 2 [(0:Int)≤i∧(i:Int)<x.y.length,inK .i64 (x.y.getD i ty0).k∧inK .i64 (x.y.getD i ty0).p∧inK .i64 (x.y.getD i ty0).q∧(x.y.getD i ty0).s.length≤1000000000,(s.length+(tyTx (x.y.getD i ty0)).length:Nat)≤9223372036854775807] ⟨⟨by omega,by omega⟩,hin,o2⟩ ?_;refine V.up 7 i (by omega) ?_;exact V.againK [1,2,5,6,7] [true,true,true,true] (ih ⟨s++tyTx (x.y.getD i ty0),none,0,i+1⟩ ⟨hlt,by simp only; rw [htk,join_snoc,hz,if_pos hi0,hs,hi0]; simp [Lib.join],by simp only [List.length_append]; omega⟩ (by simp only; omega)) kq kq
 ·have hle:i=x.y.length:=by simp at hc; omega
  have o1:s.length+1≤9223372036854775807:=by omega
  rw [hle,List.take_length] at hs;refine V.t [] [(s.length+1:Nat)≤9223372036854775807] o1 ?_;subst hs;exact V.z
def fxF (x:In) (A:IA) (j:HXI):St :=
 { n:=168,slots:=[(1,.v (.one (.int .u8 (Fl.ch .F).toNat))),(2,.v (.one (.ptr 0 0))),(5,.v (.one (.str j.l))),(6,.v (.one (.int .i64 (x.f.length:Int)))),(7,.v (.one (.int .i64 (j.i:Int))))],gs:=[],heap:=[(0,⟨inV x A,30,true⟩)],next:=1,rows:=[],nr:=0,pers:=glbP::lsP x A,wr:=true,fx:=0 }
set_option maxHeartbeats 2000000 in
theorem ft_F (x:In) (A:IA) (hf:Fl.fineB .F x=true):FtK .F x A:=by
 have hall:=and_l hf;have hlen:(x.f.length:Int)≤16:=of_decide_eq_true (and_r hf);refine CallsK.m true Tryz.func63 (fun ρ w=>?_);refine V.rc [] 20 [] trivial ?_;refine V.loopK [1,2,5,6,7] [true,true,true,true] (fun j:HXI=>x.f.length - j.i) (fxF x A) (fun j=>j.i≤x.f.length∧j.l=[91]++Lib.join ((x.f.take j.i).map fmTx) [59]∧j.l.length≤1+1001*j.i) ⟨[91],none,0,0⟩ kq ⟨Nat.zero_le _,rfl,Nat.le_refl _⟩ (fun j hj ih=>?_);obtain ⟨s,q0,c0,i⟩:=j;obtain ⟨hi,hs,hsl⟩:=hj;simp only at hi hs hsl;refine V.iter ?_;refine V.q ?_;refine V.bn 129 (decide ((i:Int)<(x.f.length:Int))) (fun hc=>?_) (fun hc=>?_)
 ·have hlt:i<x.f.length:=by simpa using hc
  have hfe:=all_get hlt fm0 hall;have hin:=isFm_in hfe;have htl:(fmTx (x.f.getD i fm0)).length≤1000:=fmTx_b hfe;have htk:(x.f.take (i+1)).map fmTx=(x.f.take i).map fmTx++[fmTx (x.f.getD i fm0)]:=by
   rw [List.take_add_one,List.getElem?_eq_getElem hlt,List.map_append,List.getD,List.getElem?_eq_getElem hlt]; rfl
  have hz:((x.f.take i).map fmTx).length=i:=by rw [List.length_map,List.length_take]; omega
  refine V.q ?_;refine V.bn 133 (decide ((i:Int)>0)) (fun hp=>?_) (fun hp=>?_)
  ·have hi0:0<i:=by simpa using hp
   have o1:s.length+1≤9223372036854775807:=by omega
   have o2:(s++[59]).length+(fmTx (x.f.getD i fm0)).length≤9223372036854775807:=by rw [List.length_append,List.length_singleton]; omega
   refine V.t [] [(s.length+1:Nat)≤9223372036854775807] o1 ?_;refine V.rc [] 4 [] trivial ?_;refine V.ar 160 1 (rowF x A) ?_;refine V.rc [⟨sFmTextR,[3]⟩] 1 [(0:Int)≤i∧(i:Int)<x.f.length,inK .i64 (x.f.getD i fm0).k∧inK .i64 (x.f.getD i fm0).w∧inK .i64 (x.f.getD i fm0).d∧(x.f.getD i fm0).s.length≤1000000000,((s++[59]:List UInt8).length+(fmTx (x.f.getD i fm0)).length:Nat)≤9223372036854775807] ⟨⟨by omega,by omega⟩,hin,o2⟩ ?_;refine V.up 7 i (by omega) ?_;exact V.againK [1,2,5,6,7] [true,true,true,true] (ih ⟨s++[59]++fmTx (x.f.getD i fm0),none,0,i+1⟩ ⟨hlt,by simp only; rw [htk,join_snoc,hz,if_neg (by omega),hs]; simp,by simp only [List.length_append,List.length_singleton]; omega⟩ (by simp only; omega)) kq kq
  ·have hi0:i=0:=by simpa using hp
   have o2:s.length+(fmTx (x.f.getD i fm0)).length≤9223372036854775807:=by omega
   refine V.rc [] 4 [] trivial ?_;refine V.ar 160 1 (rowF x A) ?_;refine V.rc [⟨sFmTextR,[3]⟩] 1 [(0:Int)≤i∧(i:Int)<x.f.length,inK .i64 (x.f.getD i fm0).k∧inK .i64 (x.f.getD i fm0).w∧inK .i64 (x.f.getD i fm0).d∧(x.f.getD i fm0).s.length≤1000000000,(s.length+(fmTx (x.f.getD i fm0)).length:Nat)≤9223372036854775807] ⟨⟨by omega,by omega⟩,hin,o2⟩ ?_;refine V.up 7 i (by omega) ?_;exact V.againK [1,2,5,6,7] [true,true,true,true] (ih ⟨s++fmTx (x.f.getD i fm0),none,0,i+1⟩ ⟨hlt,by simp only; rw [htk,join_snoc,hz,if_pos hi0,hs,hi0]; simp [Lib.join],by simp only [List.length_append]; omega⟩ (by simp only; omega)) kq kq
 ·have hle:i=x.f.length:=by simp at hc; omega
  have o1:s.length+1≤9223372036854775807:=by omega
  rw [hle,List.take_length] at hs;refine V.t [] [(s.length+1:Nat)≤9223372036854775807] o1 ?_;subst hs;exact V.z
theorem cFtext (f:Fl) (x:In) (A:IA) (hf:f.fineB x=true):FtK f x A:=by
 cases f
 case D=>exact ft_D x A hf
 case A=>exact ft_A x A hf
 case B=>exact ft_B x A hf
 case N=>exact ft_N x A hf
 case M=>exact ft_M x A hf
 case P=>exact ft_P x A hf
 case T=>exact ft_T x A hf
 case U=>exact ft_U x A hf
 case W=>exact ft_W x A hf
 case V=>exact ft_V x A hf
 case L=>exact ft_L x A hf
 case Y=>exact ft_Y x A hf
 case F=>exact ft_F x A hf
 case Sz=>exact ft_Sz x A hf
 case Rg=>exact ft_Rg x A hf
 case aN=>exact ft_aN x A hf
 case aM=>exact ft_aM x A hf
 case pN=>exact ft_pN x A hf
 case pM=>exact ft_pM x A hf
 case far=>exact ft_far x A hf
def txSt (x:In) (A:IA) (ls:List UInt8) (j:HXI):St :=
 { n:=34,slots:=[(1,.v (.one (.ptr 0 0))),(3,.v (.one (.int .i64 0))),(5,.v (.one (.str j.l))),(6,.v (.one (.str ls))),(7,.v (.one (.int .i64 (j.i:Int))))],gs:=[],
    heap:=[(0,⟨inV x A,30,true⟩)],next:=1,rows:=[],nr:=0,pers:=glbP::lsP x A,wr:=true,fx:=0 }
theorem xTextR (x:In) (A:IA) (hx:x.okM):CallsK Tryz.prog 23 [.agg (inV x A)] (stP (glbP::lsP x A)) (fun _:Unit=>True) (fun _=>.tup [.one (.str (txA x).1),.one (.int .i64 (txA x).2)]) (fun _=>noF):=by
 obtain ⟨b,hb⟩:∃ b,cFine x=b:=⟨_,rfl⟩;have e:txA x=bif b then (lnT x,0) else ([],170):=by unfold txA; rw [hb]
 rw [e];have key:=xCheckM x A hx;rw [hb] at key;cases b with
 | false =>
  refine CallsK.m true Tryz.func23 (fun ρ w=>?_);refine V.q ?_;refine V.c [(1,false),(2,false),(3,false)] key (fun _ _=>?_);refine V.rc [] 9 [] trivial ?_;exact V.z
 | true =>
  obtain ⟨o,ho,eo⟩:=fine_op hb;have hfn:=(fnAll ho eo hb).1;have hlet:=letters o (by have:=(isOp_iff o).1 ho; omega);have hfind:opFind (o:Int)=some (opFls o):=by unfold opFind; rw [if_pos (by have:=(isOp_iff o).1 ho; omega)]; rfl
  rw [hfind] at hlet;simp only [Option.getD_some] at hlet;have hnm:(rfN (o:Int)).1=opName o:=by rw [rfN_op ho]
  have hL:lnT x=Lib.join (opName o::lineW x (opFls o)) [32]:=lnT_of eo;show CallsK Tryz.prog 23 [.agg (inV x A)] _ _ (fun _=>.tup [.one (.str (lnT x)),.one (.int .i64 0)]) _;rw [hL];have hfl:(opFls o).length≤7:=by
   have:=opFind_len (o:Int);rw [hfind] at this;exact this
  have hon:(opName o).length≤20:=of_decide_eq_true (all_ops (p:=fun o=>decide ((opName o).length≤20)) kq ho);generalize opFls o=fls at hlet hfn hfl;refine CallsK.m true Tryz.func23 (fun ρ w=>?_);refine V.q ?_;refine V.c [(1,false),(2,false),(3,false)] key (fun _ _=>?_);refine V.rc [] 2 [] trivial ?_;refine V.s 15 (.one (.int .i64 x.op)) (.one (.int .i64 (o:Int))) (fun _=>by rw [eo]) ?_;refine V.c [] (cFieldsR (o:Int)) (fun _ _=>?_);refine V.q ?_;refine V.s 6 (.one (.str (rfN (o:Int)).2)) (.one (.str (fls.map Fl.ch))) (fun _=>by rw [hlet]) ?_;refine V.s 5 (.one (.str (rfN (o:Int)).1)) (.one (.str (opName o))) (fun _=>by rw [hnm]) ?_;refine V.loopK [1,3,5,6,7] [true,true,true,true] (fun j:HXI=>fls.length - j.i) (txSt x A (fls.map Fl.ch)) (fun j=>j.i≤fls.length∧j.l=Lib.join (opName o::lineW x (fls.take j.i)) [32]∧j.l.length≤20+20001*j.i) ⟨opName o,none,0,0⟩ kq ⟨Nat.zero_le _,(Lib.join_one _ _).symm,hon⟩ (fun j hj ih=>?_);obtain ⟨s,q0,c0,i⟩:=j;obtain ⟨hi,hs,hsl⟩:=hj;simp only at hi hs hsl;refine V.iter ?_;refine V.q ?_;refine V.bn 22 (decide ((i:Int)<((fls.map Fl.ch).length:Int))) (fun hc=>?_) (fun hc=>?_)
  ·have hlt:i<fls.length:=by simpa using hc
   obtain ⟨f,hf⟩:∃ f,fls.getD i .D=f:=⟨_,rfl⟩;have hch:(fls.map Fl.ch).getD (i:Int).toNat 0=f.ch:=by
    rw [Int.toNat_natCast,← hf,List.getD,List.getElem?_map,List.getElem?_eq_getElem hlt,List.getD,List.getElem?_eq_getElem hlt];rfl
   have htk:fls.take (i+1)=fls.take i++[f]:=by
    rw [List.take_add_one,List.getElem?_eq_getElem hlt];rw [List.getD,List.getElem?_eq_getElem hlt] at hf;simp only [Option.getD_some] at hf;rw [hf]; rfl
   have hff:f.fineB x=true:=by rw [← hf,List.getD,List.getElem?_eq_getElem hlt]; exact hfn _ (List.getElem_mem hlt)
   have hl:=txt_len f x hff;have hW:=cFtext f x A hff;unfold FtK at hW;rw [← hch] at hW;refine V.q ?_;refine V.drawX [] [] 8 kq ?_;refine @VX.run _ [] [] 8 _ _ ([]:List (Ent Tryz.prog)) [s.length+1≤9223372036854775807,(0:Int)≤i∧(i:Int)<((fls.map Fl.ch).length:Int)] kq kq ⟨by omega,by omega,by rw [List.length_map]; omega⟩ ?_;refine @VX.callK _ [] [] 8 _ _ _ _ _ _ _ _ _ [(0,false),(1,false),(2,false),(3,false)] hW kq kq kq (fun _=>kq) (fun _ _=>?_);refine @VX.run _ [] [] 8 _ _ ([]:List (Ent Tryz.prog)) [(s++[32]:List UInt8).length+(f.txt x).length≤9223372036854775807] kq kq (by rw [List.length_append,List.length_singleton]; show _≤9223372036854775807; omega) ?_;refine @VX.stop _ [] [] 8 _ _ kq ?_;refine V.q ?_;refine V.up 7 i (by omega) ?_;exact V.againK [1,3,5,6,7] [true,true,true,true] (ih ⟨s++[32]++f.txt x,none,0,i+1⟩ ⟨hlt,by
    simp only;rw [htk,hs];unfold lineW;rw [List.map_append,← List.cons_append];exact (join_snoc 32 (opName o::(fls.take i).map (fun f=>f.txt x)) (f.txt x)).symm,by simp only [List.length_append,List.length_singleton]; omega⟩ (by simp only; omega)) kq kq
  ·have hge:i=fls.length:=by simp at hc; omega
   rw [hge,List.take_length] at hs;refine V.q ?_;subst hs;exact V.z
structure CtI where
 l:List (List UInt8)
 q:Option Addr
 k:Nat
 st:Nat
 i:Nat
def ctSt (s:List UInt8) (c:UInt8) (j:CtI):St :=
 { n:=35,slots:=[(0,.v (.one (.str s))),(1,.v (.one (.int .u8 (c.toNat:Int)))),(4,.v (.one (.val (.slice none 0 0)))),(5,.v (.one (.row 0 j.q j.l.length j.k))),(6,.v (.one (.int .i64 (j.st:Int)))),(7,.v (.one (.int .i64 (j.i:Int))))],
    gs:=[],heap:=[],next:=0,rows:=[(0,rowL strS [] j.l j.q j.k 9 1 true)],nr:=1,pers:=[],wr:=true,fx:=0 }
def ctP (s:List UInt8) (c:UInt8) (j:CtI):Prop:=j.i≤s.length+1∧j.st≤j.i∧j.l.length≤j.st∧(j.i≤s.length∧splitC c s=j.l++splitC c (s.drop j.st)∧c ∉ (s.drop j.st).take (j.i - j.st)∨j.i=s.length+1∧j.l=splitC c s)
def ctW (s:List UInt8) (st i:Nat):List UInt8:=(s.take i).drop st
theorem ct_at {s:List UInt8} {st i:Nat} (h:st≤i) (hi:i<s.length):s.drop st=(s.drop st).take (i - st)++s.getD i 0::s.drop (i+1):=by
 have e1:(s.drop st).drop (i - st)=s.getD i 0::s.drop (i+1):=by
  rw [List.drop_drop,show st+(i - st)=i by omega,List.drop_eq_getElem_cons hi,List.getD,List.getElem?_eq_getElem hi];rfl
 rw [← e1,List.take_append_drop]
theorem ctW_eq {s:List UInt8} {st i:Nat}:ctW s st i=(s.drop st).take (i - st):=by unfold ctW; rw [List.drop_take]
theorem ct_end {s:List UInt8} {c:UInt8} {j:CtI} (h:ctP s c j) (hi:j.i=s.length):j.l++[ctW s j.st j.i]=splitC c s:=by
 obtain ⟨_,h2,_,h4 | h4⟩:=h
 ·have e:(s.drop j.st).take (j.i - j.st)=s.drop j.st:=List.take_of_length_le (by rw [List.length_drop]; omega);rw [ctW_eq,e,h4.2.1,split_one c (s.drop j.st) (by rw [e] at h4; exact h4.2.2)]
 ·omega
theorem ct_cut {s:List UInt8} {c:UInt8} {j:CtI} (h:ctP s c j) (hi:j.i<s.length) (hc:s.getD j.i 0=c):splitC c s=(j.l++[ctW s j.st j.i])++splitC c (s.drop (j.i+1)):=by
 obtain ⟨_,h2,_,h4 | h4⟩:=h
 ·rw [h4.2.1,ct_at h2 hi,hc,split_app c _ _ h4.2.2,ctW_eq,List.append_assoc];rfl
 ·omega
theorem ct_go {s:List UInt8} {c:UInt8} {j:CtI} (h:ctP s c j) (hi:j.i<s.length) (hc:s.getD j.i 0≠c):c ∉ (s.drop j.st).take (j.i+1 - j.st):=by
 obtain ⟨_,h2,_,h4 | h4⟩:=h
 ·intro hm;have e:(s.drop j.st).take (j.i+1 - j.st)=(s.drop j.st).take (j.i - j.st)++[s.getD j.i 0]:=by
   have hl:((s.drop j.st).take (j.i - j.st)).length=j.i - j.st:=by rw [List.length_take,List.length_drop]; omega
   conv=>lhs; rw [ct_at h2 hi,List.take_append,hl,show j.i+1 - j.st - (j.i - j.st)=1 by omega,List.take_take,Nat.min_eq_right (by omega)]
   rfl
  rw [e] at hm;rcases List.mem_append.1 hm with hm | hm
  ·exact h4.2.2 hm
  ·exact hc (List.mem_singleton.1 hm).symm
 ·omega
set_option maxHeartbeats 1000000 in
theorem cCut (s:List UInt8) (c:UInt8) (hs:s.length≤1000000000):CallsK Tryz.prog 65 [.one (.str s),.one (.int .u8 (c.toNat:Int))] noF (fun _:Option Addr×Nat=>True)
  (fun y=>.v (.one (.val (.slice y.1 (splitC c s).length y.2)))) (fun y=>psOf [rowP (rowL strS [] (splitC c s) y.1 y.2 9 1 false)]):=by
 refine CallsK.m true Tryz.func65 (fun ρ w=>?_);refine V.q ?_;refine V.nilL strS [] 5 9 1 kq kq ?_;refine V.loopK [0,1,4,5,6,7] [] (fun j:CtI=>s.length+1 - j.i) (ctSt s c) (ctP s c) ⟨[],none,0,0,0⟩ kq ⟨Nat.zero_le _,Nat.le_refl _,Nat.le_refl _,.inl ⟨Nat.zero_le _,rfl,by simp⟩⟩ (fun j hj ih=>?_);have hP:=hj;obtain ⟨l,q,k,st,i⟩:=j;obtain ⟨h1,h2,h3,h4⟩:=hj;simp only at h1 h2 h3 h4;refine V.iter ?_;refine V.q ?_;refine V.bn 11 (decide ((i:Int)≤s.length)) (fun hc=>?_) (fun hc=>?_)
 ·have hle:i≤s.length:=by simpa using hc
  refine V.t [] [((i:Int)==s.length)=false→(0:Int)≤i∧(i:Int)<s.length] (fun hh=>have:=beq_eq_false_iff_ne.1 hh; ⟨by omega,by omega⟩) ?_;refine V.bn 24 (((i:Int)==s.length)||(((s.getD (i:Int).toNat 0).toNat:Int)==(c.toNat:Int))) (fun hd=>?_) (fun hd=>?_)
  ·refine V.t [] [(0:Int)≤st∧(st:Int)≤i∧(i:Int)≤s.length] ⟨by omega,by omega,by omega⟩ ?_;refine V.push strS [] l (ctW s st i) 0 q k 9 1 [.str (ctW s st i)] 16 kq (by omega) rfl (fun _ _=>kq) (fun q' k'=>?_);refine V.q ?_;refine V.up 6 i (by omega) ?_;refine V.up 7 i (by omega) ?_;refine V.againK [0,1,4,5,6,7] [] (ih ⟨l++[ctW s st i],q',k',i+1,i+1⟩ ⟨by simp only; omega,Nat.le_refl _,by simp only [List.length_append,List.length_singleton]; omega,?_⟩ (by simp only; omega)) kq kq;by_cases he:i=s.length
   ·exact .inr ⟨by simp only; omega,ct_end hP he⟩
   ·refine .inl ⟨by simp only; omega,ct_cut hP (by simp only; omega) ?_,by simp⟩;rw [Bool.or_eq_true] at hd;rcases hd with hd | hd
    ·have:=eq_of_beq hd;omega
    ·have:=eq_of_beq hd;rw [Int.toNat_natCast] at this;exact UInt8.toNat_inj.1 (show (s.getD i 0).toNat=c.toNat by omega)
  ·refine V.q ?_;refine V.up 7 i (by omega) ?_;rw [Bool.or_eq_false_iff] at hd;have hne:=beq_eq_false_iff_ne.1 hd.1;have hnc:s.getD i 0≠c:=by
    intro e;have:=beq_eq_false_iff_ne.1 hd.2;rw [Int.toNat_natCast,e] at this;exact this rfl
   have hlt:i<s.length:=by omega
   refine V.againK [0,1,4,5,6,7] [] (ih ⟨l,q,k,st,i+1⟩ ⟨by simp only; omega,by simp only; omega,h3,.inl ⟨hlt,?_,ct_go hP hlt hnc⟩⟩ (by simp only; omega)) kq kq;rcases h4 with h4 | h4
   ·exact h4.2.1
   ·omega
 ·have hge:i=s.length+1:=by simp at hc; omega
  rcases h4 with h4 | h4
  ·omega
  obtain ⟨_,h4⟩:=h4;refine V.q ?_;refine V.freeze 0 (rowL strS [] l q k 9 1 true) kq kq ?_;subst h4;exact V.e ((q,k):Option Addr×Nat) [(0,true)] trivial
def ngB (s:List UInt8):Bool:=!(s==[])&&(((s.getD (0:Int).toNat 0).toNat:Int)==45)
def inV' (b:Bool) (t:List UInt8):Int:=match rIntL 11 t 0 with
 | some n=>bif b then -(n:Int) else (n:Int)
 | none=>0
structure NmI where
 n:Nat
 i:Nat
def nmSt (s t:List UInt8) (j:NmI):St :=
 { n:=48,slots:=[(0,.v (.one (.str t))),(2,.v (.one (.int .i64 0))),(3,.v (.one (.sb (ngB s)))),(4,.v (.one (.int .i64 (j.n:Int)))),(5,.v (.one (.int .i64 (j.i:Int))))],
    gs:=[],heap:=[],next:=0,rows:=[],nr:=0,pers:=[],wr:=true,fx:=0 }
theorem rIntL_step {t:List UInt8} {i n:Nat} (h:i<t.length) (h11:i<11) :
  rIntL (11 - i) (t.drop i) n=if (t.getD i 0).toNat<48∨57<(t.getD i 0).toNat then none else rIntL (11 - (i+1)) (t.drop (i+1)) (10*n+((t.getD i 0).toNat - 48)):=by
 rw [List.drop_eq_getElem_cons h,show 11 - i=(11 - (i+1))+1 by omega,List.getD,List.getElem?_eq_getElem h];rfl
theorem rIntL_end {t:List UInt8} {i n:Nat} (h:i=t.length∨i=11):rIntL (11 - i) (t.drop i) n=some n:=by
 rcases h with h | h
 ·rw [h,List.drop_length];cases 11 - t.length<;>rfl
 ·rw [h]; rfl
theorem dig_wrap {n:Nat} {c:UInt8} (hn:n<100000000000) (h1:48≤c.toNat):IntKind.i64.wrap (IntKind.i64.wrap (10*(n:Int))+IntKind.i64.wrap (IntKind.u8.wrap ((c.toNat:Int) - 48)))=((10*n+(c.toNat - 48):Nat):Int):=by
 have h:=c.toNat_lt;have e:IntKind.u8.wrap ((c.toNat:Int) - 48)=(c.toNat:Int) - 48:=by simp [IntKind.wrap,IntKind.bits,IntKind.signed]; omega
 rw [e];simp [IntKind.wrap,IntKind.bits,IntKind.signed];omega
theorem cIntR0 (s t:List UInt8) (hs:s.length≤1000000000) (b:Bool) (hb:ngB s=b) (ht:(bif b then (s.take s.length).drop 1 else s)=t) :
  CallsK Tryz.prog 130 [.one (.str s)] noF (fun _:Unit=>True) (fun _=>.v (.one (.int .i64 (inV' (ngB s) t)))) (fun _=>noF):=by
 have hpos:(!(s==[]))=true→(0:Int)≤0∧(0:Int)<s.length:=fun h=>⟨Int.le_refl _,by cases s with | nil=>cases h | cons c s=>simp only [List.length_cons]; omega⟩;have htl:t.length≤1000000000:=by
  cases b with
  | true=>rw [← ht]; show ((s.take s.length).drop 1).length≤_; rw [List.length_drop,List.length_take]; omega
  | false=>rw [← ht]; exact hs
 cases b
 case' true =>
  have hl:1≤s.length:=by
   cases s with
   | nil=>cases hb
   | cons c s=>simp
  refine CallsK.m true Tryz.func130 (fun ρ w=>?_);refine V.t [] [(!(s==[]))=true→(0:Int)≤0∧(0:Int)<s.length] hpos ?_;refine V.kn 13 (ngB s) true hb ?_;refine V.t [] [(0:Int)≤1∧(1:Int)≤s.length∧(s.length:Int)≤s.length] ⟨by omega,by omega,by omega⟩ ?_;refine V.s 0 (.one (.str ((s.take s.length).drop 1))) (.one (.str t)) (fun _=>by rw [← ht]; rfl) ?_
 case' false =>
  refine CallsK.m true Tryz.func130 (fun ρ w=>?_);refine V.t [] [(!(s==[]))=true→(0:Int)≤0∧(0:Int)<s.length] hpos ?_;refine V.kn 13 (ngB s) false hb ?_;refine V.q ?_;refine V.s 0 (.one (.str s)) (.one (.str t)) (fun _=>by rw [← ht]; rfl) ?_
 all_goals
  refine V.loopK [0,2,3,4,5] [] (fun j:NmI=>11 - j.i) (nmSt s t) (fun j=>j.i≤11∧j.i≤t.length∧rIntL 11 t 0=rIntL (11 - j.i) (t.drop j.i) j.n∧j.n<10 ^ j.i) ⟨0,0⟩ kq ⟨Nat.zero_le _,Nat.zero_le _,rfl,by decide⟩ (fun j hj ih=>?_);obtain ⟨n,i⟩:=j;obtain ⟨h11,hi,hr,hn⟩:=hj;simp only at h11 hi hr hn;have hp:10 ^ i≤10 ^ 11:=Nat.pow_le_pow_right (by decide) h11;have hn2:n<100000000000:=Nat.lt_of_lt_of_le hn hp;refine V.iter ?_;refine V.q ?_;refine V.bn 23 (decide ((i:Int)<t.length)&&decide ((i:Int)<11)) (fun hc=>?_) (fun hc=>?_)
  ·rw [Bool.and_eq_true,decide_eq_true_eq,decide_eq_true_eq] at hc;have hlt:i<t.length:=by omega
   have hix:(0:Int)≤i∧(i:Int)<t.length:=⟨by omega,hc.1⟩;have hst:=rIntL_step (n:=n) hlt (by omega);refine V.t [] [(0:Int)≤i∧(i:Int)<t.length,decide (((t.getD (i:Int).toNat 0).toNat:Int)<48)=false→(0:Int)≤i∧(i:Int)<t.length] ⟨hix,fun _=>hix⟩ ?_;refine V.bn 35 (decide (((t.getD (i:Int).toNat 0).toNat:Int)<48)||decide (((t.getD (i:Int).toNat 0).toNat:Int)>57)) (fun hd=>?_) (fun hd=>?_)
   ·rw [Bool.or_eq_true,decide_eq_true_eq,decide_eq_true_eq,Int.toNat_natCast] at hd;rw [if_pos (by omega)] at hst;refine V.q ?_;refine V.s 2 (.one (.int .i64 0)) (.one (.int .i64 (inV' (ngB s) t))) (fun _=>by unfold inV'; rw [hr,hst]) ?_;exact V.z
   ·rw [Bool.or_eq_false_iff,decide_eq_false_iff_not,decide_eq_false_iff_not,Int.toNat_natCast] at hd;rw [if_neg (by omega)] at hst;refine V.t [] [(0:Int)≤i∧(i:Int)<t.length] hix ?_;refine V.s 4 (.one (.int .i64 (IntKind.i64.wrap (IntKind.i64.wrap (10*(n:Int))+IntKind.i64.wrap (IntKind.u8.wrap (((t.getD (i:Int).toNat 0).toNat:Int) - 48)))))) (.one (.int .i64 ((10*n+((t.getD i 0).toNat - 48):Nat):Int))) (fun _=>by rw [Int.toNat_natCast,dig_wrap hn2 (by omega)]) ?_;refine V.up 5 i (by omega) ?_;exact V.againK [0,2,3,4,5] [] (ih ⟨10*n+((t.getD i 0).toNat - 48),i+1⟩ ⟨by simp only; omega,hlt,hr.trans hst,by simp only; rw [Nat.pow_succ]; have:=(t.getD i 0).toNat_lt; omega⟩ (by simp only; omega)) kq kq
  ·have he:i=t.length∨i=11:=by
    rw [Bool.and_eq_false_iff,decide_eq_false_iff_not,decide_eq_false_iff_not] at hc;omega
   have hv:=hr.trans (rIntL_end (n:=n) he);refine V.q ?_;refine V.bn 44 (ngB s) (fun hd=>?_) (fun hd=>?_)
   ·refine V.q ?_;refine V.s 2 (.one (.int .i64 (IntKind.i64.wrap (0 - (n:Int))))) (.one (.int .i64 (inV' (ngB s) t))) (fun _=>by
     unfold inV';rw [hv,hd,show IntKind.i64.wrap (0 - (n:Int))=-(n:Int) by simp [IntKind.wrap,IntKind.bits,IntKind.signed]; omega];rfl) ?_
    exact V.z
   ·refine V.q ?_;refine V.s 2 (.one (.int .i64 (n:Int))) (.one (.int .i64 (inV' (ngB s) t))) (fun _=>by
     unfold inV';rw [hv,hd];rfl) ?_
    exact V.z
theorem rInt_inV (s:List UInt8):rInt s=inV' (ngB s) (bif ngB s then (s.take s.length).drop 1 else s):=by
 cases s with
 | nil=>rfl
 | cons c r =>
  have e:ngB (c::r)=((c.toNat:Int)==45):=rfl;have e2:((c::r).take (c::r).length).drop 1=r:=by rw [List.take_length]; rfl
  rw [e2];unfold rInt inV';by_cases h:c=45
  ·have hb:ngB (c::r)=true:=by rw [e,h]; rfl
   rw [hb,if_pos (by rw [h]; rfl),cond_true];show (match rIntL 11 r 0 with | some n=>_ | none=>_)=_;cases rIntL 11 r 0<;>rfl
  ·have hb:ngB (c::r)=false:=by
    rw [e,beq_eq_false_iff_ne];intro h2;exact h (UInt8.toNat_inj.1 (show c.toNat=45 by omega))
   rw [hb,if_neg (by intro h2; exact h (Option.some.inj h2)),cond_false];show (match rIntL 11 (c::r) 0 with | some n=>_ | none=>_)=_;cases rIntL 11 (c::r) 0<;>rfl
theorem cIntR (s:List UInt8) (hs:s.length≤1000000000):CallsK Tryz.prog 130 [.one (.str s)] noF (fun _:Unit=>True) (fun _=>.v (.one (.int .i64 (rInt s)))) (fun _=>noF):=by
 rw [rInt_inV];exact cIntR0 s _ hs _ rfl rfl
noncomputable def sIntR:Con Tryz.prog:=Con.s1 130 [] (fun s=>(.v (.one (.int .i64 (rInt s))),[s.length≤1000000000])) (fun s ρ w hob hp =>
 CallsK.gives (cIntR s (hob _ (List.mem_singleton.2 rfl))) ⟨rfl,rfl,rfl⟩ (fun _ _=>rfl) ρ w hp)
noncomputable def aBehR:Con Tryz.prog:=Con.auto Tryz.func131 true [] [] kq kq
noncomputable def sBehR:Con Tryz.prog:=aBehR.as (fun xs=>match xs with
  | [.one (.str s)]=>some (.v (.one (.str (s.drop 1))),[])
  | _=>none) (by
 intro xs v ob h hob;split at h
 ·rename_i s;simp only [Option.some.injEq,Prod.mk.injEq] at h;obtain ⟨rfl,rfl⟩:=h;refine ⟨.v (.one (.str (bif s==[] then [] else (s.take s.length).drop 1))),[(s==[])=false→(0:Int)≤1∧(1:Int)≤s.length∧(s.length:Int)≤s.length],kq,?_,fun ρ=>?_⟩
  ·intro p hp;rw [List.mem_singleton.1 hp];intro h;cases s with
   | nil=>cases h
   | cons c s=>simp only [List.length_cons]; omega
  ·cases s with
   | nil=>rfl
   | cons c s=>rw [List.take_length]; rfl
 ·cases h)
noncomputable def aDigR:Con Tryz.prog:=Con.auto Tryz.func240 true [] [] kq kq
noncomputable def aUnrR:Con Tryz.prog:=Con.auto Tryz.func129 true [⟨sBehR,[]⟩,⟨sIntR,[]⟩] [] kq kq
noncomputable def sUnrR:Con Tryz.prog:=aUnrR.as (fun xs=>match xs with
  | [.one (.str s)]=>some (.v (.one (.int .i64 (rRegN s))),[s.length≤1000000000])
  | _=>none) (by
 intro xs v ob h hob;split at h
 ·rename_i s;simp only [Option.some.injEq,Prod.mk.injEq] at h;obtain ⟨rfl,rfl⟩:=h;have hs:=hob _ (List.mem_singleton.2 rfl);refine ⟨.v (.one (.int .i64 (bif s==[45] then -1 else rInt (s.drop 1)))),[(s==[45])=false→(s.drop 1).length≤1000000000],kq,?_,fun ρ=>?_⟩
  ·intro p hp;rw [List.mem_singleton.1 hp,List.length_drop];intro _;omega
  ·unfold rRegN;cases s==[45]<;>rfl
 ·cases h)
theorem cAtR (l:List (List UInt8)) (q:Option Addr) (k i:Nat) (hl:l.length≤2000000000):CallsK Tryz.prog 132 [.one (.val (.slice q l.length k)),.one (.int .i64 (i:Int))] (psOf [rowP (rowL strS [] l q k 9 1 false)]) (fun _:Unit=>True)
  (fun _=>.v (.one (.str (l.getD i [])))) (fun _=>noF):=by
 refine CallsK.m true Tryz.func132 (fun ρ w=>?_);refine V.q ?_;refine V.bn 8 (decide ((i:Int)≥(l.length:Int))) (fun hb=>?_) (fun hb=>?_)
 ·have hge:l.length≤i:=by have:=of_decide_eq_true hb; omega
  refine V.q ?_;refine V.s 4 (.one (.str [])) (.one (.str (l.getD i []))) (fun _=>by rw [List.getD,List.getElem?_eq_none hge]; rfl) ?_;exact V.z
 ·have hlt:i<l.length:=by have:=of_decide_eq_false hb; omega
  refine V.q ?_;refine V.ar 9 0 (rowL strS [] l q k 9 1 false) ?_;refine V.t [] [(0:Int)≤i∧(i:Int)<l.length] ⟨by omega,by omega⟩ ?_;exact V.z
noncomputable def sAtR (l:List (List UInt8)) (q:Option Addr) (k:Nat) (hl:l.length≤2000000000):Con Tryz.prog where
 f:=132
 need:=[rowP (rowL strS [] l q k 9 1 false)]
 fn:=fun xs=>match xs with
  | [.one (.val v),.one (.int .i64 n)]=>some (.v (.one (.str (l.getD n.toNat []))),[v=.slice q l.length k∧0≤n])
  | _=>none
 ok:=by
  intro xs v ob h hob ρ w hp hlt;clear hlt;split at h
  ·rename_i v0 n;simp only [Option.some.injEq,Prod.mk.injEq] at h;obtain ⟨rfl,rfl⟩:=h;obtain ⟨rfl,hn⟩:=hob _ (List.mem_singleton.2 rfl);have h:=CallsK.gives (cAtR l q k n.toNat hl) ⟨rfl,rfl,rfl⟩ (fun _ _=>rfl) ρ w hp;rw [Int.toNat_of_nonneg hn] at h;exact h
  ·cases h
def dgI (n:Int):Int:=bif decide (n≥97) then IntKind.u8.wrap (IntKind.u8.wrap (n - 97)+10) else IntKind.u8.wrap (n - 48)
theorem dg_all:∀ n:Fin 256,dgI (n.val:Int)=((digR (UInt8.ofNat n.val)).toNat:Int):=by decide +kernel
theorem dgI_eq (c:UInt8):dgI (c.toNat:Int)=((digR c).toNat:Int):=by
 have:=dg_all ⟨c.toNat,c.toNat_lt⟩
 rwa [show UInt8.ofNat c.toNat=c from UInt8.ofNat_toNat] at this
theorem dg_two (a b:UInt8):IntKind.u8.wrap (IntKind.u8.wrap (dgI (a.toNat:Int)*16)+dgI (b.toNat:Int))=((digR a*16+digR b).toNat:Int):=by
 rw [dgI_eq,dgI_eq,UInt8.toNat_add,UInt8.toNat_mul];simp [IntKind.wrap,IntKind.bits,IntKind.signed]
structure UnI where
 l:List UInt8
 q:Option Addr
 k:Nat
 i:Nat
def unSt (s:List UInt8) (j:UnI):St :=
 { n:=28,slots:=[(0,.v (.one (.str s))),(2,.v (.one (.str []))),(3,.v (.one (.row 0 j.q j.l.length j.k))),(4,.v (.one (.int .i64 (j.i:Int))))],gs:=[],heap:=[],next:=0,
    rows:=[(0,rowL bsv 0 j.l j.q j.k 5 1 true)],nr:=1,pers:=[],wr:=true,fx:=0 }
theorem unhR_step {s:List UInt8} {i:Nat} (h:i+1<s.length):unhR (s.drop i)=(digR (s.getD i 0)*16+digR (s.getD (i+1) 0))::unhR (s.drop (i+2)):=by
 rw [List.drop_eq_getElem_cons (by omega:i<s.length),List.drop_eq_getElem_cons h,List.getD,List.getElem?_eq_getElem (by omega:i<s.length),List.getD,List.getElem?_eq_getElem h];rfl
theorem unhR_end {s:List UInt8} {i:Nat} (h:s.length≤i+1):unhR (s.drop i)=[]:=by
 have:(s.drop i).length≤1:=by rw [List.length_drop]; omega
 match s.drop i,this with
 | [],_=>rfl
 | [_],_=>rfl
set_option maxHeartbeats 1000000 in
theorem cUnhR (s:List UInt8) (hs:s.length≤1000000000):CallsK Tryz.prog 134 [.one (.str s)] noF (fun _:Unit=>True) (fun _=>.v (.one (.str (unhR (s.drop 1))))) (fun _=>noF):=by
 refine CallsK.m true Tryz.func134 (fun ρ w=>?_);refine V.q ?_;refine V.nilL bsv 0 3 5 1 kq kq ?_;refine V.loopK [0,2,3,4] [] (fun j:UnI=>s.length+2 - j.i) (unSt s) (fun j=>j.i≤s.length+1∧j.l.length≤j.i∧unhR (s.drop 1)=j.l++unhR (s.drop j.i)) ⟨[],none,0,1⟩ kq ⟨by simp only; omega,Nat.zero_le _,rfl⟩ (fun j hj ih=>?_);obtain ⟨l,q,k,i⟩:=j;obtain ⟨hi,hl,hu⟩:=hj;simp only at hi hl hu;refine V.iter ?_;refine V.q ?_;refine V.bn 9 (decide (IntKind.i64.wrap ((i:Int)+1)<s.length)) (fun hc=>?_) (fun hc=>?_)
 ·have hw:IntKind.i64.wrap ((i:Int)+1)=((i+1:Nat):Int):=wrap_up (by omega);rw [hw,decide_eq_true_eq] at hc;have hlt:i+1<s.length:=by omega
  have h1:(0:Int)≤i∧(i:Int)<s.length:=⟨by omega,by omega⟩;have h2:(0:Int)≤IntKind.i64.wrap ((i:Int)+1)∧IntKind.i64.wrap ((i:Int)+1)<s.length:=by rw [hw]; exact ⟨by omega,by omega⟩
  have hx:bsv (digR (s.getD i 0)*16+digR (s.getD (i+1) 0))=[.int .u8 (IntKind.u8.wrap (IntKind.u8.wrap (dgI ((s.getD (i:Int).toNat 0).toNat:Int)*16)+dgI ((s.getD (IntKind.i64.wrap ((i:Int)+1)).toNat 0).toNat:Int)))]:=by
   rw [hw,Int.toNat_natCast,Int.toNat_natCast,dg_two]; rfl
  refine V.q ?_;refine V.drawX [] [0] 14 kq ?_;refine @VX.run _ [] [0] 14 _ _ ([aDigR.e]:List (Ent Tryz.prog)) [(0:Int)≤i∧(i:Int)<s.length,(0:Int)≤IntKind.i64.wrap ((i:Int)+1)∧IntKind.i64.wrap ((i:Int)+1)<s.length] kq kq ⟨h1,h2⟩ ?_;refine @VX.push _ [] [0] 14 _ _ _ bsv 0 l (digR (s.getD i 0)*16+digR (s.getD (i+1) 0)) 0 q k 5 1 [.int .u8 (IntKind.u8.wrap (IntKind.u8.wrap (dgI ((s.getD (i:Int).toNat 0).toNat:Int)*16)+dgI ((s.getD (IntKind.i64.wrap ((i:Int)+1)).toNat 0).toNat:Int)))] 1 kq kq kq (by omega) hx (fun _ _=>kq) (fun q' k'=>?_);refine @VX.run _ [] [0] 14 _ _ ([]:List (Ent Tryz.prog)) [] kq kq trivial ?_;refine @VX.stop _ [] [0] 14 _ _ kq ?_;refine V.q ?_;refine V.s 4 (.one (.int .i64 (IntKind.i64.wrap ((i:Int)+2)))) (.one (.int .i64 ((i+2:Nat):Int))) (fun _=>by rw [wrap_n2 (by omega)]) ?_;exact V.againK [0,2,3,4] [] (ih ⟨l++[digR (s.getD i 0)*16+digR (s.getD (i+1) 0)],q',k',i+2⟩ ⟨by simp only; omega,by simp only [List.length_append,List.length_singleton]; omega,by simp only; rw [hu,unhR_step hlt,List.append_assoc]; rfl⟩ (by simp only; omega)) kq kq
 ·have hw:IntKind.i64.wrap ((i:Int)+1)=((i+1:Nat):Int):=wrap_up (by omega);rw [hw,decide_eq_false_iff_not] at hc;rw [unhR_end (i:=i) (by omega),List.append_nil] at hu;refine V.q ?_;refine V.toStr l 0 q k 5 true kq kq ?_;refine V.q ?_;rw [hu];exact V.z
noncomputable def sUnhR:Con Tryz.prog:=Con.s1 134 [] (fun s=>(.v (.one (.str (unhR (s.drop 1)))),[s.length≤1000000000])) (fun s ρ w hob hp =>
 CallsK.gives (cUnhR s (hob _ (List.mem_singleton.2 rfl))) ⟨rfl,rfl,rfl⟩ (fun _ _=>rfl) ρ w hp)
theorem rAt_len (c:UInt8) (s:List UInt8) (i:Nat):(rAt c s i).length≤s.length:=by
 unfold rAt;rw [List.getD];cases e:(splitC c s)[i]? with
 | none=>simp
 | some p=>exact splitC_elm c s p (List.mem_of_getElem? e)
theorem sp_len {c:UInt8} {s:List UInt8} (hs:s.length≤1000000000):(splitC c s).length≤2000000000:=Nat.le_trans (splitC_len c s) (by omega)
def aO (y:Option Addr×Nat) (l:List (List UInt8)) (n:Int):Prop:=Value.slice y.1 l.length y.2=Value.slice y.1 l.length y.2∧0≤n
theorem cTyR (s:List UInt8) (hs:s.length≤1000000000):CallsK Tryz.prog 133 [.one (.str s)] noF (fun _:Unit=>True) (fun _=>.v (.agg ((rTyV s).cells))) (fun _=>noF):=by
 have hl:=fun i=>Nat.le_trans (rAt_len 44 s i) hs;refine CallsK.m true Tryz.func133 (fun ρ w=>?_);refine V.q ?_;refine V.c [] (cCut s 44 hs) (fun y _=>?_);refine V.persAs [(0,true)] [rowP (rowL strS [] (splitC 44 s) y.1 y.2 9 1 false)] (rowP (rowL strS [] (splitC 44 s) y.1 y.2 9 1 false)) kq (fun k hk=>⟨_,List.mem_singleton.2 rfl,hk⟩) (fun w hw=>hw _ (List.mem_singleton.2 rfl)) (rowP_stab _) ?_;refine V.runT [⟨sAtR (splitC 44 s) y.1 y.2 (sp_len hs),[1]⟩,⟨sIntR,[]⟩,⟨sUnhR,[]⟩] [aO y (splitC 44 s) 0,(rAt 44 s 0).length≤1000000000,aO y (splitC 44 s) 1,(rAt 44 s 1).length≤1000000000,aO y (splitC 44 s) 2,(rAt 44 s 2).length≤1000000000,aO y (splitC 44 s) 3,aO y (splitC 44 s) 4,(rAt 44 s 4).length≤1000000000]
  kq kq ⟨⟨rfl,by decide⟩,hl 0,⟨rfl,by decide⟩,hl 1,⟨rfl,by decide⟩,hl 2,⟨rfl,by decide⟩,⟨rfl,by decide⟩,hl 4⟩ ?_
 exact V.z
noncomputable def sTyR:Con Tryz.prog:=Con.s1 133 [] (fun s=>(.v (.agg ((rTyV s).cells)),[s.length≤1000000000])) (fun s ρ w hob hp =>
 CallsK.gives (cTyR s (hob _ (List.mem_singleton.2 rfl))) ⟨rfl,rfl,rfl⟩ (fun _ _=>rfl) ρ w hp)
def rwF (x:In) (A:IA):St:={ psF [] x A with heap:=[],next:=0 }
def TnK (f:Fl) (s:List UInt8) (x:In) (A:IA):Prop:=CallsK Tryz.prog 67 [.agg (inO x A),.one (.int .u8 (f.ch.toNat:Int)),.one (.str s)] (rwF x A) (fun y:In×IA=>y.1=f.tkn s x) (fun y=>.v (.agg (inO y.1 y.2))) (fun y=>rwF y.1 y.2)
theorem tn_D (s:List UInt8) (hs:s.length≤1000000000) (x:In) (A:IA):TnK .D s x A:=by
 refine CallsK.m true Tryz.func67 (fun ρ w=>?_);refine V.rc [⟨sUnrR,[]⟩] 60 [s.length≤1000000000] hs ?_;exact V.e ((Fl.tkn .D s x,A):In×IA) [] rfl
theorem tn_A (s:List UInt8) (hs:s.length≤1000000000) (x:In) (A:IA):TnK .A s x A:=by
 refine CallsK.m true Tryz.func67 (fun ρ w=>?_);refine V.rc [⟨sUnrR,[]⟩] 60 [s.length≤1000000000] hs ?_;exact V.e ((Fl.tkn .A s x,A):In×IA) [] rfl
theorem tn_B (s:List UInt8) (hs:s.length≤1000000000) (x:In) (A:IA):TnK .B s x A:=by
 refine CallsK.m true Tryz.func67 (fun ρ w=>?_);refine V.rc [⟨sUnrR,[]⟩] 60 [s.length≤1000000000] hs ?_;exact V.e ((Fl.tkn .B s x,A):In×IA) [] rfl
theorem tn_N (s:List UInt8) (hs:s.length≤1000000000) (x:In) (A:IA):TnK .N s x A:=by
 refine CallsK.m true Tryz.func67 (fun ρ w=>?_);refine V.rc [⟨sIntR,[]⟩] 60 [s.length≤1000000000] hs ?_;exact V.e ((Fl.tkn .N s x,A):In×IA) [] rfl
theorem tn_M (s:List UInt8) (hs:s.length≤1000000000) (x:In) (A:IA):TnK .M s x A:=by
 refine CallsK.m true Tryz.func67 (fun ρ w=>?_);refine V.rc [⟨sIntR,[]⟩] 60 [s.length≤1000000000] hs ?_;exact V.e ((Fl.tkn .M s x,A):In×IA) [] rfl
theorem tn_P (s:List UInt8) (hs:s.length≤1000000000) (x:In) (A:IA):TnK .P s x A:=by
 refine CallsK.m true Tryz.func67 (fun ρ w=>?_);refine V.rc [⟨sIntR,[]⟩] 60 [s.length≤1000000000] hs ?_;exact V.e ((Fl.tkn .P s x,A):In×IA) [] rfl
theorem tn_T (s:List UInt8) (hs:s.length≤1000000000) (x:In) (A:IA):TnK .T s x A:=by
 refine CallsK.m true Tryz.func67 (fun ρ w=>?_);refine V.rc [⟨sTyR,[]⟩] 60 [s.length≤1000000000] hs ?_;exact V.e ((Fl.tkn .T s x,A):In×IA) [] rfl
theorem tn_U (s:List UInt8) (hs:s.length≤1000000000) (x:In) (A:IA):TnK .U s x A:=by
 refine CallsK.m true Tryz.func67 (fun ρ w=>?_);refine V.rc [⟨sTyR,[]⟩] 60 [s.length≤1000000000] hs ?_;exact V.e ((Fl.tkn .U s x,A):In×IA) [] rfl
theorem tn_W (s:List UInt8) (hs:s.length≤1000000000) (x:In) (A:IA):TnK .W s x A:=by
 refine CallsK.m true Tryz.func67 (fun ρ w=>?_);refine V.rc [⟨sTyR,[]⟩] 60 [s.length≤1000000000] hs ?_;exact V.e ((Fl.tkn .W s x,A):In×IA) [] rfl
theorem tn_Sz (s:List UInt8) (hs:s.length≤1000000000) (x:In) (A:IA):TnK .Sz s x A:=by
 refine CallsK.m true Tryz.func67 (fun ρ w=>?_);refine V.rc [] 60 [] trivial ?_;exact V.e ((Fl.tkn .Sz s x,A):In×IA) [] rfl
theorem tn_Rg (s:List UInt8) (hs:s.length≤1000000000) (x:In) (A:IA):TnK .Rg s x A:=by
 refine CallsK.m true Tryz.func67 (fun ρ w=>?_);refine V.rc [] 60 [] trivial ?_;exact V.e ((Fl.tkn .Rg s x,A):In×IA) [] rfl
theorem tn_aN (s:List UInt8) (hs:s.length≤1000000000) (x:In) (A:IA):TnK .aN s x A:=by
 have hd:(s.drop 1).length≤1000000000:=by rw [List.length_drop]; omega
 refine CallsK.m true Tryz.func67 (fun ρ w=>?_);refine V.rc [⟨sBehR,[]⟩,⟨sIntR,[]⟩] 60 [(s.drop 1).length≤1000000000] hd ?_;exact V.e ((Fl.tkn .aN s x,A):In×IA) [] rfl
theorem tn_pN (s:List UInt8) (hs:s.length≤1000000000) (x:In) (A:IA):TnK .pN s x A:=by
 have hd:(s.drop 1).length≤1000000000:=by rw [List.length_drop]; omega
 refine CallsK.m true Tryz.func67 (fun ρ w=>?_);refine V.rc [⟨sBehR,[]⟩,⟨sIntR,[]⟩] 60 [(s.drop 1).length≤1000000000] hd ?_;exact V.e ((Fl.tkn .pN s x,A):In×IA) [] rfl
theorem tn_aM (s:List UInt8) (hs:s.length≤1000000000) (x:In) (A:IA):TnK .aM s x A:=by
 have hd:(s.drop 1).length≤1000000000:=by rw [List.length_drop]; omega
 refine CallsK.m true Tryz.func67 (fun ρ w=>?_);refine V.rc [⟨sBehR,[]⟩,⟨sIntR,[]⟩] 60 [(s.drop 1).length≤1000000000] hd ?_;exact V.e ((Fl.tkn .aM s x,A):In×IA) [] rfl
theorem tn_pM (s:List UInt8) (hs:s.length≤1000000000) (x:In) (A:IA):TnK .pM s x A:=by
 have hd:(s.drop 1).length≤1000000000:=by rw [List.length_drop]; omega
 cases h:s==[33,45] with
 | true =>
  have e:Sel.set .M x (-1)=Fl.tkn .pM s x:=by show _=Sel.set .M x (if _ then _ else _); rw [if_pos h]
  refine CallsK.m true Tryz.func67 (fun ρ w=>?_);refine V.rc [] 11 [] trivial ?_;refine V.q ?_;refine V.kn 138 (!(s==[33,45])) false (by rw [h]; rfl) ?_;refine V.q ?_;exact V.e ((Sel.set .M x (-1),A):In×IA) [] e
 | false =>
  have e:Sel.set .M x (rInt (s.drop 1))=Fl.tkn .pM s x:=by show _=Sel.set .M x (if _ then _ else _); rw [if_neg (by rw [h]; decide)]
  refine CallsK.m true Tryz.func67 (fun ρ w=>?_);refine V.rc [] 11 [] trivial ?_;refine V.q ?_;refine V.kn 138 (!(s==[33,45])) true (by rw [h]; rfl) ?_;refine V.t [⟨sBehR,[]⟩,⟨sIntR,[]⟩] [(s.drop 1).length≤1000000000] hd ?_;exact V.e ((Sel.set .M x (rInt (s.drop 1)),A):In×IA) [] e
theorem tn_V (s:List UInt8) (hs:s.length≤1000000000) (x:In) (A:IA):TnK .V s x A:=by
 have hl:=fun i=>Nat.le_trans (rAt_len 44 s i) hs;refine CallsK.m true Tryz.func67 (fun ρ w=>?_);refine V.rc [] 60 [] trivial ?_;refine V.c [] (cCut s 44 hs) (fun y _=>?_);refine V.persAs [(0,true)] [rowP (rowL strS [] (splitC 44 s) y.1 y.2 9 1 false)] (rowP (rowL strS [] (splitC 44 s) y.1 y.2 9 1 false)) kq (fun k hk=>⟨_,List.mem_singleton.2 rfl,hk⟩) (fun w hw=>hw _ (List.mem_singleton.2 rfl)) (rowP_stab _) ?_;refine V.rc [⟨sAtR (splitC 44 s) y.1 y.2 (sp_len hs),[1]⟩,⟨sIntR,[]⟩,⟨sUnhR,[]⟩] 60 [aO y (splitC 44 s) 0,(rAt 44 s 0).length≤1000000000,aO y (splitC 44 s) 1,(rAt 44 s 1).length≤1000000000] ⟨⟨rfl,by decide⟩,hl 0,⟨rfl,by decide⟩,hl 1⟩ ?_;exact V.e ((Fl.tkn .V s x,A):In×IA) [] rfl
theorem tn_far (s:List UInt8) (hs:s.length≤1000000000) (x:In) (A:IA):TnK .far s x A:=by
 have hd:(s.drop 1).length≤1000000000:=by rw [List.length_drop]; omega
 have hl:=fun i=>Nat.le_trans (rAt_len 64 (s.drop 1) i) hd;refine CallsK.m true Tryz.func67 (fun ρ w=>?_);refine V.rc [⟨sBehR,[]⟩] 60 [] trivial ?_;refine V.c [] (cCut (s.drop 1) 64 hd) (fun y _=>?_);refine V.persAs [(0,true)] [rowP (rowL strS [] (splitC 64 (s.drop 1)) y.1 y.2 9 1 false)] (rowP (rowL strS [] (splitC 64 (s.drop 1)) y.1 y.2 9 1 false)) kq (fun k hk=>⟨_,List.mem_singleton.2 rfl,hk⟩) (fun w hw=>hw _ (List.mem_singleton.2 rfl)) (rowP_stab _) ?_;refine V.rc [⟨sAtR (splitC 64 (s.drop 1)) y.1 y.2 (sp_len hd),[1]⟩,⟨sIntR,[]⟩] 60 [aO y (splitC 64 (s.drop 1)) 0,(rAt 64 (s.drop 1) 0).length≤1000000000,aO y (splitC 64 (s.drop 1)) 1,(rAt 64 (s.drop 1) 1).length≤1000000000] ⟨⟨rfl,by decide⟩,hl 0,⟨rfl,by decide⟩,hl 1⟩ ?_;exact V.e ((Fl.tkn .far s x,A):In×IA) [] rfl
theorem mid_len (s:List UInt8) (hs:s.length≤1000000000):(rMid s).length≤1000000000:=by unfold rMid; rw [List.length_drop,List.length_take]; omega
structure TnI where
 x:In
 A:IA
 i:Nat
def tnSt (f:Fl) (ws:List (List UInt8)) (y:Option Addr×Nat) (j:TnI):St :=
 { n:=181,slots:=[(1,.v (.one (.int .u8 (f.ch.toNat:Int)))),(3,.v (.one (.ptr 0 0))),(6,.v (.one (.ptr 1 0))),(9,.v (.one (.row 3 y.1 ws.length y.2))),(10,.v (.one (.int .i64 (j.i:Int))))],gs:=[],
    heap:=[(0,⟨inO j.x j.A,30,true⟩),(1,⟨inZ,30,true⟩)],next:=2,rows:=inRows j.x j.A++[(3,rowL strS [] ws y.1 y.2 9 1 false)],nr:=4,pers:=[],wr:=true,fx:=0 }
theorem mapTake {α:Type} (N:List UInt8→α) {ws:List (List UInt8)} {i:Nat} (h:i<ws.length):(ws.take (i+1)).map N=(ws.take i).map N++[N (ws.getD i [])]:=by
 rw [List.take_add_one,List.getElem?_eq_getElem h,List.map_append,List.getD,List.getElem?_eq_getElem h]; rfl
theorem elm_len {ws:List (List UInt8)} {b:Nat} (hw:∀ w∈ws,w.length≤b) (i:Nat):(ws.getD i []).length≤b:=by
 rw [List.getD];cases e:ws[i]? with
 | none=>exact Nat.zero_le _
 | some p=>exact hw p (List.mem_of_getElem? e)
theorem mid_wrap {s:List UInt8} (hs:s.length≤1000000000) (h:¬ (s.length:Int)≤2):IntKind.i64.wrap ((s.length:Int) - 1)=((s.length - 1:Nat):Int):=by
 simp [IntKind.wrap,IntKind.bits,IntKind.signed];omega
set_option maxHeartbeats 2000000 in
theorem tn_L (s:List UInt8) (hs:s.length≤1000000000) (x:In) (A:IA) (hx:x.okM):TnK .L s x A:=by
 have hwl:(splitC 59 (rMid s)).length≤1000000001:=Nat.le_trans (splitC_len 59 (rMid s)) (by have:=mid_len s hs; omega);have hwe:∀ w∈splitC 59 (rMid s),w.length≤1000000000:=fun w hw=>Nat.le_trans (splitC_elm 59 (rMid s) w hw) (mid_len s hs);have hxl:x.l.length≤1000000:=hx.2.1;refine CallsK.m true Tryz.func67 (fun ρ w=>?_);refine V.rc [] 17 [] trivial ?_;refine V.q ?_;refine V.bn 15 (decide ((s.length:Int)≤2)) (fun hc=>?_) (fun hc=>?_)
 ·have e:x=Fl.tkn .L s x:=by
   show x={ x with l:=rLst rRegN x.l s };unfold rLst;rw [if_pos (by have:=of_decide_eq_true hc; omega)]
  refine V.q ?_;exact V.e ((x,A):In×IA) [] e
 ·have hn:=of_decide_eq_false hc;have hw:=mid_wrap hs hn;have e:Fl.tkn .L s x={ x with l:=x.l++(splitC 59 (rMid s)).map rRegN }:=by
   show { x with l:=rLst rRegN x.l s }=_;unfold rLst;rw [if_neg (by omega)]
  refine V.t [] [(0:Int)≤1∧(1:Int)≤IntKind.i64.wrap ((s.length:Int) - 1)∧IntKind.i64.wrap ((s.length:Int) - 1)≤s.length] (by rw [hw]; exact ⟨by decide,by omega,by omega⟩) ?_;refine V.s 21 (.one (.str ((s.take (IntKind.i64.wrap ((s.length:Int) - 1)).toNat).drop 1))) (.one (.str (rMid s))) (fun _=>by rw [hw,Int.toNat_natCast]; rfl) ?_;refine V.c [] (cCut (rMid s) 59 (mid_len s hs)) (fun y _=>?_);generalize splitC 59 (rMid s)=ws at hwl hwe e;refine V.persAs [(0,true)] [rowP (rowL strS [] ws y.1 y.2 9 1 false)] (rowP (rowL strS [] ws y.1 y.2 9 1 false)) kq (fun k hk=>⟨_,List.mem_singleton.2 rfl,hk⟩) (fun w hw=>hw _ (List.mem_singleton.2 rfl)) (rowP_stab _) ?_;refine V.q ?_;refine V.ar 9 0 (rowL strS [] ws y.1 y.2 9 1 false) ?_;refine V.loopK [1,3,6,9,10] [] (fun j:TnI=>ws.length - j.i) (tnSt .L ws y) (fun j=>j.i≤ws.length∧j.x={ x with l:=x.l++(ws.take j.i).map rRegN }) ⟨x,A,0⟩ kq ⟨Nat.zero_le _,by simp only [List.take_zero,List.map_nil,List.append_nil]⟩ (fun j hj ih=>?_);obtain ⟨x2,A2,i⟩:=j;obtain ⟨hi,hx2⟩:=hj;simp only at hi hx2;have hl2:x2.l.length=x.l.length+i:=by rw [hx2]; simp only [List.length_append,List.length_map,List.length_take,Nat.min_eq_left hi]
  have hwn:=elm_len hwe i;refine V.iter ?_;refine V.q ?_;refine V.bn 26 (decide ((i:Int)<(ws.length:Int))) (fun hd=>?_) (fun hd=>?_)
  ·have hlt:i<ws.length:=by have:=of_decide_eq_true hd; omega
   have hix:(0:Int)≤i∧(i:Int)<ws.length:=⟨by omega,by omega⟩;refine V.rc [] 2 [] trivial ?_;refine V.drawX [] [1] 10 kq ?_;refine @VX.run _ [] [1] 10 _ _ ([⟨sUnrR,[]⟩]:List (Ent Tryz.prog)) [(0:Int)≤i∧(i:Int)<ws.length,(ws.getD (i:Int).toNat []).length≤1000000000] kq kq ⟨hix,hwn⟩ ?_;refine @VX.push _ [] [1] 10 _ _ _ intv 0 x2.l (rRegN (ws.getD (i:Int).toNat [])) 1 A2.ql A2.cl 3 1 (intv (rRegN (ws.getD (i:Int).toNat []))) 8 kq kq kq (by rw [hl2]; omega) rfl (fun _ _=>kq) (fun q' k'=>?_);refine @VX.run _ [] [1] 10 _ _ ([]:List (Ent Tryz.prog)) [] kq kq trivial ?_;refine @VX.stop _ [] [1] 10 _ _ kq ?_;refine V.rc [] 3 [] trivial ?_;refine V.up 10 i (by omega) ?_;exact V.againK [1,3,6,9,10] [] (ih ⟨{ x2 with l:=x2.l++[rRegN (ws.getD (i:Int).toNat [])] },{ A2 with ql:=q',cl:=k' },i+1⟩ ⟨hlt,by simp only; rw [hx2,mapTake rRegN hlt,← List.append_assoc]; rfl⟩ (by simp only; omega)) kq kq
  ·have hge:i=ws.length:=by have:=of_decide_eq_false hd; omega
   rw [hge,List.take_length] at hx2;refine V.q ?_;exact V.e ((x2,A2):In×IA) [] (hx2.trans e.symm)
set_option maxHeartbeats 2000000 in
theorem tn_Y (s:List UInt8) (hs:s.length≤1000000000) (x:In) (A:IA) (hx:x.okM):TnK .Y s x A:=by
 have hwl:(splitC 59 (rMid s)).length≤1000000001:=Nat.le_trans (splitC_len 59 (rMid s)) (by have:=mid_len s hs; omega);have hwe:∀ w∈splitC 59 (rMid s),w.length≤1000000000:=fun w hw=>Nat.le_trans (splitC_elm 59 (rMid s) w hw) (mid_len s hs);have hxl:x.y.length≤1000000:=hx.2.2;refine CallsK.m true Tryz.func67 (fun ρ w=>?_);refine V.rc [] 17 [] trivial ?_;refine V.q ?_;refine V.bn 15 (decide ((s.length:Int)≤2)) (fun hc=>?_) (fun hc=>?_)
 ·have e:x=Fl.tkn .Y s x:=by
   show x={ x with y:=rLst rTyV x.y s };unfold rLst;rw [if_pos (by have:=of_decide_eq_true hc; omega)]
  refine V.q ?_;exact V.e ((x,A):In×IA) [] e
 ·have hn:=of_decide_eq_false hc;have hw:=mid_wrap hs hn;have e:Fl.tkn .Y s x={ x with y:=x.y++(splitC 59 (rMid s)).map rTyV }:=by
   show { x with y:=rLst rTyV x.y s }=_;unfold rLst;rw [if_neg (by omega)]
  refine V.t [] [(0:Int)≤1∧(1:Int)≤IntKind.i64.wrap ((s.length:Int) - 1)∧IntKind.i64.wrap ((s.length:Int) - 1)≤s.length] (by rw [hw]; exact ⟨by decide,by omega,by omega⟩) ?_;refine V.s 21 (.one (.str ((s.take (IntKind.i64.wrap ((s.length:Int) - 1)).toNat).drop 1))) (.one (.str (rMid s))) (fun _=>by rw [hw,Int.toNat_natCast]; rfl) ?_;refine V.c [] (cCut (rMid s) 59 (mid_len s hs)) (fun y _=>?_);generalize splitC 59 (rMid s)=ws at hwl hwe e;refine V.persAs [(0,true)] [rowP (rowL strS [] ws y.1 y.2 9 1 false)] (rowP (rowL strS [] ws y.1 y.2 9 1 false)) kq (fun k hk=>⟨_,List.mem_singleton.2 rfl,hk⟩) (fun w hw=>hw _ (List.mem_singleton.2 rfl)) (rowP_stab _) ?_;refine V.q ?_;refine V.ar 9 0 (rowL strS [] ws y.1 y.2 9 1 false) ?_;refine V.loopK [1,3,6,9,10] [] (fun j:TnI=>ws.length - j.i) (tnSt .Y ws y) (fun j=>j.i≤ws.length∧j.x={ x with y:=x.y++(ws.take j.i).map rTyV }) ⟨x,A,0⟩ kq ⟨Nat.zero_le _,by simp only [List.take_zero,List.map_nil,List.append_nil]⟩ (fun j hj ih=>?_);obtain ⟨x2,A2,i⟩:=j;obtain ⟨hi,hx2⟩:=hj;simp only at hi hx2;have hl2:x2.y.length=x.y.length+i:=by rw [hx2]; simp only [List.length_append,List.length_map,List.length_take,Nat.min_eq_left hi]
  have hwn:=elm_len hwe i;refine V.iter ?_;refine V.q ?_;refine V.bn 26 (decide ((i:Int)<(ws.length:Int))) (fun hd=>?_) (fun hd=>?_)
  ·have hlt:i<ws.length:=by have:=of_decide_eq_true hd; omega
   have hix:(0:Int)≤i∧(i:Int)<ws.length:=⟨by omega,by omega⟩;refine V.rc [] 3 [] trivial ?_;refine V.drawX [] [2] 10 kq ?_;refine @VX.run _ [] [2] 10 _ _ ([⟨sTyR,[]⟩]:List (Ent Tryz.prog)) [(0:Int)≤i∧(i:Int)<ws.length,(ws.getD (i:Int).toNat []).length≤1000000000] kq kq ⟨hix,hwn⟩ ?_;refine @VX.push _ [] [2] 10 _ _ _ Ty.cells ty0 x2.y (rTyV (ws.getD (i:Int).toNat [])) 2 A2.qy A2.cy 23 5 (Ty.cells (rTyV (ws.getD (i:Int).toNat []))) 48 kq kq kq (by rw [hl2]; omega) rfl (fun _ _=>kq) (fun q' k'=>?_);refine @VX.run _ [] [2] 10 _ _ ([]:List (Ent Tryz.prog)) [] kq kq trivial ?_;refine @VX.stop _ [] [2] 10 _ _ kq ?_;refine V.rc [] 2 [] trivial ?_;refine V.up 10 i (by omega) ?_;exact V.againK [1,3,6,9,10] [] (ih ⟨{ x2 with y:=x2.y++[rTyV (ws.getD (i:Int).toNat [])] },{ A2 with qy:=q',cy:=k' },i+1⟩ ⟨hlt,by simp only; rw [hx2,mapTake rTyV hlt,← List.append_assoc]; rfl⟩ (by simp only; omega)) kq kq
  ·have hge:i=ws.length:=by have:=of_decide_eq_false hd; omega
   rw [hge,List.take_length] at hx2;refine V.q ?_;exact V.e ((x2,A2):In×IA) [] (hx2.trans e.symm)
set_option maxHeartbeats 2000000 in
theorem tn_F (s:List UInt8) (hs:s.length≤1000000000) (x:In) (A:IA) (hx:x.okM):TnK .F s x A:=by
 have hwl:(splitC 59 (rMid s)).length≤1000000001:=Nat.le_trans (splitC_len 59 (rMid s)) (by have:=mid_len s hs; omega);have hwe:∀ w∈splitC 59 (rMid s),w.length≤1000000000:=fun w hw=>Nat.le_trans (splitC_elm 59 (rMid s) w hw) (mid_len s hs);have hxl:x.f.length≤1000000:=hx.1;refine CallsK.m true Tryz.func67 (fun ρ w=>?_);refine V.rc [] 17 [] trivial ?_;refine V.q ?_;refine V.bn 15 (decide ((s.length:Int)≤2)) (fun hc=>?_) (fun hc=>?_)
 ·have e:x=Fl.tkn .F s x:=by
   show x={ x with f:=rLst rFmV x.f s };unfold rLst;rw [if_pos (by have:=of_decide_eq_true hc; omega)]
  refine V.q ?_;exact V.e ((x,A):In×IA) [] e
 ·have hn:=of_decide_eq_false hc;have hw:=mid_wrap hs hn;have e:Fl.tkn .F s x={ x with f:=x.f++(splitC 59 (rMid s)).map rFmV }:=by
   show { x with f:=rLst rFmV x.f s }=_;unfold rLst;rw [if_neg (by omega)]
  refine V.t [] [(0:Int)≤1∧(1:Int)≤IntKind.i64.wrap ((s.length:Int) - 1)∧IntKind.i64.wrap ((s.length:Int) - 1)≤s.length] (by rw [hw]; exact ⟨by decide,by omega,by omega⟩) ?_;refine V.s 21 (.one (.str ((s.take (IntKind.i64.wrap ((s.length:Int) - 1)).toNat).drop 1))) (.one (.str (rMid s))) (fun _=>by rw [hw,Int.toNat_natCast]; rfl) ?_;refine V.c [] (cCut (rMid s) 59 (mid_len s hs)) (fun y _=>?_);generalize splitC 59 (rMid s)=ws at hwl hwe e;refine V.persAs [(0,true)] [rowP (rowL strS [] ws y.1 y.2 9 1 false)] (rowP (rowL strS [] ws y.1 y.2 9 1 false)) kq (fun k hk=>⟨_,List.mem_singleton.2 rfl,hk⟩) (fun w hw=>hw _ (List.mem_singleton.2 rfl)) (rowP_stab _) ?_;refine V.q ?_;refine V.ar 9 0 (rowL strS [] ws y.1 y.2 9 1 false) ?_;refine V.loopK [1,3,6,9,10] [] (fun j:TnI=>ws.length - j.i) (tnSt .F ws y) (fun j=>j.i≤ws.length∧j.x={ x with f:=x.f++(ws.take j.i).map rFmV }) ⟨x,A,0⟩ kq ⟨Nat.zero_le _,by simp only [List.take_zero,List.map_nil,List.append_nil]⟩ (fun j hj ih=>?_);obtain ⟨x2,A2,i⟩:=j;obtain ⟨hi,hx2⟩:=hj;simp only at hi hx2;have hl2:x2.f.length=x.f.length+i:=by rw [hx2]; simp only [List.length_append,List.length_map,List.length_take,Nat.min_eq_left hi]
  have hwn:=elm_len hwe i;refine V.iter ?_;refine V.q ?_;refine V.bn 26 (decide ((i:Int)<(ws.length:Int))) (fun hd=>?_) (fun hd=>?_)
  ·have hlt:i<ws.length:=by have:=of_decide_eq_true hd; omega
   have hix:(0:Int)≤i∧(i:Int)<ws.length:=⟨by omega,by omega⟩;refine V.rc [] 4 [(0:Int)≤i∧(i:Int)<ws.length] hix ?_;refine V.c [] (cCut (ws.getD (i:Int).toNat []) 44 hwn) (fun z _=>?_);refine V.persAs [(0,true)] [rowP (rowL strS [] (splitC 44 (ws.getD (i:Int).toNat [])) z.1 z.2 9 1 false)] (rowP (rowL strS [] (splitC 44 (ws.getD (i:Int).toNat [])) z.1 z.2 9 1 false)) kq (fun k hk=>⟨_,List.mem_singleton.2 rfl,hk⟩) (fun w hw=>hw _ (List.mem_singleton.2 rfl)) (rowP_stab _) ?_;have hl:=fun k=>Nat.le_trans (rAt_len 44 (ws.getD (i:Int).toNat []) k) hwn;refine V.q ?_;refine V.drawX [] [0] 18 kq ?_;refine @VX.run _ [] [0] 18 _ _ ([⟨sAtR (splitC 44 (ws.getD (i:Int).toNat [])) z.1 z.2 (sp_len hwn),[1]⟩,⟨sIntR,[]⟩,⟨sUnhR,[]⟩]:List (Ent Tryz.prog)) [aO z (splitC 44 (ws.getD (i:Int).toNat [])) 0,(rAt 44 (ws.getD (i:Int).toNat []) 0).length≤1000000000,aO z (splitC 44 (ws.getD (i:Int).toNat [])) 1,(rAt 44 (ws.getD (i:Int).toNat []) 1).length≤1000000000,aO z (splitC 44 (ws.getD (i:Int).toNat [])) 2,(rAt 44 (ws.getD (i:Int).toNat []) 2).length≤1000000000,aO z (splitC 44 (ws.getD (i:Int).toNat [])) 3,(rAt 44 (ws.getD (i:Int).toNat []) 3).length≤1000000000] kq kq ⟨⟨rfl,by decide⟩,hl 0,⟨rfl,by decide⟩,hl 1,⟨rfl,by decide⟩,hl 2,⟨rfl,by decide⟩,hl 3⟩ ?_;refine @VX.push _ [] [0] 18 _ _ _ Fm.cells fm0 x2.f (rFmV (ws.getD (i:Int).toNat [])) 0 A2.qf A2.cf 93 4 (Fm.cells (rFmV (ws.getD (i:Int).toNat []))) 40 kq kq kq (by rw [hl2]; omega) rfl (fun _ _=>kq) (fun q' k'=>?_);refine @VX.run _ [] [0] 18 _ _ ([]:List (Ent Tryz.prog)) [] kq kq trivial ?_;refine @VX.stop _ [] [0] 18 _ _ kq ?_;refine V.rc [] 1 [] trivial ?_;refine V.up 10 i (by omega) ?_;exact V.againK [1,3,6,9,10] [] (ih ⟨{ x2 with f:=x2.f++[rFmV (ws.getD (i:Int).toNat [])] },{ A2 with qf:=q',cf:=k' },i+1⟩ ⟨hlt,by simp only; rw [hx2,mapTake rFmV hlt,← List.append_assoc]; rfl⟩ (by simp only; omega)) kq kq
  ·have hge:i=ws.length:=by have:=of_decide_eq_false hd; omega
   rw [hge,List.take_length] at hx2;refine V.q ?_;exact V.e ((x2,A2):In×IA) [] (hx2.trans e.symm)
theorem cTkn (f:Fl) (s:List UInt8) (hs:s.length≤1000000000) (x:In) (A:IA) (hx:x.okM):TnK f s x A:=by
 cases f
 case L=>exact tn_L s hs x A hx
 case Y=>exact tn_Y s hs x A hx
 case F=>exact tn_F s hs x A hx
 case D=>exact tn_D s hs x A
 case A=>exact tn_A s hs x A
 case B=>exact tn_B s hs x A
 case N=>exact tn_N s hs x A
 case M=>exact tn_M s hs x A
 case P=>exact tn_P s hs x A
 case T=>exact tn_T s hs x A
 case U=>exact tn_U s hs x A
 case W=>exact tn_W s hs x A
 case V=>exact tn_V s hs x A
 case Sz=>exact tn_Sz s hs x A
 case Rg=>exact tn_Rg s hs x A
 case aN=>exact tn_aN s hs x A
 case aM=>exact tn_aM s hs x A
 case pN=>exact tn_pN s hs x A
 case pM=>exact tn_pM s hs x A
 case far=>exact tn_far s hs x A
theorem fr_tkn (f g:Fl) (l:List UInt8) (y:In) (h:f.ind g=true) (hy:f.fr y):f.fr (g.tkn l y):=by
 cases f<;>first | trivial | (cases g<;>first | exact hy | cases h)
theorem rLst_len {α:Type} (N:List UInt8→α) (w:List UInt8) (hw:w.length≤1000000):(rLst N [] w).length≤1000000:=by
 unfold rLst;split
 ·exact Nat.zero_le _
 ·rw [List.nil_append,List.length_map];refine Nat.le_trans (splitC_len 59 (rMid w)) ?_;unfold rMid;rw [List.length_drop,List.length_take];omega
theorem tkn_okM (f:Fl) (w:List UInt8) (x:In) (hw:w.length≤1000000) (hx:x.okM) (hf:f.fr x):(f.tkn w x).okM:=by
 cases f
 case L=>exact ⟨hx.1,by show (rLst rRegN x.l w).length≤_; rw [show x.l=[] from hf]; exact rLst_len _ w hw,hx.2.2⟩
 case Y=>exact ⟨hx.1,hx.2.1,by show (rLst rTyV x.y w).length≤_; rw [show x.y=[] from hf]; exact rLst_len _ w hw⟩
 case F=>exact ⟨by show (rLst rFmV x.f w).length≤_; rw [show x.f=[] from hf]; exact rLst_len _ w hw,hx.2⟩
 all_goals exact hx
def tryO (s:List UInt8) (o:Nat):Option In :=
 if (opName o==(splitC 32 s).getD 0 [])=true∧(splitC 32 s).length=(opFls o).length+1 then
  (if (cFine (tknL (opFls o) ((splitC 32 s).drop 1) (emptyI (o:Int)))&&(lineT (tknL (opFls o) ((splitC 32 s).drop 1) (emptyI (o:Int))) o==s))=true then some (tknL (opFls o) ((splitC 32 s).drop 1) (emptyI (o:Int))) else none)
 else none
theorem try_some {s:List UInt8} {o:Nat} (ho:isOp o=true) {x:In} (h:tryO s o=some x):rReadS s=some x:=by
 unfold tryO at h;split at h
 ·rename_i hc;have hn:=eq_of_beq hc.1;unfold rReadS;rw [← hn,rdFind_some ho];show (if _ then _ else _)=_;rw [if_pos hc.2];exact h
 ·cases h
theorem try_none {s:List UInt8} (h:∀ o,isOp o=true→tryO s o=none):rReadS s=none:=by
 unfold rReadS;cases hf:rdFind ((splitC 32 s).getD 0 []) with
 | none=>rfl
 | some o =>
  show (if _ then _ else _)=_;unfold rdFind at hf;have h1:=List.find?_some hf;obtain ⟨i,hi,rfl⟩:=List.mem_map.1 (List.mem_of_find?_eq_some hf);have ho:isOp (i+1)=true:=(isOp_iff _).2 (by have:=List.mem_range.1 hi; omega);have h2:=h (i+1) ho;unfold tryO at h2;split
  ·rename_i hl;rw [if_pos ⟨h1,hl⟩] at h2;exact h2
  ·rfl
theorem tryO_eq {s:List UInt8} (o:Nat) {ws:List (List UInt8)} (h:splitC 32 s=ws):tryO s o=if (opName o==ws.getD 0 [])=true∧ws.length=(opFls o).length+1 then
  (if (cFine (tknL (opFls o) (ws.drop 1) (emptyI (o:Int)))&&(lineT (tknL (opFls o) (ws.drop 1) (emptyI (o:Int))) o==s))=true then some (tknL (opFls o) (ws.drop 1) (emptyI (o:Int))) else none) else none:=by rw [← h]; rfl
def psrSt (s:List UInt8) (ws:List (List UInt8)) (y:Option Addr×Nat) (j:Nat):St :=
 { n:=68,slots:=[(0,.v (.one (.str s))),(2,.v (.one (.ptr 0 0))),(3,.v (.one (.int .i64 0))),(4,.v (.one (.row 0 y.1 ws.length y.2))),(5,.v (.one (.int .i64 (j:Int))))],gs:=[],
    heap:=[(0,⟨inZ,30,true⟩)],next:=1,rows:=[(0,rowL strS [] ws y.1 y.2 9 1 false)],nr:=1,pers:=[glbP],wr:=true,fx:=0 }
def piSt (s:List UInt8) (ws:List (List UInt8)) (y:Option Addr×Nat) (o:Nat) (ls:List UInt8) (j:TnI):St :=
 { n:=68,slots:=[(0,.v (.one (.str s))),(2,.v (.one (.ptr 0 0))),(3,.v (.one (.int .i64 0))),(4,.v (.one (.row 3 y.1 ws.length y.2))),(5,.v (.one (.int .i64 (o:Int)))),(7,.v (.one (.str ls))),(8,.v (.one (.ptr 1 0))),(9,.v (.one (.int .i64 (j.i:Int))))],gs:=[],
    heap:=[(0,⟨inZ,30,true⟩),(1,⟨inO j.x j.A,30,true⟩)],next:=2,rows:=inRows j.x j.A++[(3,rowL strS [] ws y.1 y.2 9 1 false)],nr:=4,pers:=[glbP],wr:=true,fx:=0 }
set_option maxHeartbeats 2000000 in
theorem xParseR (s:List UInt8) (hs:s.length≤1000000):CallsK Tryz.prog 25 [.one (.str s)] glbF (fun y:In×IA=>y.1=(prA s).1∧y.1.okM) (fun y=>.tup [.agg (inV y.1 y.2),.one (.int .i64 (prA s).2)]) (fun y=>psOf (lsP y.1 y.2)):=by
 have hrd:=rRead_eq s;have hwl:(splitC 32 s).length≤1000001:=Nat.le_trans (splitC_len 32 s) (by omega);have hwe:∀ w∈splitC 32 s,w.length≤1000000:=fun w hw=>Nat.le_trans (splitC_elm 32 s w hw) hs;have hwn:0<(splitC 32 s).length:=List.length_pos_iff.2 (split_ne 32 s);refine CallsK.m true Tryz.func25 (fun ρ w=>?_);refine V.q ?_;refine V.c [] (cCut s 32 (by omega)) (fun y _=>?_);generalize hws:splitC 32 s=ws at hwl hwe hwn;refine V.persAs [(0,true)] [rowP (rowL strS [] ws y.1 y.2 9 1 false)] (rowP (rowL strS [] ws y.1 y.2 9 1 false)) kq (fun k hk=>⟨_,List.mem_singleton.2 rfl,hk⟩) (fun w hw=>hw _ (List.mem_singleton.2 rfl)) (rowP_stab _) ?_;refine V.q ?_;refine V.ar 4 0 (rowL strS [] ws y.1 y.2 9 1 false) ?_;refine V.loopK [0,2,3,4,5] [false,false,true] (fun j:Nat=>39 - j) (psrSt s ws y) (fun j=>1≤j∧j≤39∧∀ o,isOp o=true→o<j→tryO s o=none) 1 kq ⟨Nat.le_refl _,by decide,fun o ho hl=>by have:=(isOp_iff o).1 ho; omega⟩ (fun o hj ih=>?_);obtain ⟨h1,h39,hno⟩:=hj;refine V.iter ?_;refine V.q ?_;refine V.bn 15 (decide ((o:Int)≤38)) (fun hc=>?_) (fun hc=>?_)
 ·have hle:o≤38:=by have:=of_decide_eq_true hc; omega
  have ho:isOp o=true:=(isOp_iff o).2 (by omega);have hlet:=letters o (by omega);have hfind:opFind (o:Int)=some (opFls o):=by unfold opFind; rw [if_pos (by omega)]; rfl
  rw [hfind] at hlet;simp only [Option.getD_some] at hlet;have hnm:(rfN (o:Int)).1=opName o:=by rw [rfN_op ho]
  have hfl:(opFls o).length≤7:=by
   have:=opFind_len (o:Int);rw [hfind] at this;exact this
  have hw1:IntKind.i64.wrap ((((opFls o).map Fl.ch).length:Int)+1)=((((opFls o).map Fl.ch).length+1:Nat):Int):=wrap_up (by rw [List.length_map]; omega);have hwo:IntKind.i64.wrap ((o:Int)+1)=((o+1:Nat):Int):=wrap_up (by omega);have hgo:tryO s o=none→∀ o',isOp o'=true→o'<o+1→tryO s o'=none:=fun h o' ho' hl=>by
   by_cases e:o'=o
   ·rw [e]; exact h
   ·exact hno o' ho' (by omega)
  have htry:=tryO_eq o hws;refine V.q ?_;refine V.c [] (cFieldsR (o:Int)) (fun _ _=>?_);refine V.t [] [(0:Int)≤0∧(0:Int)<ws.length] ⟨by decide,by omega⟩ ?_;refine V.bn 35 (!((rfN (o:Int)).1==ws.getD (0:Int).toNat [])||((ws.length:Int) != IntKind.i64.wrap (((rfN (o:Int)).2.length:Int)+1))) (fun hd=>?_) (fun hd=>?_)
  ·have hnone:tryO s o=none:=by
    rw [hlet,hnm,hw1,Bool.or_eq_true,List.length_map] at hd;rw [htry,if_neg];rintro ⟨q1,q2⟩;rcases hd with hd | hd
    ·rw [show ws.getD (0:Int).toNat []=ws.getD 0 [] from rfl,q1] at hd;cases hd
    ·rw [q2,bne_self_eq_false] at hd;cases hd
   refine V.q ?_;refine V.s 5 (.one (.int .i64 (IntKind.i64.wrap ((o:Int)+1)))) (.one (.int .i64 ((o+1:Nat):Int))) (fun _=>by rw [hwo]) ?_;exact V.againK [0,2,3,4,5] [true] (ih (o+1) ⟨by omega,by omega,hgo hnone⟩ (by omega)) kq kq
  ·refine V.q ?_;refine V.s 7 (.one (.str (rfN (o:Int)).2)) (.one (.str ((opFls o).map Fl.ch))) (fun _=>by rw [hlet]) ?_;refine V.c [] (cBlankR (o:Int)) (fun _ _=>?_);refine V.q ?_;have hind:=ops_ind ho;have hfr0:∀ f∈opFls o,f.fr (emptyI (o:Int)):=fun f _=>fr_empty f _;rw [hlet,hnm,hw1,Bool.or_eq_false_iff,List.length_map] at hd;have hlen:ws.length=(opFls o).length+1:=by
    have:=hd.2;rw [bne_eq_false_iff_eq] at this;omega
   have hnam:(opName o==ws.getD 0 [])=true:=by
    have:=hd.1;rw [Bool.not_eq_false'] at this;exact this
   rw [if_pos ⟨hnam,hlen⟩] at htry;generalize opFls o=fls at hlet hfl hlen hind hfr0 htry;refine V.nilB Fm.cells fm0 1 24 ⟨inC (emptyI (o:Int)) (.val (.slice none 0 0)) (.val (.slice none 0 0)) (.val (.slice none 0 0)),30,true⟩ 93 4 kq rfl ?_;refine V.nilB intv 0 1 25 ⟨inC (emptyI (o:Int)) (.row 1 none 0 0) (.val (.slice none 0 0)) (.val (.slice none 0 0)),30,true⟩ 3 1 kq rfl ?_;refine V.nilB Ty.cells ty0 1 26 ⟨inC (emptyI (o:Int)) (.row 1 none 0 0) (.row 2 none 0 0) (.val (.slice none 0 0)),30,true⟩ 23 5 kq rfl ?_;refine V.loopK [0,2,3,4,5,7,8,9] [true] (fun j:TnI=>fls.length - j.i) (piSt s ws y o (fls.map Fl.ch)) (fun j=>j.i≤fls.length∧j.x.okM∧(∀ f∈fls.drop j.i,f.fr j.x)∧indL (fls.drop j.i)=true∧tknL (fls.drop j.i) (ws.drop (j.i+1)) j.x=tknL fls (ws.drop 1) (emptyI (o:Int))) ⟨emptyI (o:Int),IA0,0⟩ kq ⟨Nat.zero_le _,⟨Nat.zero_le _,Nat.zero_le _,Nat.zero_le _⟩,hfr0,hind,rfl⟩ (fun j hj ih2=>?_);obtain ⟨x,A,i⟩:=j;obtain ⟨hi,hxm,hfr,hin,htk⟩:=hj;simp only at hi hxm hfr hin htk;refine V.iter ?_;refine V.q ?_;refine V.bn 41 (decide ((i:Int)<((fls.map Fl.ch).length:Int))) (fun hb=>?_) (fun hb=>?_)
   ·have hlt:i<fls.length:=by simpa using hb
    obtain ⟨f,hf⟩:∃ f,fls.getD i .D=f:=⟨_,rfl⟩;have hch:(fls.map Fl.ch).getD (i:Int).toNat 0=f.ch:=by
     rw [Int.toNat_natCast,← hf,List.getD,List.getElem?_map,List.getElem?_eq_getElem hlt,List.getD,List.getElem?_eq_getElem hlt];rfl
    have hdr:fls.drop i=f::fls.drop (i+1):=by
     rw [List.drop_eq_getElem_cons hlt];rw [List.getD,List.getElem?_eq_getElem hlt] at hf;simp only [Option.getD_some] at hf;rw [hf]
    have hwi:IntKind.i64.wrap ((i:Int)+1)=((i+1:Nat):Int):=wrap_up (by omega);have hwl1:=elm_len hwe (IntKind.i64.wrap ((i:Int)+1)).toNat;have hW:=cTkn f (ws.getD (IntKind.i64.wrap ((i:Int)+1)).toNat []) (Nat.le_trans hwl1 (by decide)) x A hxm;unfold TnK at hW;rw [← hch] at hW;refine V.q ?_;refine V.drawX [] [0,1,2] 10 kq ?_;refine @VX.run _ [] [0,1,2] 10 _ _ ([]:List (Ent Tryz.prog)) [(0:Int)≤i∧(i:Int)<((fls.map Fl.ch).length:Int),(0:Int)≤IntKind.i64.wrap ((i:Int)+1)∧IntKind.i64.wrap ((i:Int)+1)<ws.length] kq kq ⟨⟨by omega,by rw [List.length_map]; omega⟩,by rw [hwi]; omega,by rw [hwi]; omega⟩ ?_;refine @VX.callR _ [] [0,1,2] 10 _ _ _ _ _ _ _ _ _ [] hW kq kq kq (fun _=>kq) (fun z hz=>?_);refine @VX.stop _ [] [0,1,2] 10 _ _ kq ?_;refine V.q ?_;refine V.s 9 (.one (.int .i64 (IntKind.i64.wrap ((i:Int)+1)))) (.one (.int .i64 ((i+1:Nat):Int))) (fun _=>by rw [hwi]) ?_;obtain ⟨x3,A3⟩:=z;have hz':x3=f.tkn (ws.getD (i+1) []) x:=by rw [← Int.toNat_natCast (i+1),← hwi]; exact hz
    rw [hdr] at hfr hin htk;unfold indL at hin;rw [Bool.and_eq_true,List.all_eq_true] at hin;exact V.againK [0,2,3,4,5,7,8,9] [true] (ih2 ⟨x3,A3,i+1⟩ ⟨hlt,by rw [hz']; exact tkn_okM f _ x (elm_len hwe _) hxm (hfr f (List.mem_cons_self ..)),fun g hg=>by rw [hz']; exact fr_tkn g f _ x (and_r (hin.1 g hg)) (hfr g (List.mem_cons_of_mem _ hg)),hin.2,by
     simp only;rw [← htk,hz'];show _=tknL (fls.drop (i+1)) ((ws.drop (i+1)).drop 1) (f.tkn ((ws.drop (i+1)).getD 0 []) x);rw [List.drop_drop,show (ws.drop (i+1)).getD 0 []=ws.getD (i+1) [] by simp [List.getD]]⟩ (by simp only; omega)) kq kq
   ·have hge:i=fls.length:=by simp at hb; omega
    rw [hge,List.drop_length] at htk;have htk:x=tknL fls (ws.drop 1) (emptyI (o:Int)):=htk;rw [← htk] at htry;have hop:x.op=(o:Int):=by rw [htk]; exact tknL_op _ _ _
    refine V.q ?_;refine V.freeze 0 (rowL Fm.cells fm0 x.f A.qf A.cf 93 4 true) kq kq ?_;refine V.freeze 1 (rowL intv 0 x.l A.ql A.cl 3 1 true) kq kq ?_;refine V.freeze 2 (rowL Ty.cells ty0 x.y A.qy A.cy 23 5 true) kq kq ?_;refine V.c [(3,false),(2,true),(1,true),(0,true)] (xTextR x A hxm) (fun _ _=>?_);have hln:lnT x=lineT x o:=lnT_of hop;refine V.q ?_;refine V.bn 65 ((txA x).2==0&&(txA x).1==s) (fun he=>?_) (fun he=>?_)
    ·rw [Bool.and_eq_true] at he;have hfx:cFine x=true:=by
      cases hq:cFine x with
      | true=>rfl
      | false =>
       have:=he.1;unfold txA at this;rw [hq] at this;cases this
     have hls:(lineT x o==s)=true:=by
      have:=he.2;unfold txA at this;rw [hfx,cond_true,hln] at this;exact this
     rw [if_pos (by rw [hfx,hls]; rfl)] at htry;have hpr:prA s=(x,0):=by unfold prA; rw [← hrd,try_some ho htry]; rfl
     refine V.q ?_;refine V.s 3 (.one (.int .i64 0)) (.one (.int .i64 (prA s).2)) (fun _=>by rw [hpr]) ?_;exact V.e ((x,A):In×IA) [(2,true),(1,true),(0,true)] ⟨by rw [hpr],hxm⟩
    ·have hnone:tryO s o=none:=by
      rw [htry,if_neg];intro hq;rw [Bool.and_eq_true] at hq;have:((txA x).2==0&&(txA x).1==s)=true:=by
       unfold txA;rw [hq.1,cond_true,hln,hq.2];rfl
      rw [this] at he;cases he
     refine V.q ?_;refine V.s 5 (.one (.int .i64 (IntKind.i64.wrap ((o:Int)+1)))) (.one (.int .i64 ((o+1:Nat):Int))) (fun _=>by rw [hwo]) ?_;exact V.againK [0,2,3,4,5] [false,false,false,true] (ih (o+1) ⟨by omega,by omega,hgo hnone⟩ (by omega)) kq kq
 ·have he:o=39:=by have:=of_decide_eq_false hc; omega
  have hnone:rReadS s=none:=try_none fun o' ho'=>hno o' ho' (by have:=(isOp_iff o').1 ho'; omega);have hpr:prA s=(zeroI,222):=by unfold prA; rw [← hrd,hnone]; rfl
  refine V.q ?_;refine V.s 3 (.one (.int .i64 222)) (.one (.int .i64 (prA s).2)) (fun _=>by rw [hpr]) ?_;refine V.soft 0 ?_;refine V.persNew [] [] (rowP (rowF zeroI IA0)) kq kq (fun k hk=>absurd hk ((row_none (R:=rowF zeroI IA0) rfl rfl rfl).1 k)) (fun w _=>(row_none (R:=rowF zeroI IA0) rfl rfl rfl).2 w) (rowP_stab _) ?_;refine V.persNew [] [] (rowP (rowI zeroI IA0)) kq kq (fun k hk=>absurd hk ((row_none (R:=rowI zeroI IA0) rfl rfl rfl).1 k)) (fun w _=>(row_none (R:=rowI zeroI IA0) rfl rfl rfl).2 w) (rowP_stab _) ?_;refine V.persNew [] [] (rowP (rowT zeroI IA0)) kq kq (fun k hk=>absurd hk ((row_none (R:=rowT zeroI IA0) rfl rfl rfl).1 k)) (fun w _=>(row_none (R:=rowT zeroI IA0) rfl rfl rfl).2 w) (rowP_stab _) ?_;exact V.e ((zeroI,IA0):In×IA) [(2,true),(1,true),(0,true)] ⟨by rw [hpr],Nat.zero_le _,Nat.zero_le _,Nat.zero_le _⟩
theorem flat_len {α:Type} (g h:α→List UInt8):∀ (l:List α),(∀ f∈l,(g f).length=(h f).length)→(l.flatMap g).length=(l.flatMap h).length
 | [],_=>rfl
 | f::l,k=>by
  rw [List.flatMap_cons,List.flatMap_cons,List.length_append,List.length_append,k f (List.mem_cons_self ..),flat_len g h l (fun f hf=>k f (List.mem_cons_of_mem _ hf))]
noncomputable def slSt (x:In) (A:IA) (n:Int) (i:Nat):St :=
 { n:=73,slots:=[(1,.v (.one (.ptr 0 0))),(3,.v (.one (.int .i64 n))),(28,.v (.one (.row 2 A.qy x.y.length A.cy))),(29,.v (.one (.int .i64 (x.y.length:Int)))),(30,.v (.one (.int .i64 (i:Int))))],gs:=[],
    heap:=[(0,seB x A 0)],next:=1,rows:=[(0,rowF x A),(1,rowI x A),(2,rowT x A)],nr:=3,pers:=[],wr:=true,fx:=0 }
noncomputable def slSt2 (x:In) (A:IA) (n:Int) (i:Nat):St :=
 { n:=73,slots:=[(1,.v (.one (.ptr 0 0))),(3,.v (.one (.int .i64 n))),(41,.v (.one (.row 0 A.qf x.f.length A.cf))),(42,.v (.one (.int .i64 (x.f.length:Int)))),(43,.v (.one (.int .i64 (i:Int))))],gs:=[],
    heap:=[(0,seB x A 0)],next:=1,rows:=[(0,rowF x A),(1,rowI x A),(2,rowT x A)],nr:=3,pers:=[],wr:=true,fx:=0 }
structure SlI where
 n:Int
 i:Nat
theorem wrapL {i n:Nat} (h:i<n) (hn:n≤maxLen):IntKind.i64.wrap ((i:Int)+1)=((i+1:Nat):Int):=by
 unfold maxLen at hn;simp [IntKind.wrap,IntKind.bits,IntKind.signed];omega
set_option maxHeartbeats 2000000 in
theorem cSlimF (x:In) (A:IA) (hf:x.f.length≤maxLen) (hy:x.y.length≤maxLen):CallsK Tryz.prog 52 [.agg (inV x A)] (stP (lsP x A)) (fun b:Bool=>b=false→x.okL) (fun b=>.v (.one (.sb b))) (fun _=>noF):=by
 refine CallsK.m true Tryz.func52 (fun ρ0 w0=>?_);refine V.q ?_;refine V.factRow 0 (rowF x A) kq rfl ?_;refine V.factRow 1 (rowI x A) kq rfl ?_;refine V.factRow 2 (rowT x A) kq rfl ?_;refine V.cellRow 0 24 0 ⟨inV x A,30,true⟩ (rowF x A) kq kq kq ?_;refine V.cellRow 0 25 1 ⟨inC x (.row 0 A.qf x.f.length A.cf) (.val (.slice A.ql x.l.length A.cl)) (.val (.slice A.qy x.y.length A.cy)),30,true⟩ (rowI x A) kq kq kq ?_;refine V.cellRow 0 26 2 ⟨inC x (.row 0 A.qf x.f.length A.cf) (.row 1 A.ql x.l.length A.cl) (.val (.slice A.qy x.y.length A.cy)),30,true⟩ (rowT x A) kq kq kq ?_;refine V.slotRow 28 2 (rowT x A) kq kq kq ?_;refine V.iter ?_;refine V.loopTo [1,3,28,29,30] [0] [0,1,2] [] (fun j:SlI=>x.y.length - j.i) (fun j=>slSt x A j.n j.i) (fun j=>j.i≤x.y.length) ⟨IntKind.i64.wrap (IntKind.i64.wrap (IntKind.i64.wrap ((x.vs.length:Int)+x.t.s.length)+x.u.s.length)+x.w.s.length),0⟩ kq (Nat.zero_le _) (fun j hj ih=>?_);obtain ⟨n,i⟩:=j;simp only at hj;refine V.q ?_;refine V.bn 31 (decide ((i:Int)<(x.y.length:Int))) (fun hc=>?_) (fun hc=>?_)
 ·have hlt:i<x.y.length:=by simpa using hc
  have key:=ih ⟨IntKind.i64.wrap (n+((x.y.getD i ty0).s.length:Int)),i+1⟩ hlt (by simp only; omega);refine V.t [] [(0:Int)≤i∧(i:Int)<x.y.length] ⟨by omega,by omega⟩ ?_;refine V.s 30 (.one (.int .i64 (IntKind.i64.wrap ((i:Int)+1)))) (.one (.int .i64 ((i+1:Nat):Int))) (fun _=>by rw [wrapL hlt hy]) ?_;refine V.iter ?_;exact V.back [1,3,28,29,30] [0] [0,1,2] [] key kq kq
 ·refine V.q ?_;refine V.iter ?_;refine V.loopTo [1,3,41,42,43] [0] [0,1,2] [] (fun j:SlI=>x.f.length - j.i) (fun j=>slSt2 x A j.n j.i) (fun j=>j.i≤x.f.length) ⟨n,0⟩ kq (Nat.zero_le _) (fun j hj ih=>?_);obtain ⟨n,i⟩:=j;simp only at hj;refine V.q ?_;refine V.bn 44 (decide ((i:Int)<(x.f.length:Int))) (fun hc=>?_) (fun hc=>?_)
  ·have hlt:i<x.f.length:=by simpa using hc
   have key:=ih ⟨IntKind.i64.wrap (n+((x.f.getD i fm0).s.length:Int)),i+1⟩ hlt (by simp only; omega);refine V.t [] [(0:Int)≤i∧(i:Int)<x.f.length] ⟨by omega,by omega⟩ ?_;refine V.s 43 (.one (.int .i64 (IntKind.i64.wrap ((i:Int)+1)))) (.one (.int .i64 ((i+1:Nat):Int))) (fun _=>by rw [wrapL hlt hf]) ?_;refine V.iter ?_;exact V.back [1,3,41,42,43] [0] [0,1,2] [] key kq kq
  ·refine V.q ?_;exact V.e (decide ((x.f.length:Int)>20)||decide ((x.l.length:Int)>20)||decide ((x.y.length:Int)>20)||decide (n>20000):Bool) [] (fun h=>by
    simp only [Bool.or_eq_false_iff,decide_eq_false_iff_not] at h;exact ⟨by omega,by omega,by omega⟩)
def slF (x:In) (A:IA) (ps:List Pers):St:={ n:=0,slots:=[],gs:=[],heap:=[(0,⟨inV x A,30,true⟩)],next:=1,rows:=[],nr:=0,pers:=ps,wr:=false }
theorem cSlim88 (x:In) (A:IA) (hf:x.f.length≤maxLen) (hy:x.y.length≤maxLen):CallsK Tryz.prog 88 [.one (.sli 0 1 1),.one (.fn 52 [])] (slF x A (lsP x A)) (fun b:Bool=>b=false→x.okL) (fun b=>.v (.one (.int .i64 (bif b then 0 else -1)))) (fun _=>slF x A []):=by
 refine CallsK.m true Tryz.func88 (fun ρ0 w0=>?_);refine V.rc [] 2 [] trivial ?_;refine V.t [] [(0:Int)≤0∧(0:Int)<((1:Nat):Int)] ⟨by decide,by decide⟩ ?_;refine V.c [(0,false),(1,false),(2,false)] (cSlimF x A hf hy) (fun b hb=>?_);refine V.q ?_;refine V.bn 16 b (fun hh=>?_) (fun hh=>?_)
 ·subst hh;refine V.q ?_;exact V.e (true:Bool) [] hb
 ·subst hh;refine V.rc [] 5 [] trivial ?_;exact V.e (false:Bool) [] hb
theorem cSlim51 (x:In) (A:IA) (hf:x.f.length≤maxLen) (hy:x.y.length≤maxLen):CallsK Tryz.prog 51 [.one (.sli 0 1 1),.one (.fn 52 [])] (slF x A (lsP x A)) (fun b:Bool=>b=false→x.okL) (fun b=>.v (.one (.sb (decide ((bif b then (0:Int) else -1)≥0))))) (fun _=>slF x A []):=by
 refine CallsK.m true Tryz.func51 (fun ρ0 w0=>?_);refine V.q ?_;refine V.c [(0,false),(1,false),(2,false)] (cSlim88 x A hf hy) (fun b hb=>?_);refine V.q ?_;exact V.e (b:Bool) [] hb
theorem cSlim (x:In) (A:IA) (hf:x.f.length≤maxLen) (hy:x.y.length≤maxLen):CallsK Tryz.prog 15 [.one (.sli 0 1 1)] (slF x A (lsP x A)) (fun b:Bool=>b=true→x.okL) (fun b=>.v (.one (.sb b))) (fun _=>slF x A []):=by
 refine CallsK.m true Tryz.func15 (fun ρ0 w0=>?_);refine V.q ?_;refine V.c [(0,false),(1,false),(2,false)] (cSlim51 x A hf hy) (fun b hb=>?_);refine V.q ?_;cases b
 ·refine V.s 2 (.one (.sb (!(decide ((bif false then (0:Int) else -1)≥0))))) (.one (.sb true)) (fun _=>rfl) ?_;exact V.e (true:Bool) [] (fun _=>hb rfl)
 ·refine V.s 2 (.one (.sb (!(decide ((bif true then (0:Int) else -1)≥0))))) (.one (.sb false)) (fun _=>rfl) ?_;exact V.e (false:Bool) [] (fun h=>by cases h)
theorem blk_row {α:Type} (f:α→List SV) (d:α) (l:List α) (g:Nat) (e:TypeId) (sz:Nat) (hf:∀ x,(f x).length=sz) (hpl:∀ x,∀ y∈f x,y.plain) (hm:l.length≤maxLen) :
  (∀ k,(rowP (rowL f d l (some ⟨g,0,none⟩) l.length e sz false)).D k→∃ q∈[blkP g (l.flatMap f) e],q.D k)∧(∀ w,(∀ q∈[blkP g (l.flatMap f) e],q.φ w)→(rowP (rowL f d l (some ⟨g,0,none⟩) l.length e sz false)).φ w) :=
 ⟨fun k hk=>⟨_,List.mem_singleton.2 rfl,by
  obtain ⟨a,h1,h2,_⟩:=hk;have h1':(some ⟨g,0,none⟩:Option Addr)=some a:=h1;cases h1';exact h2.symm⟩,fun w hw=>rowP_of_blk hf hpl hm w (hw _ (List.mem_singleton.2 rfl))⟩
def pastL:List Item→List Item
 | .inLoop _::k=>k
 | _::k=>pastL k
 | []=>[]
noncomputable def snT2:List Item:=skipU 100 (pastL (skipU 100 [.code (bodyOf Tryz.f14)]))
noncomputable def snSt2 (n0:Nat) (S:Nat→Prop) (g:Nat):St :=
 { n:=242,slots:=[(11,.v (.one (.ptr 0 0))),(101,.v (.one (.int .i64 4))),(102,.v (.one (.int .i64 4)))],gs:=[],heap:=[(0,⟨inV sx4 (sA4 g),30,true⟩)],next:=1,rows:=[],nr:=0,
    pers:=[newP n0 S (rowP (rowI sx4 (sA4 g))),newP n0 S (rowP (rowT zeroI IA0)),newP n0 S (rowP (rowI zeroI IA0)),newP n0 S (rowP (rowF zeroI IA0)),glbP],wr:=true,fx:=0 }
theorem rlv_plain (x:Int×Int):∀ y∈rlv x,y.plain:=fun y hy=>by
 simp only [rlv,List.mem_cons,List.not_mem_nil,or_false] at hy;rcases hy with rfl | rfl<;>trivial
theorem e3_okL:(emptyI 3).okL:=⟨by decide,by decide,by decide⟩
theorem e0_okL:(emptyI 0).okL:=⟨by decide,by decide,by decide⟩
noncomputable def aBlank5:Con Tryz.prog:=Con.auto Tryz.func49 true [] [] kq kq
def blankC (op:Int):List SV:=(inV (emptyI op) IA0).map fun y=>match y with
 | .sb b=>.bool b
 | y=>y
set_option maxHeartbeats 4000000 in
theorem sane_rest (ρ0:Nat→Nat) (w0:World) (g:Nat):V ⟨Tryz.prog,14,GivesK ρ0 glbF (fun _:Unit=>True) (fun _=>.v (.one (.sb true))) (fun _=>noF) w0,touch ρ0 glbF,w0,ρ0,none⟩ ⟨snT2,snSt2 w0.heap.size (touch ρ0 glbF) g⟩:=by
 refine V.q ?_;refine V.kn 103 (decide ((4:Int)<4)) false (by decide) ?_;refine V.q ?_;refine V.c [(4,false),(3,true),(0,true),(1,true)] (xEncode sx4 (sA4 g) sx4_okL sx4_fine) (fun qc4 _=>?_);refine V.q ?_;refine V.freeze 0 (rowL rlv (0,0) [(2,5)] qc4.1 qc4.2 62 2 true) kq kq ?_;refine V.c [] (xReadNumber [128,0] 0 (by decide)) (fun _ _=>?_);refine V.q ?_;refine V.c [(5,false)] (xParseNo [83,84,69,80,32,48,49,48] [[83,84,69,80],[48,49,48]] kq (by decide) kq (by decide) (pok_of (o0:=1) kq kq) kq) (fun _ _=>?_);refine V.q ?_;refine V.c [(5,false)] xAsm (fun qc5 _=>?_);refine V.q ?_;refine V.c [(6,false),(0,true)] (xPlaces [] ⟨asB,qc5.1,0,qc5.2⟩ rfl (by decide) (by show 7≤100000000; decide) 0 4 ([asX1,asX2],[0,2,7]) (asV _ _)) (fun qc6 _=>?_);refine V.q ?_;refine V.settle 205 true ((0:Int)==0) kq (by decide) ?_;refine V.q ?_;refine V.absB 3 ⟨[.int .i64 2,.int .i64 5],62,true⟩ kq kq (fun _=>kq) (fun g1=>?_);refine V.persNew [(0,true)] [blkP g1 [.int .i64 2,.int .i64 5] 62] (rowP (rowL rlv (0,0) [(2,5)] (some ⟨g1,0,none⟩) 1 62 2 false)) kq kq (blk_row rlv (0,0) [(2,5)] g1 62 2 (fun _=>rfl) rlv_plain (by decide)).1 (blk_row rlv (0,0) [(2,5)] g1 62 2 (fun _=>rfl) rlv_plain (by decide)).2 (rowP_stab _) ?_;refine V.c [(4,true),(0,true)] (cEqR [(2,5)] [(2,5)] qc4.1 (some ⟨g1,0,none⟩) qc4.2 1 (by decide)) (fun _ _=>?_);refine V.q ?_;refine V.settle 227 true true kq rfl ?_;refine V.q ?_;refine V.absB 3 ⟨[.int .i64 0,.int .i64 2,.int .i64 7],3,true⟩ kq kq (fun _=>kq) (fun g2=>?_);refine V.persNew [(0,true)] [blkP g2 [.int .i64 0,.int .i64 2,.int .i64 7] 3] (rowP (rowL intv 0 [0,2,7] (some ⟨g2,0,none⟩) 3 3 1 false)) kq kq (blk_row intv 0 [0,2,7] g2 3 1 (fun _=>rfl) intv_plain (by decide)).1 (blk_row intv 0 [0,2,7] g2 3 1 (fun _=>rfl) intv_plain (by decide)).2 (rowP_stab _) ?_;refine V.c [(4,true),(0,true)] (cEqI [0,2,7] [0,2,7] qc6.1 (some ⟨g2,0,none⟩) qc6.2 3 (by decide)) (fun _ _=>?_);refine V.q ?_;refine V.settle 232 true true kq rfl ?_;refine V.t [⟨aBlank5,[]⟩] [] trivial ?_;refine V.s 233 (.agg (blankC 3)) (.agg (inV (emptyI 3) IA0)) (fun _=>rfl) ?_;refine V.c [(11,false),(10,true),(9,true),(8,true)] (xCheck (emptyI 3) IA0 e3_okL) (fun _ _=>?_);refine V.q ?_;refine V.settle 237 true true kq rfl ?_;refine V.t [⟨aBlank5,[]⟩] [] trivial ?_;refine V.s 238 (.agg (blankC 0)) (.agg (inV (emptyI 0) IA0)) (fun _=>rfl) ?_;refine V.c [(11,false),(10,true),(9,true),(8,true)] (xCheck (emptyI 0) IA0 e0_okL) (fun _ _=>?_);refine V.q ?_;exact V.z
def snT:List (Int×List UInt8):=[(0,[0]),(-1,[1]),(1,[2]),(63,[126]),(64,[128,1]),(-64,[127]),(-65,[129,1])]
def snL:Nat→List (Int×List UInt8)→List MapEntry
 | _,[]=>[]
 | i,p::l=>{ key:=.int .i64 p.1,val:=.string ⟨p.2.toArray⟩,born:=i }::snL (i+1) l
def snEs:Array MapEntry:=(snL 0 snT).toArray
theorem snL_mem:∀ {l:List (Int×List UInt8)} {i:Nat} {e:MapEntry},e∈snL i l→∃ p∈l,e.key=.int .i64 p.1∧e.val=.string ⟨p.2.toArray⟩∧e.born<i+l.length
 | [],i,e,h=>by simp [snL] at h
 | p::l,i,e,h=>by
  simp only [snL,List.mem_cons] at h;rcases h with rfl | h
  ·exact ⟨p,List.mem_cons_self ..,rfl,rfl,by simp⟩
  ·obtain ⟨p',h1,h2,h3,h4⟩:=snL_mem h;exact ⟨p',List.mem_cons_of_mem _ h1,h2,h3,by simp only [List.length_cons]; omega⟩
theorem snT_num (p:Int×List UInt8) (h:p∈snT):isNum p.1=true∧encN p.1=p.2∧rnV p.2 0=.tup [.one (.int .i64 p.1),.one (.int .i64 (p.2.length:Int)),.one (.int .i64 0)]∧p.2.length≤1000000000:=by
 unfold snT at h;simp only [List.mem_cons,List.not_mem_nil,or_false] at h;rcases h with rfl | rfl | rfl | rfl | rfl | rfl | rfl<;>exact ⟨by decide,by decide,kq,by decide⟩
theorem snN (p:Int×List UInt8) (h:p∈snT):CallsK Tryz.prog 16 [.one (.int .i64 p.1)] noF (fun _:Unit=>True) (fun _=>.tup [.one (.str p.2),.one (.int .i64 0)]) (fun _=>noF):=by
 have h1:=xNumber p.1;rw [(snT_num p h).1,(snT_num p h).2.1] at h1;exact h1
theorem snR (p:Int×List UInt8) (h:p∈snT):CallsK Tryz.prog 18 [.one (.str p.2),.one (.int .i64 0)] noF (fun _:Unit=>True) (fun _=>.tup [.one (.int .i64 p.1),.one (.int .i64 (p.2.length:Int)),.one (.int .i64 0)]) (fun _=>noF):=by
 have h1:=xReadNumber p.2 0 (snT_num p h).2.2.2;rw [(snT_num p h).2.2.1] at h1;exact h1
def snSt (n0:Nat) (S:Nat→Prop) (gL it:Nat) (seen:Array Nat):St :=
 { n:=242,slots:=[(39,.v (.one (.val (.pointer (some ⟨it,0,none⟩)))))],gs:=[],heap:=[],next:=0,
    rows:=[(0,objRow it (.mapIter (some gL) 7 seen 7))],nr:=1,pers:=[newP n0 S (objP gL (.map snEs 7)),glbP],wr:=true,fx:=0 }
theorem sn_born:∀ x∈snEs.toList,x.born<7:=fun e he=>by
 obtain ⟨p,_,_,_,h⟩:=snL_mem (l:=snT) (i:=0) he;simpa [snT] using h
theorem sn_nodup:(snEs.toList.map (·.born)).Nodup:=by
 show [0,1,2,3,4,5,6].Nodup;decide
noncomputable def aBlank:Con Tryz.prog:=Con.auto Tryz.func49 true [] [] kq kq
theorem sx4_l (g:Nat):(∀ k,(rowP (rowI sx4 (sA4 g))).D k→∃ q∈[blkP g [.int .i64 2] 3],q.D k)∧(∀ w,(∀ q∈[blkP g [.int .i64 2] 3],q.φ w)→(rowP (rowI sx4 (sA4 g))).φ w) :=
 ⟨fun k hk=>⟨_,List.mem_singleton.2 rfl,by
  obtain ⟨a,h1,h2,_⟩:=hk;have h1':(some ⟨g,0,none⟩:Option Addr)=some a:=h1;cases h1';exact h2.symm⟩,fun w hw=>rowP_of_blk (f:=intv) (d:=0) (l:=[2]) (e:=3) (sz:=1) (fun _=>rfl) (fun x y hy=>by rw [List.mem_singleton.1 hy]; trivial) (by decide) w (hw _ (List.mem_singleton.2 rfl))⟩
set_option maxHeartbeats 4000000 in
theorem sane_:CallsK Tryz.prog 14 [] glbF (fun _:Unit=>True) (fun _=>.v (.one (.sb true))) (fun _=>noF):=by
 refine CallsK.m true Tryz.func14 (fun ρ0 w0=>?_);refine V.q ?_;refine V.mkMap 86 kq (fun _=>kq) (fun gL=>?_);refine V.runM [] 0 7 [] (List.replicate 7 (gL,gL)) kq kq trivial (fun p hp=>by rw [List.eq_of_mem_replicate hp]) ?_;refine V.q ?_;refine V.freezeObj 0 gL (.map snEs 7) kq ?_;refine V.range 86 3 9 gL snEs 7 kq kq (fun ρ a w hS=>hS.objN (n0:=w0.heap.size) (S:=touch ρ0 glbF) 0 kq) (fun _=>kq) (fun it=>?_);refine V.q ?_;refine V.iter ?_;refine V.loopTo [39] [] [1] [true,true] (fun seen:Array Nat=>(leftOf snEs seen).size) (snSt w0.heap.size (touch ρ0 glbF) gL it) (fun _=>True) #[] kq trivial (fun seen _ ih=>?_);refine V.q ?_;refine V.next it 0 gL 7 7 7 seen snEs kq kq (fun ρ a w hS=>hS.objN (n0:=w0.heap.size) (S:=touch ρ0 glbF) 0 kq) sn_born (Nat.le_refl _) kq (fun e he=>kq) (fun hsz=>?_) (fun e he=>?_)
 ·refine V.t [⟨aBlank,[]⟩] [] trivial ?_;refine V.soft 5 ?_;refine V.soft 3 ?_;refine V.absB 4 ⟨[.int .i64 2],3,true⟩ kq kq (fun _=>kq) (fun g=>?_);refine V.persNew [] [] (rowP (rowF zeroI IA0)) kq kq (fun k hk=>absurd hk ((row_none (R:=rowF zeroI IA0) rfl rfl rfl).1 k)) (fun w _=>(row_none (R:=rowF zeroI IA0) rfl rfl rfl).2 w) (rowP_stab _) ?_;refine V.persNew [] [] (rowP (rowI zeroI IA0)) kq kq (fun k hk=>absurd hk ((row_none (R:=rowI zeroI IA0) rfl rfl rfl).1 k)) (fun w _=>(row_none (R:=rowI zeroI IA0) rfl rfl rfl).2 w) (rowP_stab _) ?_;refine V.persNew [] [] (rowP (rowT zeroI IA0)) kq kq (fun k hk=>absurd hk ((row_none (R:=rowT zeroI IA0) rfl rfl rfl).1 k)) (fun w _=>(row_none (R:=rowT zeroI IA0) rfl rfl rfl).2 w) (rowP_stab _) ?_;refine V.persNew [(3,true)] [blkP g [.int .i64 2] 3] (rowP (rowI sx4 (sA4 g))) kq kq (sx4_l g).1 (sx4_l g).2 (rowP_stab _) ?_;refine V.iter ?_;refine V.q ?_;refine V.kn 103 (decide ((0:Int)<4)) true (by decide) ?_;refine V.t [] [(0:Int)≤0∧(0:Int)<4] ⟨by decide,by decide⟩ ?_;refine V.c [(6,false),(3,true),(2,true),(1,true)] (xEncode sx1 IA0 sx1_okL sx1_fine) (fun qc0 _=>?_);refine V.q ?_;refine V.freeze 1 (rowL rlv (0,0) [] qc0.1 qc0.2 62 2 true) kq kq ?_;refine V.c [(7,false),(0,true)] (xDecode [] ⟨[3,8,2],qc0.1,0,qc0.2⟩ rfl (by decide) 0 ⟨by show 3≤1000000000; decide,Nat.zero_le _⟩ kq) (fun yd0 hd0=>?_);obtain ⟨d0,D0⟩:=yd0;have ed0:d0=sx1:=hd0.trans (sx1_dec qc0.1 qc0.2);subst ed0;refine V.q ?_;refine V.c [(10,false),(7,true),(6,true),(5,true)] (xText sx1 IA0 sx1_okL 3 kq kq kq sx1_fine) (fun _ _=>?_);refine V.q ?_;refine V.c [(10,false)] (xParse [77,79,86,69,32,114,51,32,114,48] [[77,79,86,69],[114,51],[114,48]] sx1 kq (by decide) kq (by decide) (pok_of sx1_find sx1_pok) sx1_read) (fun yp0 hp0=>?_);obtain ⟨p0,P0⟩:=yp0;have ep0:p0=sx1:=hp0;subst ep0;refine V.persAs [(10,true)] [rowP (rowF sx1 IA0)] (rowP (rowF sx1 IA0)) kq (fun k hk=>⟨_,List.mem_singleton.2 rfl,hk⟩) (fun w hw=>hw _ (List.mem_singleton.2 rfl)) (rowP_stab _) ?_;refine V.persAs [(10,true)] [rowP (rowI sx1 IA0)] (rowP (rowI sx1 IA0)) kq (fun k hk=>⟨_,List.mem_singleton.2 rfl,hk⟩) (fun w hw=>hw _ (List.mem_singleton.2 rfl)) (rowP_stab _) ?_;refine V.persAs [(10,true)] [rowP (rowT sx1 IA0)] (rowP (rowT sx1 IA0)) kq (fun k hk=>⟨_,List.mem_singleton.2 rfl,hk⟩) (fun w hw=>hw _ (List.mem_singleton.2 rfl)) (rowP_stab _) ?_;refine V.persAs [(6,true)] [rowP (rowF sx1 D0)] (rowP (rowF sx1 D0)) kq (fun k hk=>⟨_,List.mem_singleton.2 rfl,hk⟩) (fun w hw=>hw _ (List.mem_singleton.2 rfl)) (rowP_stab _) ?_;refine V.persAs [(8,true)] [rowP (rowI sx1 D0)] (rowP (rowI sx1 D0)) kq (fun k hk=>⟨_,List.mem_singleton.2 rfl,hk⟩) (fun w hw=>hw _ (List.mem_singleton.2 rfl)) (rowP_stab _) ?_;refine V.persAs [(10,true)] [rowP (rowT sx1 D0)] (rowP (rowT sx1 D0)) kq (fun k hk=>⟨_,List.mem_singleton.2 rfl,hk⟩) (fun w hw=>hw _ (List.mem_singleton.2 rfl)) (rowP_stab _) ?_;refine V.persAs [(6,true)] [rowP (rowF sx1 P0)] (rowP (rowF sx1 P0)) kq (fun k hk=>⟨_,List.mem_singleton.2 rfl,hk⟩) (fun w hw=>hw _ (List.mem_singleton.2 rfl)) (rowP_stab _) ?_;refine V.persAs [(8,true)] [rowP (rowI sx1 P0)] (rowP (rowI sx1 P0)) kq (fun k hk=>⟨_,List.mem_singleton.2 rfl,hk⟩) (fun w hw=>hw _ (List.mem_singleton.2 rfl)) (rowP_stab _) ?_;refine V.persAs [(10,true)] [rowP (rowT sx1 P0)] (rowP (rowT sx1 P0)) kq (fun k hk=>⟨_,List.mem_singleton.2 rfl,hk⟩) (fun w hw=>hw _ (List.mem_singleton.2 rfl)) (rowP_stab _) ?_;refine V.t [⟨sSame2 sx1 IA0 P0 D0 sx1_okL,[17,18,19,20,21,22,14,15,16]⟩] [((false=false)→(([.agg (inV sx1 D0),.agg (inV sx1 IA0)]:List CV)=[.agg (inV sx1 D0),.agg (inV sx1 IA0)]∨([.agg (inV sx1 D0),.agg (inV sx1 IA0)]:List CV)=[.agg (inV sx1 P0),.agg (inV sx1 IA0)])),((false=false)→(([.agg (inV sx1 P0),.agg (inV sx1 IA0)]:List CV)=[.agg (inV sx1 D0),.agg (inV sx1 IA0)]∨([.agg (inV sx1 P0),.agg (inV sx1 IA0)]:List CV)=[.agg (inV sx1 P0),.agg (inV sx1 IA0)]))] ⟨fun _=>.inl rfl,fun _=>.inr rfl⟩ ?_;refine V.kn 176 false false rfl ?_;refine V.q ?_;refine V.iter ?_;refine V.ungrd ?_;refine V.q ?_;refine V.kn 103 (decide ((1:Int)<4)) true (by decide) ?_;refine V.t [] [(0:Int)≤1∧(1:Int)<4] ⟨by decide,by decide⟩ ?_;refine V.c [(22,false),(19,true),(18,true),(17,true)] (xEncode sx2 IA0 sx2_okL sx2_fine) (fun qc1 _=>?_);refine V.q ?_;refine V.freeze 2 (rowL rlv (0,0) [] qc1.1 qc1.2 62 2 true) kq kq ?_;refine V.c [(23,false),(0,true)] (xDecode [] ⟨[14,0,0,1,2],qc1.1,0,qc1.2⟩ rfl (by decide) 0 ⟨by show 5≤1000000000; decide,Nat.zero_le _⟩ kq) (fun yd1 hd1=>?_);obtain ⟨d1,D1⟩:=yd1;have ed1:d1=sx2:=hd1.trans (sx2_dec qc1.1 qc1.2);subst ed1;refine V.q ?_;refine V.c [(26,false),(23,true),(22,true),(21,true)] (xText sx2 IA0 sx2_okL 14 kq kq kq sx2_fine) (fun _ _=>?_);refine V.q ?_;refine V.c [(26,false)] (xParse [74,85,77,80,32,64,50,53,56] [[74,85,77,80],[64,50,53,56]] sx2 kq (by decide) kq (by decide) (pok_of sx2_find sx2_pok) sx2_read) (fun yp1 hp1=>?_);obtain ⟨p1,P1⟩:=yp1;have ep1:p1=sx2:=hp1;subst ep1;refine V.persAs [(26,true)] [rowP (rowF sx2 IA0)] (rowP (rowF sx2 IA0)) kq (fun k hk=>⟨_,List.mem_singleton.2 rfl,hk⟩) (fun w hw=>hw _ (List.mem_singleton.2 rfl)) (rowP_stab _) ?_;refine V.persAs [(26,true)] [rowP (rowI sx2 IA0)] (rowP (rowI sx2 IA0)) kq (fun k hk=>⟨_,List.mem_singleton.2 rfl,hk⟩) (fun w hw=>hw _ (List.mem_singleton.2 rfl)) (rowP_stab _) ?_;refine V.persAs [(26,true)] [rowP (rowT sx2 IA0)] (rowP (rowT sx2 IA0)) kq (fun k hk=>⟨_,List.mem_singleton.2 rfl,hk⟩) (fun w hw=>hw _ (List.mem_singleton.2 rfl)) (rowP_stab _) ?_;refine V.persAs [(6,true)] [rowP (rowF sx2 D1)] (rowP (rowF sx2 D1)) kq (fun k hk=>⟨_,List.mem_singleton.2 rfl,hk⟩) (fun w hw=>hw _ (List.mem_singleton.2 rfl)) (rowP_stab _) ?_;refine V.persAs [(8,true)] [rowP (rowI sx2 D1)] (rowP (rowI sx2 D1)) kq (fun k hk=>⟨_,List.mem_singleton.2 rfl,hk⟩) (fun w hw=>hw _ (List.mem_singleton.2 rfl)) (rowP_stab _) ?_;refine V.persAs [(10,true)] [rowP (rowT sx2 D1)] (rowP (rowT sx2 D1)) kq (fun k hk=>⟨_,List.mem_singleton.2 rfl,hk⟩) (fun w hw=>hw _ (List.mem_singleton.2 rfl)) (rowP_stab _) ?_;refine V.persAs [(6,true)] [rowP (rowF sx2 P1)] (rowP (rowF sx2 P1)) kq (fun k hk=>⟨_,List.mem_singleton.2 rfl,hk⟩) (fun w hw=>hw _ (List.mem_singleton.2 rfl)) (rowP_stab _) ?_;refine V.persAs [(8,true)] [rowP (rowI sx2 P1)] (rowP (rowI sx2 P1)) kq (fun k hk=>⟨_,List.mem_singleton.2 rfl,hk⟩) (fun w hw=>hw _ (List.mem_singleton.2 rfl)) (rowP_stab _) ?_;refine V.persAs [(10,true)] [rowP (rowT sx2 P1)] (rowP (rowT sx2 P1)) kq (fun k hk=>⟨_,List.mem_singleton.2 rfl,hk⟩) (fun w hw=>hw _ (List.mem_singleton.2 rfl)) (rowP_stab _) ?_;refine V.t [⟨sSame2 sx2 IA0 P1 D1 sx2_okL,[33,34,35,36,37,38,30,31,32]⟩] [((false=false)→(([.agg (inV sx2 D1),.agg (inV sx2 IA0)]:List CV)=[.agg (inV sx2 D1),.agg (inV sx2 IA0)]∨([.agg (inV sx2 D1),.agg (inV sx2 IA0)]:List CV)=[.agg (inV sx2 P1),.agg (inV sx2 IA0)])),((false=false)→(([.agg (inV sx2 P1),.agg (inV sx2 IA0)]:List CV)=[.agg (inV sx2 D1),.agg (inV sx2 IA0)]∨([.agg (inV sx2 P1),.agg (inV sx2 IA0)]:List CV)=[.agg (inV sx2 P1),.agg (inV sx2 IA0)]))] ⟨fun _=>.inl rfl,fun _=>.inr rfl⟩ ?_;refine V.kn 176 false false rfl ?_;refine V.q ?_;refine V.iter ?_;refine V.ungrd ?_;refine V.q ?_;refine V.kn 103 (decide ((2:Int)<4)) true (by decide) ?_;refine V.t [] [(0:Int)≤2∧(2:Int)<4] ⟨by decide,by decide⟩ ?_;refine V.c [(38,false),(35,true),(34,true),(33,true)] (xEncode sx3 IA0 sx3_okL sx3_fine) (fun qc2 _=>?_);refine V.q ?_;refine V.freeze 3 (rowL rlv (0,0) [] qc2.1 qc2.2 62 2 true) kq kq ?_;refine V.c [(39,false),(0,true)] (xDecode [] ⟨[8,2,4,4,30,0,0,0],qc2.1,0,qc2.2⟩ rfl (by decide) 0 ⟨by show 8≤1000000000; decide,Nat.zero_le _⟩ kq) (fun yd2 hd2=>?_);obtain ⟨d2,D2⟩:=yd2;have ed2:d2=sx3:=hd2.trans (sx3_dec qc2.1 qc2.2);subst ed2;refine V.q ?_;refine V.c [(42,false),(39,true),(38,true),(37,true)] (xText sx3 IA0 sx3_okL 8 kq kq kq sx3_fine) (fun _ _=>?_);refine V.q ?_;refine V.c [(42,false)] (xParse [76,79,65,68,32,114,48,32,114,49,32,50,44,49,53,44,48,44,48,44,61] [[76,79,65,68],[114,48],[114,49],[50,44,49,53,44,48,44,48,44,61]] sx3 kq (by decide) kq (by decide) (pok_of sx3_find sx3_pok) sx3_read) (fun yp2 hp2=>?_);obtain ⟨p2,P2⟩:=yp2;have ep2:p2=sx3:=hp2;subst ep2;refine V.persAs [(42,true)] [rowP (rowF sx3 IA0)] (rowP (rowF sx3 IA0)) kq (fun k hk=>⟨_,List.mem_singleton.2 rfl,hk⟩) (fun w hw=>hw _ (List.mem_singleton.2 rfl)) (rowP_stab _) ?_;refine V.persAs [(42,true)] [rowP (rowI sx3 IA0)] (rowP (rowI sx3 IA0)) kq (fun k hk=>⟨_,List.mem_singleton.2 rfl,hk⟩) (fun w hw=>hw _ (List.mem_singleton.2 rfl)) (rowP_stab _) ?_;refine V.persAs [(42,true)] [rowP (rowT sx3 IA0)] (rowP (rowT sx3 IA0)) kq (fun k hk=>⟨_,List.mem_singleton.2 rfl,hk⟩) (fun w hw=>hw _ (List.mem_singleton.2 rfl)) (rowP_stab _) ?_;refine V.persAs [(6,true)] [rowP (rowF sx3 D2)] (rowP (rowF sx3 D2)) kq (fun k hk=>⟨_,List.mem_singleton.2 rfl,hk⟩) (fun w hw=>hw _ (List.mem_singleton.2 rfl)) (rowP_stab _) ?_;refine V.persAs [(8,true)] [rowP (rowI sx3 D2)] (rowP (rowI sx3 D2)) kq (fun k hk=>⟨_,List.mem_singleton.2 rfl,hk⟩) (fun w hw=>hw _ (List.mem_singleton.2 rfl)) (rowP_stab _) ?_;refine V.persAs [(10,true)] [rowP (rowT sx3 D2)] (rowP (rowT sx3 D2)) kq (fun k hk=>⟨_,List.mem_singleton.2 rfl,hk⟩) (fun w hw=>hw _ (List.mem_singleton.2 rfl)) (rowP_stab _) ?_;refine V.persAs [(6,true)] [rowP (rowF sx3 P2)] (rowP (rowF sx3 P2)) kq (fun k hk=>⟨_,List.mem_singleton.2 rfl,hk⟩) (fun w hw=>hw _ (List.mem_singleton.2 rfl)) (rowP_stab _) ?_;refine V.persAs [(8,true)] [rowP (rowI sx3 P2)] (rowP (rowI sx3 P2)) kq (fun k hk=>⟨_,List.mem_singleton.2 rfl,hk⟩) (fun w hw=>hw _ (List.mem_singleton.2 rfl)) (rowP_stab _) ?_;refine V.persAs [(10,true)] [rowP (rowT sx3 P2)] (rowP (rowT sx3 P2)) kq (fun k hk=>⟨_,List.mem_singleton.2 rfl,hk⟩) (fun w hw=>hw _ (List.mem_singleton.2 rfl)) (rowP_stab _) ?_;refine V.t [⟨sSame2 sx3 IA0 P2 D2 sx3_okL,[49,50,51,52,53,54,46,47,48]⟩] [((false=false)→(([.agg (inV sx3 D2),.agg (inV sx3 IA0)]:List CV)=[.agg (inV sx3 D2),.agg (inV sx3 IA0)]∨([.agg (inV sx3 D2),.agg (inV sx3 IA0)]:List CV)=[.agg (inV sx3 P2),.agg (inV sx3 IA0)])),((false=false)→(([.agg (inV sx3 P2),.agg (inV sx3 IA0)]:List CV)=[.agg (inV sx3 D2),.agg (inV sx3 IA0)]∨([.agg (inV sx3 P2),.agg (inV sx3 IA0)]:List CV)=[.agg (inV sx3 P2),.agg (inV sx3 IA0)]))] ⟨fun _=>.inl rfl,fun _=>.inr rfl⟩ ?_;refine V.kn 176 false false rfl ?_;refine V.q ?_;refine V.iter ?_;refine V.ungrd ?_;refine V.q ?_;refine V.kn 103 (decide ((3:Int)<4)) true (by decide) ?_;refine V.t [] [(0:Int)≤3∧(3:Int)<4] ⟨by decide,by decide⟩ ?_;refine V.c [(54,false),(51,true),(48,true),(49,true)] (xEncode sx4 (sA4 g) sx4_okL sx4_fine) (fun qc3 _=>?_);refine V.q ?_;refine V.freeze 4 (rowL rlv (0,0) [(2,5)] qc3.1 qc3.2 62 2 true) kq kq ?_;refine V.c [(55,false),(0,true)] (xDecode [(2,5)] ⟨[17,0,0,0,0,0,2,6],qc3.1,1,qc3.2⟩ rfl (by decide) 0 ⟨by show 8≤1000000000; decide,Nat.zero_le _⟩ kq) (fun yd3 hd3=>?_);obtain ⟨d3,D3⟩:=yd3;have ed3:d3=sx4:=hd3.trans (sx4_dec qc3.1 qc3.2);subst ed3;refine V.q ?_;refine V.c [(58,false),(55,true),(52,true),(53,true)] (xText sx4 (sA4 g) sx4_okL 17 kq kq kq sx4_fine) (fun _ _=>?_);refine V.q ?_;refine V.c [(58,false)] (xParse [67,65,76,76,32,45,32,33,53,32,91,114,50,93] [[67,65,76,76],[45],[33,53],[91,114,50,93]] sx4 kq (by decide) kq (by decide) (pok_of sx4_find sx4_pok) sx4_read) (fun yp3 hp3=>?_);obtain ⟨p3,P3⟩:=yp3;have ep3:p3=sx4:=hp3;subst ep3;refine V.persAs [(58,true)] [rowP (rowF sx4 (sA4 g))] (rowP (rowF sx4 (sA4 g))) kq (fun k hk=>⟨_,List.mem_singleton.2 rfl,hk⟩) (fun w hw=>hw _ (List.mem_singleton.2 rfl)) (rowP_stab _) ?_;refine V.persAs [(56,true)] [rowP (rowI sx4 (sA4 g))] (rowP (rowI sx4 (sA4 g))) kq (fun k hk=>⟨_,List.mem_singleton.2 rfl,hk⟩) (fun w hw=>hw _ (List.mem_singleton.2 rfl)) (rowP_stab _) ?_;refine V.persAs [(58,true)] [rowP (rowT sx4 (sA4 g))] (rowP (rowT sx4 (sA4 g))) kq (fun k hk=>⟨_,List.mem_singleton.2 rfl,hk⟩) (fun w hw=>hw _ (List.mem_singleton.2 rfl)) (rowP_stab _) ?_;refine V.persAs [(6,true)] [rowP (rowF sx4 D3)] (rowP (rowF sx4 D3)) kq (fun k hk=>⟨_,List.mem_singleton.2 rfl,hk⟩) (fun w hw=>hw _ (List.mem_singleton.2 rfl)) (rowP_stab _) ?_;refine V.persAs [(8,true)] [rowP (rowI sx4 D3)] (rowP (rowI sx4 D3)) kq (fun k hk=>⟨_,List.mem_singleton.2 rfl,hk⟩) (fun w hw=>hw _ (List.mem_singleton.2 rfl)) (rowP_stab _) ?_;refine V.persAs [(10,true)] [rowP (rowT sx4 D3)] (rowP (rowT sx4 D3)) kq (fun k hk=>⟨_,List.mem_singleton.2 rfl,hk⟩) (fun w hw=>hw _ (List.mem_singleton.2 rfl)) (rowP_stab _) ?_;refine V.persAs [(6,true)] [rowP (rowF sx4 P3)] (rowP (rowF sx4 P3)) kq (fun k hk=>⟨_,List.mem_singleton.2 rfl,hk⟩) (fun w hw=>hw _ (List.mem_singleton.2 rfl)) (rowP_stab _) ?_;refine V.persAs [(8,true)] [rowP (rowI sx4 P3)] (rowP (rowI sx4 P3)) kq (fun k hk=>⟨_,List.mem_singleton.2 rfl,hk⟩) (fun w hw=>hw _ (List.mem_singleton.2 rfl)) (rowP_stab _) ?_;refine V.persAs [(10,true)] [rowP (rowT sx4 P3)] (rowP (rowT sx4 P3)) kq (fun k hk=>⟨_,List.mem_singleton.2 rfl,hk⟩) (fun w hw=>hw _ (List.mem_singleton.2 rfl)) (rowP_stab _) ?_;refine V.t [⟨sSame2 sx4 (sA4 g) P3 D3 sx4_okL,[65,66,67,68,69,70,62,63,64]⟩] [((false=false)→(([.agg (inV sx4 D3),.agg (inV sx4 (sA4 g))]:List CV)=[.agg (inV sx4 D3),.agg (inV sx4 (sA4 g))]∨([.agg (inV sx4 D3),.agg (inV sx4 (sA4 g))]:List CV)=[.agg (inV sx4 P3),.agg (inV sx4 (sA4 g))])),((false=false)→(([.agg (inV sx4 P3),.agg (inV sx4 (sA4 g))]:List CV)=[.agg (inV sx4 D3),.agg (inV sx4 (sA4 g))]∨([.agg (inV sx4 P3),.agg (inV sx4 (sA4 g))]:List CV)=[.agg (inV sx4 P3),.agg (inV sx4 (sA4 g))]))] ⟨fun _=>.inl rfl,fun _=>.inr rfl⟩ ?_;refine V.kn 176 false false rfl ?_;refine V.q ?_;refine V.iter ?_;exact V.backK [11,101,102] [false,false,false,false,false,false,false,false,false,false,false,false,false,false,false,false,false,false,false,false,false,false,false,false,false,false,false,false,false,false,false,false,false,false,false,false,false,false,false,false,false,false,false,false,false,false,false,false,false,false,false,false,false,false,false,false,false,false,false,false,false,false,false,false,true,true,true,true,false,false,true] (sane_rest ρ0 w0 g) kq kq
 ·have hin:=left_in' he;have hlt:=leftOf_push_lt he;obtain ⟨p,hp,hkey,hval,hb⟩:=snL_mem hin;obtain ⟨ek,ev,eb⟩:=e;simp only at hkey hval hlt;subst hkey hval;refine V.q ?_;refine V.entry it 0 gL 7 7 seen snEs _ kq kq (fun ρ a w hS=>hS.objN (n0:=w0.heap.size) (S:=touch ρ0 glbF) 0 kq) hin sn_nodup kq ?_;refine V.q ?_;refine V.s 1 (.one (.val (.int .i64 p.1))) (.one (.int .i64 p.1)) (fun _=>rfl) ?_;refine V.s 46 (.one (.val (.int .i64 p.1))) (.one (.int .i64 p.1)) (fun _=>rfl) ?_;refine V.s 2 (.one (.val (.string ⟨p.2.toArray⟩))) (.one (.str p.2)) (fun _=>rfl) ?_;refine V.q ?_;refine V.c [] (snN p hp) (fun _ _=>?_);refine V.q ?_;refine V.c [] (snR p hp) (fun _ _=>?_);refine V.q ?_;refine V.kn 77 (((((0:Int) != 0||!p.2==p.2)||(0:Int) != 0)||p.1 != p.1)||(p.2.length:Int) != (p.2.length:Int)) false (by simp) ?_;refine V.q ?_;refine V.iter ?_;exact V.back [39] [] [0] [true,true] (ih (seen.push eb) trivial hlt) kq kq
theorem wrap_in {a:Int} (h:0≤a) (h':a≤4000000000000000000):IntKind.i64.wrap a=a:=by
 simp [IntKind.wrap,IntKind.bits,IntKind.signed]; omega
end Go.Proofs
end
section
namespace Go.Proofs
open Go Go.SX
end Go.Proofs
end
section
namespace Go.Proofs
open Go Go.SX
set_option maxRecDepth 10000
def asF (n e:Int):(Int×Int×List UInt8×List (Int×Int))×Int×Int:=((0,0,[],[]),n,e)
def asW (pr rg:Int) (a:List UInt8×List (Int×Int)):(Int×Int×List UInt8×List (Int×Int))×Int×Int:=match vdS a.2 (xIn a.1) pr rg with
 | some _=>((pr,rg,a.1,a.2),0,0)
 | none=>asF 0 221
end Go.Proofs
end
section
namespace Go.SX
open Go
section
variable {C:Ctx} {ρ:Nat→Nat} {s:St} {a:Act} {w w':World}
end
end Go.SX
namespace Go.SX
open Go
end Go.SX
end
section
namespace Go.Proofs
open Go Go.SX
set_option maxRecDepth 10000
theorem eqL_self {α:Type} {f:α→α→Bool} (h:∀ a,f a a=true):∀ l,eqL f l l=true
 | []=>rfl
 | a::l=>by
  simp only [eqL,h,eqL_self h l,Bool.and_self]
theorem eqIn_self (x:In):eqIn x x=true:=by
 have hF:eqL eqF x.f x.f=true:=eqL_self (fun a=>by simp [eqF]) _;have hI:eqL eqI x.l x.l=true:=eqL_self (fun a=>by simp [eqI]) _;have hT:eqL eqT x.y x.y=true:=eqL_self (fun a=>by simp [eqT]) _;unfold eqIn eqIn1;rw [hF,hI,hT];simp [eqT]
end Go.Proofs
end
section
namespace Go.Proofs
open Go.Shelf
end Go.Proofs
end
section
namespace Go.Proofs
open Go Go.SX
set_option maxRecDepth 10000
theorem xLines (x:In) (A:IA) (line:List UInt8) (hf:x.f.length≤maxLen) (hy:x.y.length≤maxLen) :
  CallsK Tryz.prog 4 [.agg (inV x A),.one (.str line)] (stP (glbP::lsP x A)) (fun _:Unit=>True) (fun _=>.v (.one (.sb true))) (fun _=>noF):=by
 refine CallsK.m true Tryz.func4 (fun ρ w=>?_);refine V.q ?_;refine V.c [(0,false)] sane_ (fun _ _=>?_);refine V.q ?_;refine V.kn 14 (!true) false rfl ?_;refine V.q ?_;refine V.split 18 (decide ((line.length:Int)>20000)) kq (fun hh=>?_) (fun hh=>?_)
 ·refine V.rc [] 2 [] trivial ?_;refine V.sb 4 true ?_;exact V.z
 ·have hln:line.length≤20000:=by have:=of_decide_eq_false hh; omega
  refine V.q ?_;refine V.c [(1,false),(2,false),(3,false)] (cSlim x A hf hy) (fun sl hsl=>?_);refine V.q ?_;refine V.bn 23 (!sl) (fun hb=>?_) (fun hb=>?_)
  ·refine V.q ?_;refine V.sb 4 true ?_;exact V.z
  have hx:x.okL:=hsl (by simpa using hb);refine V.q ?_;refine V.c [(0,false),(1,false),(2,false),(3,false)] (xTextA x A hx) (fun _ _=>?_);refine V.q ?_;refine V.c [(0,false),(1,false),(2,false),(3,false)] (xTextR x A hx.okM) (fun _ _=>?_);refine V.q ?_;refine V.c [(0,false)] (xParseA line (by omega)) (fun y hy1=>?_);refine V.q ?_;refine V.c [(3,false)] (xParseR line (by omega)) (fun z hz=>?_);obtain ⟨y1,B⟩:=y;obtain ⟨z1,D⟩:=z;have hyz:y1=z1:=hy1.trans hz.1.symm;have hzm:z1.okM:=hz.2;subst hyz;refine V.q ?_;refine V.settle 52 true ((txA x).1==(txA x).1&&(txA x).2==(txA x).2) kq (by rw [beq_self_eq_true,beq_self_eq_true]; rfl) ?_;refine V.c [(3,true),(4,true),(5,true),(0,true),(1,true),(2,true)] (cSame26r y1 y1 B D hzm _ rfl) (fun _ _=>?_);refine V.q ?_;refine V.s 4 (.one (.sb (eqIn y1 y1&&(prA line).2==(prA line).2))) (.one (.sb true)) (fun _=>by rw [eqIn_self,beq_self_eq_true]; rfl) ?_;exact V.z
end Go.Proofs
end
section
namespace Go.Proofs.YteinbljapojcgaaGreatDoor
open Go
set_option maxRecDepth 100000
theorem kn0:(Rows.codeLinesRow.wf (OpenSpec.ofChange Rows.codeLinesSpec))=true:=kq
theorem kn1:(laidOutB Tryz.prog)=true:=kq
theorem kn2:(mapsRowed Tryz.prog)=true:=kq
theorem kn3:(Tryz.f4.params.all (Tryz.prog.readableRec ·))=true:=kq
theorem kn4:(namedTie Tryz.prog Rows.codeLinesRow.named Rows.codeLinesSpec.vars)=true:=kq
theorem kn5:((Rows.codeLinesRow.stops==[]))=true:=kq
theorem kn6:((Tryz.prog.stops==[]))=true:=kq
theorem kn7:((Rows.codeLinesRow.knobs==[]))=true:=kq
theorem kn8:((Tryz.prog.stopKnobs==[]))=true:=kq
theorem kn9:((Rows.codeLinesRow.inPlace==Tryz.prog.inPlace 4))=true:=kq
theorem kn10:((Rows.codeLinesRow.unfollowed==Tryz.prog.unfollowed 4))=true:=kq
theorem kn11:((Rows.codeLinesRow.recurses==Tryz.prog.recurses 4))=true:=kq
theorem kn12:((Rows.codeLinesRow.named==Tryz.prog.varsNamed 4))=true:=kq
theorem kn13:((Rows.codeLinesRow.maps==(Tryz.f4.params.toList++Rows.codeLinesSpec.plain.varTypes Tryz.prog).any (Tryz.prog.mapsRec ·)))=true:=kq
theorem kn14:((Rows.codeLinesRow.ifaces==(Tryz.f4.params.toList++Rows.codeLinesSpec.plain.varTypes Tryz.prog).any (Tryz.prog.ifacesRec ·)))=true:=kq
theorem kn15:((Rows.codeLinesRow.mapsOut==Tryz.prog.mapsAmong Tryz.f4.resultTypes.toList))=true:=kq
theorem kn16:((Rows.codeLinesRow.loops==(Tryz.f4.params.toList++Rows.codeLinesSpec.plain.varTypes Tryz.prog).any (Tryz.prog.loopsFrom ·)))=true:=kq
theorem kn17:((Rows.codeLinesRow.wideKeys==(Tryz.f4.params.toList++Rows.codeLinesSpec.plain.varTypes Tryz.prog++Tryz.f4.resultTypes.toList).any (Tryz.prog.wideKeysFrom ·)))=true:=kq
theorem kn18:(Rows.codeLinesSpec.vars.all (Tryz.prog.varReadable ·))=true:=kq
theorem kn19:(Tryz.f4.resultTypes.all (fun t=>Tryz.prog.readableRec t&&decide (t<Tryz.prog.types.size)))=true:=kq
theorem kn20:((Rows.codeLinesRow.ifacesOut==Tryz.f4.resultTypes.toList.any (Tryz.prog.ifacesRec ·)))=true:=kq
theorem kn21:((Rows.codeLinesRow.loopsOut==Tryz.f4.resultTypes.toList.any (Tryz.prog.loopsFrom ·)))=true:=kq
theorem kn22:((Rows.codeLinesRow.plainKeys==Tryz.prog.plainKeys))=true:=kq
theorem kn23:(Rows.codeLinesRow.shortTexts.isNone)=true:=kq
theorem kn24:(Tryz.prog.stopsHeard)=true:=kq
theorem kn25:(Tryz.prog.mayEnter)=true:=kq
theorem kn26:((Rows.codeLinesRow.lifted==Tryz.prog.liftsFinal))=true:=kq
theorem kn27:((Tryz.prog.make==some Rows.codeLinesRow.make))=true:=kq
theorem kn28:((Rows.codeLinesRow.kinds==(if Rows.codeLinesRow.domain.isEmpty then [] else Tryz.f4.params.toList.map fun t=>match Tryz.prog.underlying t with | some (.int k)=>some k | _=>none)))=true:=kq
theorem kn29:((Rows.codeLinesRow.pinned==Rows.codeLinesRow.pinnedBy))=true:=kq
theorem kn30:((Rows.codeLinesRow.veiled==(Tryz.f4.params.toList++Rows.codeLinesSpec.plain.varTypes Tryz.prog++Tryz.f4.resultTypes.toList).any (Tryz.prog.veiledRec ·)))=true:=kq
theorem kn31:(Rows.codeLinesRow.veiledFits Tryz.prog Tryz.f4.params.toList (Tryz.f4.params.toList++Rows.codeLinesSpec.plain.varTypes Tryz.prog++Tryz.f4.resultTypes.toList))=true:=kq
theorem kand {a b:Bool} (ha:a=true) (hb:b=true):(a&&b)=true:=by rw [ha,hb]; rfl
theorem codeLines_joined:joinedFacts Tryz.prog 4 Tryz.f4 Rows.codeLinesSpec Rows.codeLinesRow=true:=by
 unfold joinedFacts;exact kand (kand (kand (kand (kand (kand (kand (kand (kand (kand (kand (kand (kand (kand (kand (kand (kand (kand (kand (kand (kand (kand (kand (kand (kand (kand (kand (kand (kand (kand (kand (kn0) kn1) kn2) kn3) kn4) kn5) kn6) kn7) kn8) kn9) kn10) kn11) kn12) kn13) kn14) kn15) kn16) kn17) kn18) kn19) kn20) kn21) kn22) kn23) kn24) kn25) kn26) kn27) kn28) kn29) kn30) kn31
theorem codeLines_fn:Tryz.prog.funcNamed "pliant/pliantlaw22.CodeLines" = some 4:=kq
theorem codeLines_inst:Tryz.f4.isInstance Tryz.prog Rows.codeLinesRow.origin Rows.codeLinesRow.targs:=of_decide_eq_true kq
theorem codeLines_wrap:Tryz.f4.isWrapper Tryz.prog Rows.codeLinesRow.wrapper Rows.codeLinesRow.mainSum:=by
 unfold Func.isWrapper
 first | (rw [if_pos (by decide +kernel)]; kernel_rfl) | (rw [if_neg (by decide +kernel)]; exact ⟨rfl,rfl⟩)
theorem codeLines_looks:true=Tryz.prog.looks []:=kq
theorem codeLines_goes:false=Rows.codeLinesRow.goesBy Tryz.prog:=kq
theorem codeLines_wft:Rows.codeLinesRow.wfByText (OpenSpec.ofChange Rows.codeLinesSpec)=true:=kq
theorem codeLines_main:Tryz.prog.mainIs=some (true,"8a234a80a232a3bf12a1f1e0dffb9d9eab25744cd05c38bdd5c3d3d044cc81c8".toList):=kq
theorem codeLines_stand:([30,9].all fun u=>!Tryz.prog.wantsStandIn u)=true:=kq
theorem codeLines_par:Tryz.f4.params=#[30,9]:=kq
end Go.Proofs.YteinbljapojcgaaGreatDoor
end
section
namespace Go.Proofs.YteinbljapojcgaaGreatDoor
open Go
set_option maxRecDepth 100000
theorem codeLines_holds (lifted:∀ os:Os,os.Started→∀ (H:Type) (enc:TypeId×Value→H),ReturnsInHanded {} Tryz.checked os 4 .any (fun w args=>(Rows.codeLinesSpec.pre enc Tryz.prog Tryz.f4 [] false w args∧laidMetH Tryz.prog Rows.codeLinesRow.laid w)∧sizedMet enc Tryz.prog Tryz.f4 (OpenSpec.ofChange Rows.codeLinesSpec) false w args)
   (Rows.codeLinesSpec.post enc Tryz.prog Tryz.f4 false true false false)):Rows.CodeLinesSaid :=
 OpenClaim.holds_of_wide 4 Tryz.f4 rfl rfl rfl rfl rfl rfl rfl ⟨rfl,rfl,rfl,rfl,rfl⟩ rfl rfl rfl rfl rfl codeLines_fn Tryz.func4 codeLines_joined codeLines_inst codeLines_wrap (fun os started H enc _=>lifted os started H enc)
theorem codeLines_card (hh:Rows.CodeLinesSaid):Rows.CodeLinesCardSaid :=
 Claim7.holds_tied_plain_at .later [] [.data,.data,.data,.data,.sentinel,.sentinel,.listed,.data,.pinned,.pinned] true (true,"8a234a80a232a3bf12a1f1e0dffb9d9eab25744cd05c38bdd5c3d3d044cc81c8") true hh (fun _ h=>by cases h) codeLines_wft (fun _ h=>by cases h) codeLines_row_tie rfl ⟨rfl,rfl⟩ codeLines_main rfl
  (fun f fn hf hfn=>by
   obtain rfl:f=4:=Option.some.inj (codeLines_fn.symm.trans hf) |>.symm;obtain rfl:fn=Tryz.f4:=(Option.some.inj (Tryz.func4.symm.trans hfn)).symm;exact ⟨codeLines_looks,fun j t ht=>by
    rw [codeLines_par] at ht;have hm:t∈[30,9]:=by simpa using Array.mem_of_getElem? ht
    exact (show Tryz.prog.wantsStandIn t=false by simpa using List.all_eq_true.1 codeLines_stand t hm)⟩)
  codeLines_goes
end Go.Proofs.YteinbljapojcgaaGreatDoor
end
section
namespace Go.Proofs.YteinbljapojcgaaGreatDoor
open Go Go.SX Go.ChangeShapes Go.WideShapes Go.ChangeAt Go.RowKit Go.ChangeMaps
set_option maxRecDepth 100000
theorem ownK:ownKnob Tryz.prog.godebug=none:=kq
theorem persOk_of {ps:List Pers} {w:World} (h:∀ p∈ps,LastP p w∧Stab p):PersOk ps w:=fun p hp =>
 ⟨(h p hp).1.1,fun w' hk=>(h p hp).2 w w' hk (h p hp).1.1,(h p hp).1.2⟩
theorem laid_shaped (os:Os) (args:Array Value):((World.laidAll Tryz.prog os laidL).forCall (fun _ _=>0) ⟨#[],args,[]⟩).Shaped Tryz.prog:=World.shaped_of_ZipB kq kq
theorem laid_met (os:Os) (args:Array Value):laidMetH Tryz.prog laidL ((World.laidAll Tryz.prog os laidL).forCall (fun _ _=>0) ⟨#[],args,[]⟩).memory:=by
 rw [MakeChecks.laidMetH_plain _ _ _ kq];exact laidMet_laidAll _ kq kq
theorem ls_stab (x:In) (A:IA):∀ p∈lsP x A,Stab p:=fun p hp=>by
 simp only [lsP,List.mem_cons,List.not_mem_nil,or_false] at hp;rcases hp with rfl | rfl | rfl<;>exact rowP_stab _
def insZ:Value:=.agg #[.int .i64 0,.int .i64 0,.int .i64 0,.int .i64 0,.int .i64 0,.int .i64 0,.int .i64 0,.bool false,.string ⟨#[]⟩,.int .i64 0,.int .i64 0,.int .i64 0,.bool false,.string ⟨#[]⟩,.int .i64 0,.int .i64 0,.int .i64 0,.bool false,.string ⟨#[]⟩,
  .int .i64 0,.int .i64 0,.int .i64 0,.int .i64 0,.string ⟨#[]⟩,.slice none 0 0,.slice none 0 0,.slice none 0 0,.bool false,.bool false]
theorem lines_lifted (os:Os) (started:os.Started) (H:Type) (enc:TypeId×Value→H) :
  ReturnsInHanded {} Tryz.checked os 4 .any (fun w args=>(Rows.codeLinesSpec.pre enc Tryz.prog Tryz.f4 [] false w args∧laidMetH Tryz.prog laidL w)∧sizedMet enc Tryz.prog Tryz.f4 (OpenSpec.ofChange Rows.codeLinesSpec) false w args)
   (Rows.codeLinesSpec.post enc Tryz.prog Tryz.f4 false true false false):=by
 refine returns_wrap (C:=Tryz.checked) (X:=fun w _=>laidMetH Tryz.prog laidL w) (fun _ _ _ hh h=>h.of_heap hh) ownK started kq Tryz.func4
  (ChangeSpec.witness_shaped (enc:=enc) (C:=Tryz.checked) (os:=os) (X:=fun w _=>laidMetH Tryz.prog laidL w) false (World.laidAll Tryz.prog os laidL) #[insZ,.string ⟨#[]⟩] 8 (World.laidAll_os _ _ _)
   (laid_shaped os _) kq kq kq (laid_met os _)) ?_
 intro W base args ds gs before hval0 hW hL hsh;have hval:∀ (j:Nat) t v,Tryz.f4.params[j]?=some t→args[j]?=some v→Value.okWide Tryz.prog W .any base t v:=hval0;have hW':=hW;obtain ⟨p,q,hA0,hV,rfl,_,_⟩:=hW;have hA:DataW.TrodAll enc Tryz.prog W 0 (fun _=>true) true Tryz.f4.params.toList args.toList ds p:=hA0;have hpar:Tryz.f4.params=#[30,9]:=kq;rw [hpar] at hA hval;obtain ⟨v0,v1,d0,d1,p0,p1,rfl,rfl,rfl,h0,h1⟩:=trodAll_two hA;obtain ⟨rfl,rfl⟩:=trodVars_none hV;obtain ⟨x,A,rfl,hf,_,hy,hls⟩:=open_in (hval 0 30 v0 rfl rfl) h0;obtain ⟨s,rfl,_,_,_⟩:=open_string Tryz.underlying9 (hval 1 9 v1 rfl rfl) h1;have hP:PersOk (glbP::lsP x A) W:=persOk_of (fun p hp=>by
  rcases List.mem_cons.1 hp with rfl | hp
  ·exact ⟨glb_of_laid hL hsh,glbP_stab⟩
  ·exact ⟨hls p hp,ls_stab x A p hp⟩)
 refine (CallsK.gives (xLines x A s.data.toList hf hy) ⟨rfl,rfl,rfl⟩ (fun _ _=>rfl) (fun _=>0) W hP).mono fun e W' ⟨he,hc⟩=>?_;subst he;exact ⟨_,rfl,post_true rfl kq (by rw [hpar]; exact fun t ht=>of_decide_eq_true (List.all_eq_true.1 (show ([30,9].all fun u=>decide (u<Tryz.prog.types.size))=true by kernel_rfl) t ht)) hW' rfl hc⟩
theorem lines_card_holds:Rows.CodeLinesCardSaid:=codeLines_card (codeLines_holds (fun os started H enc=>lines_lifted os started H enc))
end Go.Proofs.YteinbljapojcgaaGreatDoor
end
