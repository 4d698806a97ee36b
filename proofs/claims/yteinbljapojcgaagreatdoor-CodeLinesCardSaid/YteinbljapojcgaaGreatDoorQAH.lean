/- A symbolic run of the program that Lean checks, and what the functions of the program come to by it: part 8 of 12. -/
import Derived.Lib.ItoaLen
import Derived.Test.YteinbljapojcgaaGreatDoorQAG
set_option linter.unusedVariables false
section
namespace Go.Proofs
open Go Go.SX
set_option maxRecDepth 10000
def eqL {α:Type} (f:α→α→Bool):List α→List α→Bool
 | [],[]=>true
 | x::l,y::m=>f x y&&eqL f l m
 | _,_=>false
theorem eqL_len {α:Type} {f:α→α→Bool}:∀ {l m:List α},l.length≠m.length→eqL f l m=false
 | [],[],h=>absurd rfl h
 | [],y::m,_=>rfl
 | x::l,[],_=>rfl
 | x::l,y::m,h=>by
  unfold eqL;rw [eqL_len (l:=l) (m:=m) (by simpa using h),Bool.and_false]
theorem eqL_at {α:Type} {f:α→α→Bool} (d:α):∀ {l m:List α} {i:Nat},i<l.length→i<m.length→f (l.getD i d) (m.getD i d)=false→eqL f l m=false
 | x::l,y::m,0,_,_,h=>by
  unfold eqL;have:f x y=false:=h;rw [this,Bool.false_and]
 | x::l,y::m,i+1,h1,h2,h=>by
  unfold eqL;rw [eqL_at d (l:=l) (m:=m) (i:=i) (by simpa using h1) (by simpa using h2) (by simpa using h),Bool.and_false]
 | [],_,i,h1,_,_=>absurd h1 (Nat.not_lt_zero i)
 | _::_,[],i,_,h2,_=>absurd h2 (Nat.not_lt_zero i)
theorem eqL_all {α:Type} {f:α→α→Bool} (d:α):∀ {l m:List α},l.length=m.length→(∀ i,i<l.length→f (l.getD i d) (m.getD i d)=true)→eqL f l m=true
 | [],[],_,_=>rfl
 | x::l,y::m,h,ha=>by
  unfold eqL;have h0:f x y=true:=ha 0 (by simp);rw [h0,Bool.true_and];exact eqL_all d (by simpa using h) (fun i hi=>by have:=ha (i+1) (by simp; omega); simpa using this)
 | [],_::_,h,_=>by simp at h
 | _::_,[],h,_=>by simp at h
def eqI (a b:Int):Bool:=a==b
def eqT (a b:Ty):Bool:=(a.k==b.k)&&((a.p==b.p)&&((a.q==b.q)&&((a.v==b.v)&&(a.s==b.s))))
def eqF (a b:Fm):Bool:=(a.k==b.k)&&((a.w==b.w)&&((a.d==b.d)&&(a.s==b.s)))
def eqR (a b:Int×Int):Bool:=(a.1==b.1)&&(a.2==b.2)
def sqI (l m:List (Int)) (q q':Option Addr) (c c':Nat) (i:Nat):St :=
 { n:=26,slots:=[(0,.v (.one (.row 0 q l.length c))),(1,.v (.one (.row 1 q' m.length c'))),(12,.v (.one (.int .i64 l.length))),(13,.v (.one (.int .i64 i)))],gs:=[],heap:=[],next:=0,
    rows:=[(0,rowL intv 0 l q c 3 1 false),(1,rowL intv 0 m q' c' 3 1 false)],nr:=2,pers:=[],wr:=true,fx:=0 }
set_option maxHeartbeats 400000 in
theorem cEqI (l m:List (Int)) (q q':Option Addr) (c c':Nat) (hl:l.length≤100000):CallsK Tryz.prog 50 [.one (.val (.slice q l.length c)),.one (.val (.slice q' m.length c'))]
  (psOf [rowP (rowL intv 0 l q c 3 1 false),rowP (rowL intv 0 m q' c' 3 1 false)]) (fun _:Unit=>True) (fun _=>.v (.one (.sb (eqL eqI l m)))) (fun _=>noF):=by
 refine CallsK.m true Tryz.func50 (fun ρ w=>?_);refine V.ar 0 0 (rowL intv 0 l q c 3 1 false) ?_;refine V.ar 1 1 (rowL intv 0 m q' c' 3 1 false) ?_;refine V.q ?_;refine V.bn 10 (!((l.length:Int)==m.length)) (fun hb=>?_) (fun hb=>?_)
 ·have hne:l.length≠m.length:=fun e=>by rw [e] at hb; simp at hb
  refine V.q ?_;rw [eqL_len hne];refine V.sb 4 false ?_;exact V.z
 ·have hlen:l.length=m.length:=by
   simp at hb; omega
  refine V.q ?_;refine V.loopK [0,1,12,13] [] (fun i:Nat=>l.length - i) (sqI l m q q' c c') (fun i=>i≤l.length∧∀ j,j<i→eqI (l.getD j 0) (m.getD j 0)=true) 0 kq ⟨Nat.zero_le _,fun j hj=>absurd hj (Nat.not_lt_zero j)⟩ (fun i hi ih=>?_);obtain ⟨hi,hall⟩:=hi;refine V.iter ?_;refine V.q ?_;refine V.bn 14 (decide ((i:Int)<l.length)) (fun hc=>?_) (fun hc=>?_)
  ·have hlt:i<l.length:=by simpa using hc
   refine V.t [] [(0:Int)≤i∧(i:Int)<l.length,(0:Int)≤i∧(i:Int)<m.length] ⟨⟨by omega,by omega⟩,⟨by omega,by omega⟩⟩ ?_;refine V.bn 24 (!eqI (l.getD i 0) (m.getD i 0)) (fun hf=>?_) (fun hf=>?_)
   ·refine V.q ?_;rw [eqL_at 0 hlt (by omega) (by simpa using hf)];refine V.sb 4 false ?_;exact V.z
   ·refine V.q ?_;refine V.up 13 i (by omega) ?_;refine V.againK [0,1,12,13] [] (ih (i+1) ⟨hlt,fun j hj=>?_⟩ (by omega)) kq kq;by_cases e:j=i
    ·subst e; simpa using hf
    ·exact hall j (by omega)
  ·have hle:l.length=i:=by
    have:¬ i<l.length:=by simpa using hc
    omega
   refine V.q ?_;rw [eqL_all 0 hlen (fun j hj=>hall j (by omega))];refine V.sb 4 true ?_;exact V.z
def sqT (l m:List (Ty)) (q q':Option Addr) (c c':Nat) (i:Nat):St :=
 { n:=26,slots:=[(0,.v (.one (.row 0 q l.length c))),(1,.v (.one (.row 1 q' m.length c'))),(12,.v (.one (.int .i64 l.length))),(13,.v (.one (.int .i64 i)))],gs:=[],heap:=[],next:=0,
    rows:=[(0,rowL Ty.cells ty0 l q c 23 5 false),(1,rowL Ty.cells ty0 m q' c' 23 5 false)],nr:=2,pers:=[],wr:=true,fx:=0 }
set_option maxHeartbeats 400000 in
theorem cEqT (l m:List (Ty)) (q q':Option Addr) (c c':Nat) (hl:l.length≤100000):CallsK Tryz.prog 236 [.one (.val (.slice q l.length c)),.one (.val (.slice q' m.length c'))]
  (psOf [rowP (rowL Ty.cells ty0 l q c 23 5 false),rowP (rowL Ty.cells ty0 m q' c' 23 5 false)]) (fun _:Unit=>True) (fun _=>.v (.one (.sb (eqL eqT l m)))) (fun _=>noF):=by
 refine CallsK.m true Tryz.func236 (fun ρ w=>?_);refine V.ar 0 0 (rowL Ty.cells ty0 l q c 23 5 false) ?_;refine V.ar 1 1 (rowL Ty.cells ty0 m q' c' 23 5 false) ?_;refine V.q ?_;refine V.bn 10 (!((l.length:Int)==m.length)) (fun hb=>?_) (fun hb=>?_)
 ·have hne:l.length≠m.length:=fun e=>by rw [e] at hb; simp at hb
  refine V.q ?_;rw [eqL_len hne];refine V.sb 4 false ?_;exact V.z
 ·have hlen:l.length=m.length:=by
   simp at hb; omega
  refine V.q ?_;refine V.loopK [0,1,12,13] [] (fun i:Nat=>l.length - i) (sqT l m q q' c c') (fun i=>i≤l.length∧∀ j,j<i→eqT (l.getD j ty0) (m.getD j ty0)=true) 0 kq ⟨Nat.zero_le _,fun j hj=>absurd hj (Nat.not_lt_zero j)⟩ (fun i hi ih=>?_);obtain ⟨hi,hall⟩:=hi;refine V.iter ?_;refine V.q ?_;refine V.bn 14 (decide ((i:Int)<l.length)) (fun hc=>?_) (fun hc=>?_)
  ·have hlt:i<l.length:=by simpa using hc
   refine V.t [] [(0:Int)≤i∧(i:Int)<l.length,(0:Int)≤i∧(i:Int)<m.length] ⟨⟨by omega,by omega⟩,⟨by omega,by omega⟩⟩ ?_;refine V.bn 24 (!eqT (l.getD i ty0) (m.getD i ty0)) (fun hf=>?_) (fun hf=>?_)
   ·refine V.q ?_;rw [eqL_at ty0 hlt (by omega) (by simpa using hf)];refine V.sb 4 false ?_;exact V.z
   ·refine V.q ?_;refine V.up 13 i (by omega) ?_;refine V.againK [0,1,12,13] [] (ih (i+1) ⟨hlt,fun j hj=>?_⟩ (by omega)) kq kq;by_cases e:j=i
    ·subst e; simpa using hf
    ·exact hall j (by omega)
  ·have hle:l.length=i:=by
    have:¬ i<l.length:=by simpa using hc
    omega
   refine V.q ?_;rw [eqL_all ty0 hlen (fun j hj=>hall j (by omega))];refine V.sb 4 true ?_;exact V.z
def sqF (l m:List (Fm)) (q q':Option Addr) (c c':Nat) (i:Nat):St :=
 { n:=26,slots:=[(0,.v (.one (.row 0 q l.length c))),(1,.v (.one (.row 1 q' m.length c'))),(12,.v (.one (.int .i64 l.length))),(13,.v (.one (.int .i64 i)))],gs:=[],heap:=[],next:=0,
    rows:=[(0,rowL Fm.cells fm0 l q c 93 4 false),(1,rowL Fm.cells fm0 m q' c' 93 4 false)],nr:=2,pers:=[],wr:=true,fx:=0 }
set_option maxHeartbeats 400000 in
theorem cEqF (l m:List (Fm)) (q q':Option Addr) (c c':Nat) (hl:l.length≤100000):CallsK Tryz.prog 235 [.one (.val (.slice q l.length c)),.one (.val (.slice q' m.length c'))]
  (psOf [rowP (rowL Fm.cells fm0 l q c 93 4 false),rowP (rowL Fm.cells fm0 m q' c' 93 4 false)]) (fun _:Unit=>True) (fun _=>.v (.one (.sb (eqL eqF l m)))) (fun _=>noF):=by
 refine CallsK.m true Tryz.func235 (fun ρ w=>?_);refine V.ar 0 0 (rowL Fm.cells fm0 l q c 93 4 false) ?_;refine V.ar 1 1 (rowL Fm.cells fm0 m q' c' 93 4 false) ?_;refine V.q ?_;refine V.bn 10 (!((l.length:Int)==m.length)) (fun hb=>?_) (fun hb=>?_)
 ·have hne:l.length≠m.length:=fun e=>by rw [e] at hb; simp at hb
  refine V.q ?_;rw [eqL_len hne];refine V.sb 4 false ?_;exact V.z
 ·have hlen:l.length=m.length:=by
   simp at hb; omega
  refine V.q ?_;refine V.loopK [0,1,12,13] [] (fun i:Nat=>l.length - i) (sqF l m q q' c c') (fun i=>i≤l.length∧∀ j,j<i→eqF (l.getD j fm0) (m.getD j fm0)=true) 0 kq ⟨Nat.zero_le _,fun j hj=>absurd hj (Nat.not_lt_zero j)⟩ (fun i hi ih=>?_);obtain ⟨hi,hall⟩:=hi;refine V.iter ?_;refine V.q ?_;refine V.bn 14 (decide ((i:Int)<l.length)) (fun hc=>?_) (fun hc=>?_)
  ·have hlt:i<l.length:=by simpa using hc
   refine V.t [] [(0:Int)≤i∧(i:Int)<l.length,(0:Int)≤i∧(i:Int)<m.length] ⟨⟨by omega,by omega⟩,⟨by omega,by omega⟩⟩ ?_;refine V.bn 24 (!eqF (l.getD i fm0) (m.getD i fm0)) (fun hf=>?_) (fun hf=>?_)
   ·refine V.q ?_;rw [eqL_at fm0 hlt (by omega) (by simpa using hf)];refine V.sb 4 false ?_;exact V.z
   ·refine V.q ?_;refine V.up 13 i (by omega) ?_;refine V.againK [0,1,12,13] [] (ih (i+1) ⟨hlt,fun j hj=>?_⟩ (by omega)) kq kq;by_cases e:j=i
    ·subst e; simpa using hf
    ·exact hall j (by omega)
  ·have hle:l.length=i:=by
    have:¬ i<l.length:=by simpa using hc
    omega
   refine V.q ?_;rw [eqL_all fm0 hlen (fun j hj=>hall j (by omega))];refine V.sb 4 true ?_;exact V.z
def sqR (l m:List (Int×Int)) (q q':Option Addr) (c c':Nat) (i:Nat):St :=
 { n:=26,slots:=[(0,.v (.one (.row 0 q l.length c))),(1,.v (.one (.row 1 q' m.length c'))),(12,.v (.one (.int .i64 l.length))),(13,.v (.one (.int .i64 i)))],gs:=[],heap:=[],next:=0,
    rows:=[(0,rowL rlv (0,0) l q c 62 2 false),(1,rowL rlv (0,0) m q' c' 62 2 false)],nr:=2,pers:=[],wr:=true,fx:=0 }
set_option maxHeartbeats 400000 in
theorem cEqR (l m:List (Int×Int)) (q q':Option Addr) (c c':Nat) (hl:l.length≤1000000000):CallsK Tryz.prog 36 [.one (.val (.slice q l.length c)),.one (.val (.slice q' m.length c'))]
  (psOf [rowP (rowL rlv (0,0) l q c 62 2 false),rowP (rowL rlv (0,0) m q' c' 62 2 false)]) (fun _:Unit=>True) (fun _=>.v (.one (.sb (eqL eqR l m)))) (fun _=>noF):=by
 refine CallsK.m true Tryz.func36 (fun ρ w=>?_);refine V.ar 0 0 (rowL rlv (0,0) l q c 62 2 false) ?_;refine V.ar 1 1 (rowL rlv (0,0) m q' c' 62 2 false) ?_;refine V.q ?_;refine V.bn 10 (!((l.length:Int)==m.length)) (fun hb=>?_) (fun hb=>?_)
 ·have hne:l.length≠m.length:=fun e=>by rw [e] at hb; simp at hb
  refine V.q ?_;rw [eqL_len hne];refine V.sb 4 false ?_;exact V.z
 ·have hlen:l.length=m.length:=by
   simp at hb; omega
  refine V.q ?_;refine V.loopK [0,1,12,13] [] (fun i:Nat=>l.length - i) (sqR l m q q' c c') (fun i=>i≤l.length∧∀ j,j<i→eqR (l.getD j (0,0)) (m.getD j (0,0))=true) 0 kq ⟨Nat.zero_le _,fun j hj=>absurd hj (Nat.not_lt_zero j)⟩ (fun i hi ih=>?_);obtain ⟨hi,hall⟩:=hi;refine V.iter ?_;refine V.q ?_;refine V.bn 14 (decide ((i:Int)<l.length)) (fun hc=>?_) (fun hc=>?_)
  ·have hlt:i<l.length:=by simpa using hc
   refine V.t [] [(0:Int)≤i∧(i:Int)<l.length,(0:Int)≤i∧(i:Int)<m.length] ⟨⟨by omega,by omega⟩,⟨by omega,by omega⟩⟩ ?_;refine V.bn 24 (!eqR (l.getD i (0,0)) (m.getD i (0,0))) (fun hf=>?_) (fun hf=>?_)
   ·refine V.q ?_;rw [eqL_at (0,0) hlt (by omega) (by simpa using hf)];refine V.sb 4 false ?_;exact V.z
   ·refine V.q ?_;refine V.up 13 i (by omega) ?_;refine V.againK [0,1,12,13] [] (ih (i+1) ⟨hlt,fun j hj=>?_⟩ (by omega)) kq kq;by_cases e:j=i
    ·subst e; simpa using hf
    ·exact hall j (by omega)
  ·have hle:l.length=i:=by
    have:¬ i<l.length:=by simpa using hc
    omega
   refine V.q ?_;rw [eqL_all (0,0) hlen (fun j hj=>hall j (by omega))];refine V.sb 4 true ?_;exact V.z
section
variable (x y:In) (A B:IA)
noncomputable def sEqI (h:x.l.length≤100000):Con Tryz.prog:=Con.inst 50 [rowP (rowI x A),rowP (rowI y B)] [.one (.val (.slice A.ql x.l.length A.cl)),.one (.val (.slice B.ql y.l.length B.cl))] (.v (.one (.sb (eqL eqI x.l y.l))))
 (CallsK.gives (cEqI x.l y.l A.ql B.ql A.cl B.cl h) ⟨rfl,rfl,rfl⟩ (fun _ _=>rfl))
noncomputable def sEqT (h:x.y.length≤100000):Con Tryz.prog:=Con.inst 236 [rowP (rowT x A),rowP (rowT y B)] [.one (.val (.slice A.qy x.y.length A.cy)),.one (.val (.slice B.qy y.y.length B.cy))] (.v (.one (.sb (eqL eqT x.y y.y))))
 (CallsK.gives (cEqT x.y y.y A.qy B.qy A.cy B.cy h) ⟨rfl,rfl,rfl⟩ (fun _ _=>rfl))
noncomputable def sEqF (h:x.f.length≤100000):Con Tryz.prog:=Con.inst 235 [rowP (rowF x A),rowP (rowF y B)] [.one (.val (.slice A.qf x.f.length A.cf)),.one (.val (.slice B.qf y.f.length B.cf))] (.v (.one (.sb (eqL eqF x.f y.f))))
 (CallsK.gives (cEqF x.f y.f A.qf B.qf A.cf B.cf h) ⟨rfl,rfl,rfl⟩ (fun _ _=>rfl))
def lsP:List Pers:=[rowP (rowF x A),rowP (rowI x A),rowP (rowT x A)]
noncomputable def TS6 (hf:x.f.length≤100000) (hl:x.l.length≤100000) (hy:x.y.length≤100000):List (Ent Tryz.prog):=[⟨sEqF x y A B hf,[5,2]⟩,⟨sEqI x y A B hl,[4,1]⟩,⟨sEqT x y A B hy,[3,0]⟩]
noncomputable def aSame (hf:x.f.length≤100000) (hl:x.l.length≤100000) (hy:x.y.length≤100000):Con Tryz.prog:=Con.auto Tryz.func117 true (TS6 x y A B hf hl hy) (lsP x A++lsP y B) kq kq
end
def eqIn1 (x y:In):Bool:=x.op==y.op&&x.d==y.d&&x.a==y.a&&x.b==y.b&&eqT x.t y.t&&eqT x.u y.u&&eqT x.w y.w&&x.n==y.n&&x.m==y.m&&x.p==y.p&&(x.vn==y.vn&&x.vs==y.vs)
def eqIn (x y:In):Bool:=eqIn1 x y&&eqL eqF x.f y.f&&eqL eqI x.l y.l&&eqL eqT x.y y.y&&x.size==y.size&&x.range==y.range
noncomputable def sSame (x y:In) (A B:IA) (hf:x.f.length≤100000) (hl:x.l.length≤100000) (hy:x.y.length≤100000):Con Tryz.prog :=
 Con.inst 117 (lsP x A++lsP y B) [.agg (inV x A),.agg (inV y B)] (.v (.one (.sb (eqIn x y)))) (fun ρ w hp =>
  (aSame x y A B hf hl hy).ok [.agg (inV x A),.agg (inV y B)] (.v (.one (.sb (eqIn x y))))
   [eqIn1 x y=true→([.one (.val (.slice A.qf x.f.length A.cf)),.one (.val (.slice B.qf y.f.length B.cf))]:List CV)=[.one (.val (.slice A.qf x.f.length A.cf)),.one (.val (.slice B.qf y.f.length B.cf))],
       (eqIn1 x y&&eqL eqF x.f y.f)=true→([.one (.val (.slice A.ql x.l.length A.cl)),.one (.val (.slice B.ql y.l.length B.cl))]:List CV)=[.one (.val (.slice A.ql x.l.length A.cl)),.one (.val (.slice B.ql y.l.length B.cl))],
       (eqIn1 x y&&eqL eqF x.f y.f&&eqL eqI x.l y.l)=true→([.one (.val (.slice A.qy x.y.length A.cy)),.one (.val (.slice B.qy y.y.length B.cy))]:List CV)=[.one (.val (.slice A.qy x.y.length A.cy)),.one (.val (.slice B.qy y.y.length B.cy))]]
   kq (by
    intro p hp;rcases List.mem_cons.1 hp with rfl | hp
    ·exact fun _=>rfl
    ·rcases List.mem_cons.1 hp with rfl | hp
     ·exact fun _=>rfl
     ·rw [List.mem_singleton.1 hp]; exact fun _=>rfl) ρ w hp (by
    intro z hz y' hy';rcases List.mem_cons.1 hz with rfl | hz
    ·simp only [CV.svs,inV,inC,List.mem_cons,List.not_mem_nil,or_false] at hy';rcases hy' with rfl | rfl | rfl | rfl | rfl | rfl | rfl | rfl | rfl | rfl | rfl | rfl | rfl | rfl | rfl | rfl | rfl | rfl | rfl | rfl | rfl | rfl | rfl | rfl | rfl | rfl | rfl | rfl | rfl<;>trivial
    ·rw [List.mem_singleton.1 hz] at hy';simp only [CV.svs,inV,inC,List.mem_cons,List.not_mem_nil,or_false] at hy';rcases hy' with rfl | rfl | rfl | rfl | rfl | rfl | rfl | rfl | rfl | rfl | rfl | rfl | rfl | rfl | rfl | rfl | rfl | rfl | rfl | rfl | rfl | rfl | rfl | rfl | rfl | rfl | rfl | rfl | rfl<;>trivial))
noncomputable def aRegText:Con Tryz.prog:=Con.auto Tryz.func156 true [⟨sItoa,[0]⟩] [glbP] kq kq
def rgT (n:Int):List UInt8:=bif decide (n<0) then [45] else [114]++Lib.itoa n
theorem rgT_len {n:Int} (h0:-9223372036854775808≤n) (h1:n≤9223372036854775807):(rgT n).length≤22:=by
 have:=Lib.itoa_length_le n h0 h1;unfold rgT;cases decide (n<0)<;>simp; omega
noncomputable def sRegText:Con Tryz.prog:=aRegText.as (fun xs=>match xs with
  | [.one (.int .i64 n)]=>some (.v (.one (.str (rgT n))),[inK .i64 n])
  | _=>none) (by
 intro xs v ob h hob;split at h
 ·rename_i n;simp only [Option.some.injEq,Prod.mk.injEq] at h;obtain ⟨rfl,rfl⟩:=h;have hs:=hob _ (List.mem_singleton.2 rfl);refine ⟨.v (.one (.str (rgT n))),[decide (n<0)=false→inK IntKind.i64 n,decide (n<0)=false→1+(Lib.itoa n).length≤9223372036854775807],kq,?_,fun _=>rfl⟩;intro p hp;rcases List.mem_cons.1 hp with rfl | hp
  ·exact fun _=>hs
  ·rw [List.mem_singleton.1 hp];intro _;have:=Lib.itoa_length_le n hs.1 hs.2;omega
 ·cases h)
def ltI (x:In) (A:IA) (ct:Nat) (j:GL (List UInt8)):St :=
 { n:=28,slots:=[(2,.v (.one (.val (.pointer (some ⟨ct,0,none⟩))))),(5,.v (.one (.row 0 j.q j.l.length j.c))),(11,.v (.one (.row 1 A.ql x.l.length A.cl))),(12,.v (.one (.int .i64 x.l.length))),(13,.v (.one (.int .i64 j.i)))],gs:=[],
    heap:=[],next:=0,rows:=[(0,rowL strS [] j.l j.q j.c 9 1 true),(1,rowI x A)],nr:=2,pers:=[blkP ct [fnV 156] 101,glbP],wr:=true,fx:=0 }
noncomputable def TT7:List (Ent Tryz.prog):=[selI.e,⟨sRegText,[0]⟩]
theorem joinTail_len (b:Nat):∀ (l:List (List UInt8)),(∀ x∈l,x.length≤b)→(Lib.joinTail [59] l).length≤(b+1)*l.length
 | [],_=>by simp [Lib.joinTail]
 | x::l,h=>by
  have ih:=joinTail_len b l (fun y hy=>h y (List.mem_cons_of_mem _ hy));have hx:=h x (List.mem_cons_self ..);have e:Lib.joinTail [59] (x::l)=[59]++x++Lib.joinTail [59] l:=rfl;rw [e,List.length_append,List.length_append,List.length_cons,List.length_cons,List.length_nil,Nat.mul_succ];omega
theorem join_len (b:Nat) (l:List (List UInt8)) (h:∀ x∈l,x.length≤b):(Lib.join l [59]).length≤(b+1)*l.length:=by
 cases l with
 | nil=>simp [Lib.join_nil]
 | cons x l =>
  have ih:=joinTail_len b l (fun y hy=>h y (List.mem_cons_of_mem _ hy));have hx:=h x (List.mem_cons_self ..);rw [Lib.join_cons,List.length_append,List.length_cons,Nat.mul_succ];omega
theorem fineI_lt {n:Int} (h:fineI n=true):0≤n∧n<4000:=by
 simp [fineI,isRg] at h; omega
set_option maxHeartbeats 400000 in
theorem lTextI (x:In) (A:IA) (cb ct:Nat) (hl:x.l.length≤1000) (hf:x.l.all fineI=true):CallsK Tryz.prog 265 [.agg (inV x A),.one (.val (.pointer (some ⟨cb,0,none⟩))),.one (.val (.pointer (some ⟨ct,0,none⟩)))] (psOf [blkP cb [fnV 190] 212,blkP ct [fnV 156] 101,rowP (rowI x A),glbP])
  (fun _:Unit=>True) (fun _=>.v (.one (.str ([91]++Lib.join (x.l.map rgT) [59]++[93])))) (fun _=>noF):=by
 refine CallsK.m true Tryz.func265 (fun ρ w=>?_);refine V.t TT7 [] trivial ?_;refine V.lp 0 212 cb 0 [fnV 190] 212 (.one (fnV 190)) ?_;refine V.t TT7 [] trivial ?_;refine V.ar 11 2 (rowI x A) ?_;refine V.nilL strS [] 5 9 1 kq kq ?_;refine V.loopK [2,5,11,12,13] [false,true,false,true] (fun j:GL (List UInt8)=>x.l.length - j.i) (ltI x A ct) (fun j=>j.i≤x.l.length∧j.l=(x.l.take j.i).map rgT) ⟨⟨0,false⟩,[],none,0,0⟩ kq ⟨Nat.zero_le _,rfl⟩ (fun j hj ih=>?_);obtain ⟨r0,l,q,c,i⟩:=j;obtain ⟨hi,hll⟩:=hj;simp only at hi hll;have hlen:l.length=i:=by rw [hll,List.length_map,List.length_take]; omega
 refine V.iter ?_;refine V.t TT7 [] trivial ?_;refine V.bn 14 (decide ((i:Int)<x.l.length)) (fun hb=>?_) (fun hb=>?_)
 ·have hlt:i<x.l.length:=by simpa using hb
  have hfe:=all_get hlt 0 hf;have hn1:0≤x.l.getD i 0∧x.l.getD i 0<4000:=fineI_lt hfe;refine V.t TT7 [(0:Int)≤i∧(i:Int)<x.l.length] ⟨by omega,by omega⟩ ?_;refine V.lp 0 101 ct 0 [fnV 156] 101 (.one (fnV 156)) ?_;refine V.t TT7 [inK .i64 (x.l.getD i 0)] ⟨by omega,by omega⟩ ?_;refine V.push strS [] l (rgT (x.l.getD i 0)) 0 q c 9 1 [.str (rgT (x.l.getD i 0))] 16 kq (by omega) rfl (fun _ _=>kq) (fun q' c'=>?_);refine V.t TT7 [] trivial ?_;refine V.up 13 i (by omega) ?_;refine V.againK [2,5,11,12,13] [true,true] (ih ⟨r0,l++[rgT (x.l.getD i 0)],q',c',i+1⟩ ⟨hlt,?_⟩ (by simp only; omega)) kq kq;simp only;rw [hll,List.take_add_one,List.getElem?_eq_getElem hlt,List.map_append,List.getD,List.getElem?_eq_getElem hlt];rfl
 ·have hle:x.l.length=i:=by
   have:¬ i<x.l.length:=by simpa using hb
   omega
  have hl2:l=x.l.map rgT:=by rw [hll,← hle,List.take_length]
  have hj:(Lib.join l [59]).length≤23*1000:=by
   refine Nat.le_trans (join_len 22 l (fun y hy=>?_)) (by rw [hlen]; omega);rw [hl2] at hy;obtain ⟨n,hn,rfl⟩:=List.mem_map.1 hy;have:=List.all_eq_true.1 hf n hn;have:=fineI_lt this;exact rgT_len (by omega) (by omega)
  refine V.t TT7 [] trivial ?_;refine V.c [] (cJoin l [59] q c (by omega) (by omega)) (fun _ _=>?_);have o1:1+(Lib.join l [59]).length≤9223372036854775807:=by omega
  have o2:(([91]:List UInt8)++Lib.join l [59]).length+1≤9223372036854775807:=by rw [List.length_append]; show 1+_+1≤_; omega
  refine V.t TT7 [(1+(Lib.join l [59]).length:Nat)≤9223372036854775807,((([91]:List UInt8)++Lib.join l [59]).length+1:Nat)≤9223372036854775807] ⟨o1,o2⟩ ?_;rw [← hl2];exact V.z
noncomputable def aSomeR:Con Tryz.prog:=Con.auto Tryz.func188 true [⟨sRegOf,[0]⟩] [glbP] kq kq
def smB (p:List UInt8):Bool:=regB p&&decide (regN p≥0)
def psLs:List Int→List (List UInt8)→List Int×Bool
 | l,[]=>(l,true)
 | l,p::ps=>if (!smB p||(l.length:Int)==16)=true then (l,false) else psLs (l++[regN p]) ps
structure PL where
 l:List Int
 q:Option Addr
 c:Nat
def pxI (x:In) (j:PL):In:={ x with l:=j.l }
def paI (A:IA) (j:PL):IA:={ A with ql:=j.q,cl:=j.c }
def lB (s:List UInt8):Bool:=Lib.hasPrefix s [91]&&Lib.hasSuffix (Lib.trimPrefix s [91]) [93]
def lS (s:List UInt8):List UInt8:=Lib.trimSuffix (Lib.trimPrefix s [91]) [93]
def lqI (x:In) (A:IA) (cp:Nat) (j:PL):St :=
 { n:=60,slots:=[(2,.v (.one (.val (.pointer (some ⟨cp,0,none⟩))))),(3,.v (.one (.ptr 1 0))),(5,.v (.one (.ptr 2 0))),(6,.v (.one (.ptr 3 0)))],gs:=[],
    heap:=[(0,⟨inO (pxI x j) (paI A j),30,true⟩),(1,⟨[fnV 190],212,false⟩),(2,⟨[.ptr 0 0],157,true⟩),(3,⟨[.bool false],4,true⟩)],next:=4,rows:=inRows (pxI x j) (paI A j),nr:=3,pers:=[blkP cp [fnV 188] 201,glbP],wr:=true,fx:=1 }
theorem splitC_el (c:UInt8):∀ (s:List UInt8),∀ p∈splitC c s,p.length≤s.length
 | [],p,hp=>by
  simp [splitC] at hp; subst hp; simp
 | x::l,p,hp=>by
  have ih:=splitC_el c l;rw [splitC] at hp;split at hp
  ·rcases List.mem_cons.1 hp with rfl | hp
   ·simp
   ·have:=ih p hp; simp; omega
  ·split at hp
   ·rename_i h t e;rw [e] at ih;rcases List.mem_cons.1 hp with rfl | hp
    ·have:=ih h (List.mem_cons_self ..); simp; omega
    ·have:=ih p (List.mem_cons_of_mem _ hp); simp; omega
   ·rw [List.mem_singleton] at hp; subst hp; simp
theorem partsC_el (c:UInt8) (s:List UInt8):∀ p∈partsC c s,p.length≤s.length:=by
 unfold partsC;split
 ·intro p hp; simp at hp
 ·exact splitC_el c _
noncomputable def T8:List (Ent Tryz.prog):=[selI.e,⟨aSomeR,[0]⟩,sCutPrefix.e,sCutSuffix.e]
set_option maxHeartbeats 400000 in
theorem lParseI (s:List UInt8) (x:In) (A:IA) (cp cb:Nat) (hp:12≤cp) (hc:12≤cb) (hs:s.length<1000000000) (hl:x.l.length≤1000):CallsK Tryz.prog 266 [.one (.str s),.one (.ptr 0 0),.one (.val (.pointer (some ⟨cp,0,none⟩))),.one (.val (.pointer (some ⟨cb,0,none⟩)))]
  (psF [blkP cb [fnV 190] 212,blkP cp [fnV 188] 201,glbP] x A)
  (fun y:PL=>lB s=true→y.l=(psLs x.l (partsC 59 (lS s))).1) (fun y=>.v (.one (.sb (lB s&&(psLs x.l (partsC 59 (lS s))).2)))) (fun y=>psF [] (pxI x y) (paI A y)):=by
 have hl1:(Lib.trimPrefix s [91]).length≤s.length:=trimP_len s [91] (Nat.le_refl _);refine CallsK.m true Tryz.func266 (fun ρ w=>?_);refine V.blkInL 3 cb [fnV 190] 212 [blkP cp [fnV 188] 201,glbP] kq kq kq kq kq (fun w h1 h2 p hp=>by
  rcases List.mem_cons.1 hp with rfl | hp
  ·exact blk_apart (by decide) w h1 (h2 _ (List.mem_cons_self ..))
  ·rw [List.mem_singleton] at hp; subst hp;intro hd; have:cb<12:=hd; omega) ?_
 refine V.t T8 [(Lib.trimPrefix s [91]).length≤9223372036854775807] (by show _≤_; omega) ?_;refine V.bn 27 (!Lib.hasPrefix s [91]||!Lib.hasSuffix (Lib.trimPrefix s [91]) [93]) (fun hb=>?_) (fun hb=>?_)
 ·refine V.t T8 [] trivial ?_;have hb0:lB s=false:=by
   unfold lB;revert hb;cases Lib.hasPrefix s [91]<;>cases Lib.hasSuffix (Lib.trimPrefix s [91]) [93]<;>simp
  rw [show (lB s&&(psLs x.l (partsC 59 (lS s))).2)=false by rw [hb0]; rfl];refine V.cellAs 3 0 ⟨[.bool false],4,true⟩ (.bool false) (.sb false) kq rfl kq (fun _=>rfl) ?_;exact V.e ⟨x.l,A.ql,A.cl⟩ [] (fun h=>by rw [hb0] at h; cases h)
 ·have hb1:lB s=true:=by
   unfold lB;revert hb;cases Lib.hasPrefix s [91]<;>cases Lib.hasSuffix (Lib.trimPrefix s [91]) [93]<;>simp
  have hl2:(lS s).length≤s.length:=by
   refine Nat.le_trans ?_ hl1;unfold lS Lib.trimSuffix;split
   ·simp
   ·exact Nat.le_refl _
  have hel:∀ i,((partsC 59 (lS s)).getD i []).length≤281474976710656:=by
   intro i;rw [List.getD];cases e:(partsC 59 (lS s))[i]? with
   | none=>simp
   | some p=>have:=partsC_el 59 (lS s) p (List.mem_of_getElem? e); simp only [Option.getD_some]; omega
  rw [show (lB s&&(psLs x.l (partsC 59 (lS s))).2)=(psLs x.l (partsC 59 (lS s))).2 by rw [hb1]; rfl];refine V.t T8 [] trivial ?_;refine V.c [] (cParts 59 (lS s)) (fun _ _=>?_);refine V.q ?_;refine V.rangeFc (lqI x A cp) ⟨fun _=>rfl,fun _=>rfl,fun _=>rfl,fun _=>rfl,fun _=>rfl,fun _=>rfl,fun _=>rfl,fun _=>rfl⟩
   (fun i j=>psLs x.l (partsC 59 (lS s))=psLs j.l ((partsC 59 (lS s)).drop i)∧j.l.length≤x.l.length+i) (fun cd j=>cd=.ret∧psLs x.l (partsC 59 (lS s))=(j.l,false)) (fun i=>[.one (.str ((partsC 59 (lS s)).getD i []))]) (fun i ρ=>rfl)
   ⟨x.l,A.ql,A.cl⟩ [2,3,5,6] [true,true] [(1,false)] (parts_iter 59 (lS s) (by omega)) kq kq ⟨rfl,Nat.le_refl _⟩ kq kq kq (fun i=>kq) (fun i=>kq)
   (fun i j ρ1 W l r q hi hx=>?_) (fun j l r q hx=>?_) (fun cd j l r q hx=>?_)
  ·obtain ⟨hps,hjl⟩:=hx;have hN:=partsC_len 59 (lS s);have hdrop:(partsC 59 (lS s)).drop i=(partsC 59 (lS s)).getD i []::(partsC 59 (lS s)).drop (i+1):=by
    rw [List.drop_eq_getElem_cons hi,List.getD,List.getElem?_eq_getElem hi]; rfl
   rw [hdrop,psLs] at hps;refine V.t T8 [] trivial ?_;refine V.begin 4 l (recOf q none) kq rfl kq rfl ?_;refine V.t T8 [] trivial ?_;refine V.lp 0 201 cp 0 [fnV 188] 201 (.one (fnV 188)) ?_;refine V.t T8 [((partsC 59 (lS s)).getD i []).length≤281474976710656] (hel i) ?_;refine V.bn 47 (!smB ((partsC 59 (lS s)).getD i [])||(j.l.length:Int)==16) (fun hf=>?_) (fun hf=>?_)
   ·rw [if_pos hf] at hps;refine V.t T8 [] trivial ?_;exact V.roundEnd [2,3,5,6] [true,true] (some .ret) j kq kq kq rfl rfl ⟨rfl,hps⟩
   ·rw [if_neg (by rw [hf]; simp)] at hps;refine V.t T8 [] trivial ?_;refine V.drawX [] [1] 12 kq ?_;refine @VX.run _ [] [1] 12 _ _ ([selI.e]:List (Ent Tryz.prog)) [] kq kq trivial ?_;refine @VX.two _ [] [1] 12 _ _ ([selI.e]:List (Ent Tryz.prog)) [] 2 9 kq kq kq kq kq trivial ?_ ?_
    ·refine @VX.run _ [] [1] 12 _ _ ([selI.e]:List (Ent Tryz.prog)) [] kq kq trivial ?_;refine @VX.two _ [] [1] 12 _ _ ([selI.e]:List (Ent Tryz.prog)) [] 5 9 kq kq kq kq kq trivial ?_ ?_
     ·refine @VX.run _ [] [1] 12 _ _ ([selI.e]:List (Ent Tryz.prog)) [] kq kq trivial ?_;refine @VX.push _ [] [1] 12 _ _ _ intv 0 j.l (regN ((partsC 59 (lS s)).getD i [])) 1 j.q j.c 3 1 [.int .i64 (regN ((partsC 59 (lS s)).getD i []))] 8 kq kq kq (by omega) rfl (fun _ _=>kq) (fun q' c'=>?_);refine @VX.run _ [] [1] 12 _ _ ([selI.e]:List (Ent Tryz.prog)) [] kq kq trivial ?_;refine @VX.stop _ [] [1] 12 _ _ kq ?_;refine V.t T8 [] trivial ?_;exact V.roundEnd [2,3,5,6] [true,true] none ⟨j.l++[regN ((partsC 59 (lS s)).getD i [])],q',c'⟩ kq kq kq rfl rfl ⟨hps,by simp only [List.length_append,List.length_cons,List.length_nil]; omega⟩
     ·refine @VX.run _ [] [1] 12 _ _ ([selI.e]:List (Ent Tryz.prog)) [] kq kq trivial ?_;refine @VX.push _ [] [1] 12 _ _ _ intv 0 j.l (regN ((partsC 59 (lS s)).getD i [])) 1 j.q j.c 3 1 [.int .i64 (regN ((partsC 59 (lS s)).getD i []))] 8 kq kq kq (by omega) rfl (fun _ _=>kq) (fun q' c'=>?_);refine @VX.run _ [] [1] 12 _ _ ([selI.e]:List (Ent Tryz.prog)) [] kq kq trivial ?_;refine @VX.stop _ [] [1] 12 _ _ kq ?_;refine V.t T8 [] trivial ?_;exact V.roundEnd [2,3,5,6] [true,true] none ⟨j.l++[regN ((partsC 59 (lS s)).getD i [])],q',c'⟩ kq kq kq rfl rfl ⟨hps,by simp only [List.length_append,List.length_cons,List.length_nil]; omega⟩
    ·refine @VX.run _ [] [1] 12 _ _ ([selI.e]:List (Ent Tryz.prog)) [] kq kq trivial ?_;refine @VX.push _ [] [1] 12 _ _ _ intv 0 j.l (regN ((partsC 59 (lS s)).getD i [])) 1 j.q j.c 3 1 [.int .i64 (regN ((partsC 59 (lS s)).getD i []))] 8 kq kq kq (by omega) rfl (fun _ _=>kq) (fun q' c'=>?_);refine @VX.run _ [] [1] 12 _ _ ([selI.e]:List (Ent Tryz.prog)) [] kq kq trivial ?_;refine @VX.stop _ [] [1] 12 _ _ kq ?_;refine V.t T8 [] trivial ?_;exact V.roundEnd [2,3,5,6] [true,true] none ⟨j.l++[regN ((partsC 59 (lS s)).getD i [])],q',c'⟩ kq kq kq rfl rfl ⟨hps,by simp only [List.length_append,List.length_cons,List.length_nil]; omega⟩
  ·have hps:psLs x.l (partsC 59 (lS s))=(j.l,true):=by rw [hx.1,List.drop_length]; rfl
   rw [hps];refine V.t T8 [] trivial ?_;refine V.retD 3 r kq rfl (by rintro e w ⟨x,ρ,_,h,_⟩; exact ⟨_,h⟩) kq kq ?_;refine V.cellAs 3 0 ⟨[.bool true],4,true⟩ (.bool true) (.sb true) kq rfl kq (fun _=>rfl) ?_;exact V.e j [] (fun _=>rfl)
  ·obtain ⟨rfl,hps⟩:=hx;rw [hps];refine V.t T8 [] trivial ?_;refine V.retD 3 r kq rfl (by rintro e w ⟨x,ρ,_,h,_⟩; exact ⟨_,h⟩) kq kq ?_;refine V.cellAs 3 0 ⟨[.bool false],4,true⟩ (.bool false) (.sb false) kq rfl kq (fun _=>rfl) ?_;exact V.e j [] (fun _=>rfl)
theorem splitC_elm (c:UInt8):∀ (s:List UInt8),∀ p∈splitC c s,p.length≤s.length
 | [],p,hp=>by
  simp [splitC] at hp; subst hp; simp
 | x::l,p,hp=>by
  have ih:=splitC_elm c l;rw [splitC] at hp;split at hp
  ·rcases List.mem_cons.1 hp with rfl | hp
   ·simp
   ·have:=ih p hp; simp; omega
  ·split at hp
   ·rename_i h t e;rw [e] at ih;rcases List.mem_cons.1 hp with rfl | hp
    ·have:=ih h (List.mem_cons_self ..); simp; omega
    ·have:=ih p (List.mem_cons_of_mem _ hp); simp; omega
   ·rw [List.mem_singleton] at hp; subst hp; simp
theorem partsC_elm (s:List UInt8):∀ p∈partsC 44 s,p.length≤s.length:=by
 unfold partsC;split
 ·intro p hp; simp at hp
 ·exact splitC_elm 44 _
theorem pC_len (s:List UInt8) (i:Nat):(pC s i).length≤s.length:=by
 unfold pC;rw [List.getD];cases e:(partsC 44 s)[i]? with
 | none=>simp
 | some p=>exact partsC_elm s p (List.mem_of_getElem? e)
noncomputable def T7:List (Ent Tryz.prog):=[⟨sDecimal,[0]⟩,⟨sUnhex,[0]⟩]
theorem cPiecesK (s:List UInt8) (n:Nat) (hs:s.length<1000000000) (b:Bool) (hb:(((partsC 44 s).length:Int)==(n:Int))=b):CallsK Tryz.prog 186 [.one (.str s),.one (.str [44]),.one (.int .i64 (n:Int))] glbF (fun _:Option Addr×Nat=>True)
  (fun x=>.tup [.one (.row 0 x.1 (partsC 44 s).length x.2),.one (.bool b)]) (fun x=>{ noF with rows:=[(0,rowL strS [] (partsC 44 s) x.1 x.2 9 1 true)],nr:=1 }) :=
 (cPieces 44 s (n:Int) (by omega)).as _ (fun x ρ _=>by rw [hb]; rfl) (fun x _=>by
  intro y hy;rcases List.mem_cons.1 hy with rfl | hy
  ·exact ⟨Nat.zero_lt_succ 0,fun R hR=>(by cases hR; exact ⟨rfl,rfl,rfl⟩)⟩
  ·rw [List.mem_singleton.1 hy]; trivial)
set_option maxHeartbeats 4000000 in
theorem cTypeOf (s:List UInt8) (hs:s.length<1000000000):CallsK Tryz.prog 176 [.one (.str s)] glbF (fun t:Ty=>tyB s=true→t=tyV s) (fun t=>.tup [.agg t.cells,.one (.sb (tyB s))]) (fun _=>noF):=by
 have hpl:∀ i,(pC s i).length≤281474976710656:=fun i=>by have:=pC_len s i; omega
 obtain ⟨bv,hbv⟩:∃ bv,tyB s=bv:=⟨_,rfl⟩;rw [hbv];by_cases h5:(partsC 44 s).length=5
 case neg =>
  have e:bv=false:=by
   rw [← hbv]; unfold tyB;rw [beq_eq_false_iff_ne.2 h5]; simp
  subst e;refine CallsK.m true Tryz.func176 (fun ρ w=>?_);refine V.t T7 [] trivial ?_;refine V.c [(0,false)] (cPiecesK s 5 hs false (by rw [beq_eq_false_iff_ne]; omega)) (fun x _=>?_);refine V.rc T7 40 [] trivial ?_;refine V.sb 3 false ?_;refine V.cellAs 0 3 ⟨[.int .i64 0,.int .i64 0,.int .i64 0,.bool false,.str []],23,true⟩ (.bool false) (.sb false) kq rfl kq (fun _=>rfl) ?_;exact V.e (⟨0,0,0,false,[]⟩:Ty) [] (fun h=>by cases h)
 have hx:∀ i:Nat,i<5→(0:Int)≤(i:Int)∧(i:Int)<((partsC 44 s).length:Int):=fun i hi=>by omega
 refine CallsK.m true Tryz.func176 (fun ρ w=>?_);refine V.t T7 [] trivial ?_;refine V.c [(0,false)] (cPiecesK s 5 hs true (by rw [beq_iff_eq]; omega)) (fun x _=>?_);refine V.t T7 [(0:Int)≤3∧(3:Int)<((partsC 44 s).length:Int),(!(pC s 3==[48]))=true→(0:Int)≤3∧(3:Int)<((partsC 44 s).length:Int)] ⟨hx 3 (by omega),fun _=>hx 3 (by omega)⟩ ?_;refine V.bn 26 (!(pC s 3==[48])&&!(pC s 3==[49])) (fun hb=>?_) (fun hb=>?_)
 ·have e:bv=false:=by
   rw [← hbv]; unfold tyB;have:(pC s 3==[48]||pC s 3==[49])=false:=by
    revert hb;cases pC s 3==[48]<;>cases pC s 3==[49]<;>simp
   rw [this]; simp
  subst e;refine V.rc T7 40 [] trivial ?_;refine V.sb 3 false ?_;refine V.cellAs 0 3 ⟨[.int .i64 0,.int .i64 0,.int .i64 0,.bool false,.str []],23,true⟩ (.bool false) (.sb false) kq rfl kq (fun _=>rfl) ?_;exact V.e (⟨0,0,0,false,[]⟩:Ty) [] (fun h=>by cases h)
 have h3:(pC s 3==[48]||pC s 3==[49])=true:=by
  revert hb;cases pC s 3==[48]<;>cases pC s 3==[49]<;>simp
 refine V.t T7 [] trivial ?_;refine V.iter ?_;refine V.t T7 [] trivial ?_;refine V.kn 33 (decide ((0:Int)<3)) true (by decide) ?_;refine V.t T7 [(0:Int)≤0∧(0:Int)<3,(0:Int)≤0∧(0:Int)<((partsC 44 s).length:Int),(pC s 0).length≤281474976710656] ⟨⟨by omega,by omega⟩,hx 0 (by omega),hpl 0⟩ ?_;refine V.bn 47 (!decB (pC s 0)) (fun hd0=>?_) (fun hd0=>?_)
 ·have e:bv=false:=by
   rw [← hbv]; unfold tyB;have:decB (pC s 0)=false:=by simpa using hd0
   rw [this]; simp
  subst e;refine V.rc T7 40 [] trivial ?_;refine V.sb 3 false ?_;refine V.cellAs 0 3 ⟨[.int .i64 (decN (pC s 0)),.int .i64 0,.int .i64 0,.bool false,.str []],23,true⟩ (.bool false) (.sb false) kq rfl kq (fun _=>rfl) ?_;exact V.e (⟨decN (pC s 0),0,0,false,[]⟩:Ty) [] (fun h=>by cases h)
 refine V.t T7 [] trivial ?_;refine V.iter ?_;refine V.t T7 [] trivial ?_;refine V.kn 33 (decide ((1:Int)<3)) true (by decide) ?_;refine V.t T7 [(0:Int)≤1∧(1:Int)<3,(0:Int)≤1∧(1:Int)<((partsC 44 s).length:Int),(pC s 1).length≤281474976710656] ⟨⟨by omega,by omega⟩,hx 1 (by omega),hpl 1⟩ ?_;refine V.bn 47 (!decB (pC s 1)) (fun hd1=>?_) (fun hd1=>?_)
 ·have e:bv=false:=by
   rw [← hbv]; unfold tyB;have:decB (pC s 1)=false:=by simpa using hd1
   rw [this]; simp
  subst e;refine V.rc T7 40 [] trivial ?_;refine V.sb 3 false ?_;refine V.cellAs 0 3 ⟨[.int .i64 (decN (pC s 0)),.int .i64 (decN (pC s 1)),.int .i64 0,.bool false,.str []],23,true⟩ (.bool false) (.sb false) kq rfl kq (fun _=>rfl) ?_;exact V.e (⟨decN (pC s 0),decN (pC s 1),0,false,[]⟩:Ty) [] (fun h=>by cases h)
 refine V.t T7 [] trivial ?_;refine V.iter ?_;refine V.t T7 [] trivial ?_;refine V.kn 33 (decide ((2:Int)<3)) true (by decide) ?_;refine V.t T7 [(0:Int)≤2∧(2:Int)<3,(0:Int)≤2∧(2:Int)<((partsC 44 s).length:Int),(pC s 2).length≤281474976710656] ⟨⟨by omega,by omega⟩,hx 2 (by omega),hpl 2⟩ ?_;refine V.bn 47 (!decB (pC s 2)) (fun hd2=>?_) (fun hd2=>?_)
 ·have e:bv=false:=by
   rw [← hbv]; unfold tyB;have:decB (pC s 2)=false:=by simpa using hd2
   rw [this]; simp
  subst e;refine V.rc T7 40 [] trivial ?_;refine V.sb 3 false ?_;refine V.cellAs 0 3 ⟨[.int .i64 (decN (pC s 0)),.int .i64 (decN (pC s 1)),.int .i64 (decN (pC s 2)),.bool false,.str []],23,true⟩ (.bool false) (.sb false) kq rfl kq (fun _=>rfl) ?_;exact V.e (⟨decN (pC s 0),decN (pC s 1),decN (pC s 2),false,[]⟩:Ty) [] (fun h=>by cases h)
 refine V.t T7 [] trivial ?_;refine V.iter ?_;refine V.t T7 [] trivial ?_;refine V.kn 33 (decide ((3:Int)<3)) false (by decide) ?_;refine V.t T7 [(0:Int)≤3∧(3:Int)<((partsC 44 s).length:Int),(0:Int)≤4∧(4:Int)<((partsC 44 s).length:Int),(pC s 4).length≤1000000000] ⟨hx 3 (by omega),hx 4 (by omega),Nat.le_trans (pC_len s 4) (by omega)⟩ ?_;have e:bv=unB (pC s 4):=by
  rw [← hbv]; unfold tyB;rw [beq_iff_eq.2 h5,h3,show decB (pC s 0)=true by simpa using hd0,show decB (pC s 1)=true by simpa using hd1,show decB (pC s 2)=true by simpa using hd2];simp
 subst e;exact V.e (tyV s) [] (fun _=>rfl)
set_option maxHeartbeats 4000000 in
theorem cFmOf (s:List UInt8) (hs:s.length<1000000000):CallsK Tryz.prog 200 [.one (.str s)] glbF (fun t:Fm=>fmB s=true→t=fmV s) (fun t=>.tup [.agg t.cells,.one (.sb (fmB s))]) (fun _=>noF):=by
 have hpl:∀ i,(pC s i).length≤281474976710656:=fun i=>by have:=pC_len s i; omega
 obtain ⟨bv,hbv⟩:∃ bv,fmB s=bv:=⟨_,rfl⟩;rw [hbv];by_cases h5:(partsC 44 s).length=4
 case neg =>
  have e:bv=false:=by
   rw [← hbv]; unfold fmB;rw [beq_eq_false_iff_ne.2 h5]; simp
  subst e;refine CallsK.m true Tryz.func200 (fun ρ w=>?_);refine V.t T7 [] trivial ?_;refine V.c [(0,false)] (cPiecesK s 4 hs false (by rw [beq_eq_false_iff_ne]; omega)) (fun x _=>?_);refine V.rc T7 40 [] trivial ?_;refine V.sb 3 false ?_;exact V.e (⟨0,0,0,[]⟩:Fm) [] (fun h=>by cases h)
 have hx:∀ i:Nat,i<4→(0:Int)≤(i:Int)∧(i:Int)<((partsC 44 s).length:Int):=fun i hi=>by omega
 refine CallsK.m true Tryz.func200 (fun ρ w=>?_);refine V.t T7 [] trivial ?_;refine V.c [(0,false)] (cPiecesK s 4 hs true (by rw [beq_iff_eq]; omega)) (fun x _=>?_);refine V.t T7 [] trivial ?_;refine V.t T7 [] trivial ?_;refine V.iter ?_;refine V.t T7 [] trivial ?_;refine V.kn 21 (decide ((0:Int)<3)) true (by decide) ?_;refine V.t T7 [(0:Int)≤0∧(0:Int)<3,(0:Int)≤0∧(0:Int)<((partsC 44 s).length:Int),(pC s 0).length≤281474976710656] ⟨⟨by omega,by omega⟩,hx 0 (by omega),hpl 0⟩ ?_;refine V.bn 35 (!decB (pC s 0)) (fun hd0=>?_) (fun hd0=>?_)
 ·have e:bv=false:=by
   rw [← hbv]; unfold fmB;have:decB (pC s 0)=false:=by simpa using hd0
   rw [this]; simp
  subst e;refine V.rc T7 40 [] trivial ?_;refine V.sb 3 false ?_;exact V.e (⟨decN (pC s 0),0,0,[]⟩:Fm) [] (fun h=>by cases h)
 refine V.t T7 [] trivial ?_;refine V.iter ?_;refine V.t T7 [] trivial ?_;refine V.kn 21 (decide ((1:Int)<3)) true (by decide) ?_;refine V.t T7 [(0:Int)≤1∧(1:Int)<3,(0:Int)≤1∧(1:Int)<((partsC 44 s).length:Int),(pC s 1).length≤281474976710656] ⟨⟨by omega,by omega⟩,hx 1 (by omega),hpl 1⟩ ?_;refine V.bn 35 (!decB (pC s 1)) (fun hd1=>?_) (fun hd1=>?_)
 ·have e:bv=false:=by
   rw [← hbv]; unfold fmB;have:decB (pC s 1)=false:=by simpa using hd1
   rw [this]; simp
  subst e;refine V.rc T7 40 [] trivial ?_;refine V.sb 3 false ?_;exact V.e (⟨decN (pC s 0),decN (pC s 1),0,[]⟩:Fm) [] (fun h=>by cases h)
 refine V.t T7 [] trivial ?_;refine V.iter ?_;refine V.t T7 [] trivial ?_;refine V.kn 21 (decide ((2:Int)<3)) true (by decide) ?_;refine V.t T7 [(0:Int)≤2∧(2:Int)<3,(0:Int)≤2∧(2:Int)<((partsC 44 s).length:Int),(pC s 2).length≤281474976710656] ⟨⟨by omega,by omega⟩,hx 2 (by omega),hpl 2⟩ ?_;refine V.bn 35 (!decB (pC s 2)) (fun hd2=>?_) (fun hd2=>?_)
 ·have e:bv=false:=by
   rw [← hbv]; unfold fmB;have:decB (pC s 2)=false:=by simpa using hd2
   rw [this]; simp
  subst e;refine V.rc T7 40 [] trivial ?_;refine V.sb 3 false ?_;exact V.e (⟨decN (pC s 0),decN (pC s 1),decN (pC s 2),[]⟩:Fm) [] (fun h=>by cases h)
 refine V.t T7 [] trivial ?_;refine V.iter ?_;refine V.t T7 [] trivial ?_;refine V.kn 21 (decide ((3:Int)<3)) false (by decide) ?_;refine V.t T7 [(0:Int)≤3∧(3:Int)<((partsC 44 s).length:Int),(pC s 3).length≤1000000000] ⟨hx 3 (by omega),Nat.le_trans (pC_len s 3) (by omega)⟩ ?_;have e:bv=unB (pC s 3):=by
  rw [← hbv]; unfold fmB;rw [beq_iff_eq.2 h5,show decB (pC s 0)=true by simpa using hd0,show decB (pC s 1)=true by simpa using hd1,show decB (pC s 2)=true by simpa using hd2];simp
 subst e;exact V.e (fmV s) [] (fun _=>rfl)
noncomputable def tselC (s:TSel):Con Tryz.prog:=Con.p1 s.fn s.off (tsel_calls s)
theorem cut_len (s sep:List UInt8):(Lib.cut s sep).1.length≤s.length∧(Lib.cut s sep).2.1.length≤s.length:=by
 unfold Lib.cut;split
 ·exact ⟨by rw [List.length_take]; omega,by rw [List.length_drop]; omega⟩
 ·exact ⟨Nat.le_refl _,Nat.zero_le _⟩
theorem inK_num {n:Int} (h:isNum n=true):inK .i64 n:=by have:=isNum_iff.1 h; exact ⟨by omega,by omega⟩
theorem isTy_in {t:Ty} (h:isTy t=true):inK .i64 t.k∧inK .i64 t.p∧inK .i64 t.q∧t.s.length≤1000000000:=by
 unfold isTy at h;simp only [Bool.and_eq_true,decide_eq_true_eq] at h;exact ⟨inK_num h.1.1.1,inK_num h.1.1.2,inK_num h.1.2,by omega⟩
theorem isFm_in {t:Fm} (h:isFm t=true):inK .i64 t.k∧inK .i64 t.w∧inK .i64 t.d∧t.s.length≤1000000000:=by
 unfold isFm at h;simp only [Bool.and_eq_true,decide_eq_true_eq] at h;exact ⟨inK_num h.1.1.1,inK_num h.1.1.2,inK_num h.1.2,by omega⟩
set_option maxHeartbeats 2000000 in
theorem typText (s:TSel) (x:In) (A:IA) (cb:Nat) (h:isTy (s.get x)=true):CallsK Tryz.prog 173 [.agg (inV x A),.one (.val (.pointer (some ⟨cb,0,none⟩)))] (psOf [s.blk cb,glbP])
  (fun _:Unit=>True) (fun _=>.v (.one (.str (tyTx (s.get x))))) (fun _=>noF):=by
 have tg:Tg s:=⟨⟩;have hin:=isTy_in h;cases s
 all_goals
  refine CallsK.m true Tryz.func173 (fun ρ w=>?_);refine V.t [(tselC tg.i).e,⟨sTyText,[0]⟩] [] trivial ?_;refine V.lp 0 169 cb 0 [TSel.val tg.i] 169 (.one (TSel.val tg.i)) ?_;refine V.t [(tselC tg.i).e,⟨sTyText,[0]⟩] [inK .i64 (TSel.get tg.i x).k∧inK .i64 (TSel.get tg.i x).p∧inK .i64 (TSel.get tg.i x).q∧(TSel.get tg.i x).s.length≤1000000000] hin ?_;exact V.z
set_option maxHeartbeats 2000000 in
theorem typParse (s:TSel) (l:List UInt8) (x:In) (A:IA) (cb:Nat) (hl:l.length<1000000000):CallsK Tryz.prog 175 [.one (.str l),.one (.ptr 0 0),.one (.val (.pointer (some ⟨cb,0,none⟩)))] (psF [s.blk cb,glbP] x A)
  (fun t:Ty=>tyB l=true→t=tyV l) (fun _=>.v (.one (.sb (tyB l)))) (fun t=>psF [] (s.set x t) A):=by
 have tg:Tg s:=⟨⟩;cases s
 all_goals
  refine CallsK.m false Tryz.func175 (fun ρ w=>?_);refine V.t [(tselC tg.i).e] [] trivial ?_;refine V.lp 0 169 cb 0 [TSel.val tg.i] 169 (.one (TSel.val tg.i)) ?_;refine V.t [(tselC tg.i).e] [] trivial ?_;refine V.c [(1,false)] (cTypeOf l hl) (fun t ht=>?_);refine V.q ?_;exact V.e t [] ht
theorem vlText (x:In) (A:IA) (h:isVal x=true):CallsK Tryz.prog 183 [.agg (inV x A)] (psOf [glbP]) (fun _:Unit=>True) (fun _=>.v (.one (.str (vlTx x)))) (fun _=>noF):=by
 unfold isVal at h;rw [Bool.and_eq_true,decide_eq_true_eq] at h;have hk:=inK_num h.1;have h1:=Lib.itoa_length_le x.vn hk.1 hk.2;have h5:=hexTl x.vs;have o1:(Lib.itoa x.vn).length+1≤9223372036854775807:=by omega
 have o2:x.vs.length≤1000000000:=by omega
 have o3:(Lib.itoa x.vn++[44]).length+(hexT x.vs).length≤9223372036854775807:=by rw [List.length_append,h5,List.length_singleton]; omega
 refine CallsK.m true Tryz.func183 (fun ρ w=>?_);refine V.t T6 [inK .i64 x.vn,(Lib.itoa x.vn).length+1≤9223372036854775807,x.vs.length≤1000000000,(Lib.itoa x.vn++[44]:List UInt8).length+(hexT x.vs).length≤9223372036854775807] ⟨hk,o1,o2,o3⟩ ?_;exact V.z
theorem farText (x:In) (A:IA) (h:isFar x=true):CallsK Tryz.prog 231 [.agg (inV x A)] (psOf [glbP]) (fun _:Unit=>True) (fun _=>.v (.one (.str (farTx x)))) (fun _=>noF):=by
 unfold isFar at h;simp only [Bool.and_eq_true,decide_eq_true_eq] at h;have hp:inK .i64 x.p:=⟨by omega,by omega⟩;have hn:inK .i64 x.n:=⟨by omega,by omega⟩;have h1:=Lib.itoa_length_le x.p hp.1 hp.2;have h2:=Lib.itoa_length_le x.n hn.1 hn.2;have o1:1+(Lib.itoa x.p).length≤9223372036854775807:=by omega
 have o2:([33]++Lib.itoa x.p).length+1≤9223372036854775807:=by rw [List.length_append,List.length_singleton]; omega
 have o3:([33]++Lib.itoa x.p++[64]).length+(Lib.itoa x.n).length≤9223372036854775807:=by rw [List.length_append,List.length_append,List.length_singleton,List.length_singleton]; omega
 refine CallsK.m true Tryz.func231 (fun ρ w=>?_);refine V.runT T6 [inK .i64 x.p,1+(Lib.itoa x.p).length≤9223372036854775807,([33]++Lib.itoa x.p:List UInt8).length+1≤9223372036854775807,inK .i64 x.n,([33]++Lib.itoa x.p++[64]:List UInt8).length+(Lib.itoa x.n).length≤9223372036854775807] kq kq
  ⟨hp,o1,o2,hn,o3⟩ ?_
 exact V.z
set_option maxHeartbeats 2000000 in
theorem vlParse (l:List UInt8) (x:In) (A:IA) (hs:l.length<1000000000):CallsK Tryz.prog 185 [.one (.str l),.one (.ptr 0 0)] (psF [glbP] x A)
  (fun y:In=>vlB l=true→y={ x with vn:=decN (pC l 0),vs:=unN (pC l 1) }) (fun _=>.v (.one (.sb (vlB l)))) (fun y=>psF [] y A):=by
 have hpl:∀ i,(pC l i).length≤281474976710656:=fun i=>by have:=pC_len l i; omega
 obtain ⟨bv,hbv⟩:∃ bv,vlB l=bv:=⟨_,rfl⟩;rw [hbv];by_cases h5:(partsC 44 l).length=2
 case neg =>
  have e:bv=false:=by
   rw [← hbv]; unfold vlB;rw [beq_eq_false_iff_ne.2 h5]; simp
  subst e;refine CallsK.m false Tryz.func185 (fun ρ w=>?_);refine V.q ?_;refine V.c [(0,false)] (cPiecesK l 2 hs false (by rw [beq_eq_false_iff_ne]; omega)) (fun _ _=>?_);refine V.rc [] 40 [] trivial ?_;refine V.sb 4 false ?_;exact V.e x [] (fun h=>by cases h)
 have hx:∀ i:Nat,i<2→(0:Int)≤(i:Int)∧(i:Int)<((partsC 44 l).length:Int):=fun i hi=>by omega
 refine CallsK.m false Tryz.func185 (fun ρ w=>?_);refine V.q ?_;refine V.c [(0,false)] (cPiecesK l 2 hs true (by rw [beq_iff_eq]; omega)) (fun _ _=>?_);refine V.t T7 [(0:Int)≤0∧(0:Int)<((partsC 44 l).length:Int),(pC l 0).length≤281474976710656,(0:Int)≤1∧(1:Int)<((partsC 44 l).length:Int),(pC l 1).length≤1000000000] ⟨hx 0 (by omega),hpl 0,hx 1 (by omega),Nat.le_trans (pC_len l 1) (by omega)⟩ ?_;have e:bv=(decB (pC l 0)&&unB (pC l 1)):=by
  rw [← hbv]; unfold vlB;rw [beq_iff_eq.2 h5,Bool.true_and]
 subst e;exact V.e ({ x with vn:=decN (pC l 0),vs:=unN (pC l 1) }:In) [] (fun _=>rfl)
set_option maxHeartbeats 2000000 in
theorem farParse (l:List UInt8) (x:In) (A:IA) (hs:l.length<1000000000):CallsK Tryz.prog 232 [.one (.str l),.one (.ptr 0 0)] (psF [glbP] x A)
  (fun _:Unit=>True) (fun _=>.v (.one (.sb (frB l)))) (fun _=>psF [] { x with p:=decN (farC l).1,n:=decN (farC l).2.1 } A):=by
 have ht:(Lib.trimPrefix l [33]).length≤l.length:=trimP_len l [33] (Nat.le_refl _);have o0:(Lib.trimPrefix l [33]).length<4294967281:=by omega
 have o1:(farC l).1.length≤281474976710656:=by have:=(cut_len (Lib.trimPrefix l [33]) [64]).1; unfold farC; omega
 have o2:(farC l).2.1.length≤281474976710656:=by have:=(cut_len (Lib.trimPrefix l [33]) [64]).2; unfold farC; omega
 refine CallsK.m false Tryz.func232 (fun ρ w=>?_);refine V.t (⟨sCut,[0]⟩::sCutPrefix.e::T7) [(Lib.trimPrefix l [33]).length<4294967281,(farC l).1.length≤281474976710656,(farC l).2.1.length≤281474976710656] ⟨o0,o1,o2⟩ ?_;exact V.z
def fnC (f:Nat) (bs:List Nat):SV:=.val (.func (.func f) #[] (bs.map fun b=>Value.pointer (some ⟨b,0,none⟩)).toArray)
def fld6 (a b c d e f:SV):RV:=.v (.agg [a,b,c,d,e,f])
def absF (bl:List (List SV×TypeId)):St:={ n:=0,slots:=[],gs:=[],heap:=absH bl 0,next:=bl.length,rows:=[],nr:=0,pers:=[],wr:=false }
theorem kNumber0 (s:Nat):CallsK Tryz.prog 99 [.one (fnV s)] noF (fun _:Unit=>True) (fun _=>fld6 (.fn 159 [0]) (.fn 160 [0]) (.fn 161 [0]) (.fn 162 [0]) (.fn 163 [0]) (.fn 164 [0])) (fun _=>absF [([fnV s],159)]):=by
 refine CallsK.m true Tryz.func99 (fun ρ w=>?_);refine V.q ?_;exact V.z
theorem kNumber (s:Nat):CallsK Tryz.prog 99 [.one (fnV s)] noF (fun _:Nat→Nat=>True) (fun g=>fld6 (fnC 159 [g 0]) (fnC 160 [g 0]) (fnC 161 [g 0]) (fnC 162 [g 0]) (fnC 163 [g 0]) (fnC 164 [g 0])) (fun g=>psOf (absP g [([fnV s],159)] 0)) :=
 CallsK.abs [([fnV s],159)] ⟨rfl,rfl,rfl⟩ rfl (kNumber0 s) _ (fun g ρ=>rfl) (fun g x hx=>by
  simp only [List.mem_cons,List.not_mem_nil,or_false] at hx;rcases hx with rfl | rfl | rfl | rfl | rfl | rfl<;>trivial)
theorem kRegister0 (s:Nat):CallsK Tryz.prog 98 [.one (fnV s)] noF (fun _:Unit=>True) (fun _=>fld6 (.fn 159 [0]) (.fn 151 [1]) (.fn 153 [1]) (.fn 154 [1]) (.fn 155 [1]) (.fn 157 [1])) (fun _=>absF [([fnV s],159),([fnV s],159)]):=by
 refine CallsK.m true Tryz.func98 (fun ρ w=>?_);refine V.q ?_;refine V.c [] (kNumber0 s) (fun _ _=>?_);refine V.q ?_;exact V.z
theorem kRegister (s:Nat):CallsK Tryz.prog 98 [.one (fnV s)] noF (fun _:Nat→Nat=>True) (fun g=>fld6 (fnC 159 [g 0]) (fnC 151 [g 1]) (fnC 153 [g 1]) (fnC 154 [g 1]) (fnC 155 [g 1]) (fnC 157 [g 1])) (fun g=>psOf (absP g [([fnV s],159),([fnV s],159)] 0)) :=
 CallsK.abs [([fnV s],159),([fnV s],159)] ⟨rfl,rfl,rfl⟩ rfl (kRegister0 s) _ (fun g ρ=>rfl) (fun g x hx=>by
  simp only [List.mem_cons,List.not_mem_nil,or_false] at hx;rcases hx with rfl | rfl | rfl | rfl | rfl | rfl<;>trivial)
theorem kTyped0 (s:Nat):CallsK Tryz.prog 100 [.one (fnV s)] noF (fun _:Unit=>True) (fun _=>fld6 (.fn 166 [0]) (.fn 167 [0]) (.fn 169 [0]) (.fn 171 [0]) (.fn 173 [0]) (.fn 175 [0])) (fun _=>absF [([fnV s],169)]):=by
 refine CallsK.m true Tryz.func100 (fun ρ w=>?_);refine V.q ?_;exact V.z
theorem kTyped (s:Nat):CallsK Tryz.prog 100 [.one (fnV s)] noF (fun _:Nat→Nat=>True) (fun g=>fld6 (fnC 166 [g 0]) (fnC 167 [g 0]) (fnC 169 [g 0]) (fnC 171 [g 0]) (fnC 173 [g 0]) (fnC 175 [g 0])) (fun g=>psOf (absP g [([fnV s],169)] 0)) :=
 CallsK.abs [([fnV s],169)] ⟨rfl,rfl,rfl⟩ rfl (kTyped0 s) _ (fun g ρ=>rfl) (fun g x hx=>by
  simp only [List.mem_cons,List.not_mem_nil,or_false] at hx;rcases hx with rfl | rfl | rfl | rfl | rfl | rfl<;>trivial)
theorem kFlag0 (s:Nat):CallsK Tryz.prog 108 [.one (fnV s)] noF (fun _:Unit=>True) (fun _=>fld6 (.fn 203 [0]) (.fn 204 []) (.fn 205 [0]) (.fn 207 [0]) (.fn 209 [0]) (.fn 211 [0])) (fun _=>absF [([fnV s],173)]):=by
 refine CallsK.m true Tryz.func108 (fun ρ w=>?_);refine V.q ?_;exact V.z
theorem kFlag (s:Nat):CallsK Tryz.prog 108 [.one (fnV s)] noF (fun _:Nat→Nat=>True) (fun g=>fld6 (fnC 203 [g 0]) (fnV 204) (fnC 205 [g 0]) (fnC 207 [g 0]) (fnC 209 [g 0]) (fnC 211 [g 0])) (fun g=>psOf (absP g [([fnV s],173)] 0)) :=
 CallsK.abs [([fnV s],173)] ⟨rfl,rfl,rfl⟩ rfl (kFlag0 s) _ (fun g ρ=>rfl) (fun g x hx=>by
  simp only [List.mem_cons,List.not_mem_nil,or_false] at hx;rcases hx with rfl | rfl | rfl | rfl | rfl | rfl<;>trivial)
theorem kPlace0 (s:Nat):CallsK Tryz.prog 111 [.one (fnV s)] noF (fun _:Unit=>True) (fun _=>fld6 (.fn 159 [0]) (.fn 212 [1]) (.fn 213 [1]) (.fn 215 [1]) (.fn 217 [1]) (.fn 218 [1])) (fun _=>absF [([fnV s],159),([fnV s],159)]):=by
 refine CallsK.m true Tryz.func111 (fun ρ w=>?_);refine V.q ?_;refine V.c [] (kNumber0 s) (fun _ _=>?_);refine V.q ?_;exact V.z
theorem kPlace (s:Nat):CallsK Tryz.prog 111 [.one (fnV s)] noF (fun _:Nat→Nat=>True) (fun g=>fld6 (fnC 159 [g 0]) (fnC 212 [g 1]) (fnC 213 [g 1]) (fnC 215 [g 1]) (fnC 217 [g 1]) (fnC 218 [g 1])) (fun g=>psOf (absP g [([fnV s],159),([fnV s],159)] 0)) :=
 CallsK.abs [([fnV s],159),([fnV s],159)] ⟨rfl,rfl,rfl⟩ rfl (kPlace0 s) _ (fun g ρ=>rfl) (fun g x hx=>by
  simp only [List.mem_cons,List.not_mem_nil,or_false] at hx;rcases hx with rfl | rfl | rfl | rfl | rfl | rfl<;>trivial)
theorem kProc0 (s:Nat) (b:Bool):CallsK Tryz.prog 112 [.one (fnV s),.one (.bool b)] noF (fun _:Unit=>True) (fun _=>fld6 (.fn 159 [0]) (.fn 220 [1,2]) (.fn 221 [1]) (.fn 223 [2,1]) (.fn 225 [1]) (.fn 226 [1])) (fun _=>absF [([fnV s],159),([fnV s],159),([.bool b],4)]):=by
 refine CallsK.m true Tryz.func112 (fun ρ w=>?_);refine V.q ?_;refine V.c [] (kNumber0 s) (fun _ _=>?_);refine V.q ?_;exact V.z
theorem kProc (s:Nat) (b:Bool):CallsK Tryz.prog 112 [.one (fnV s),.one (.bool b)] noF (fun _:Nat→Nat=>True) (fun g=>fld6 (fnC 159 [g 0]) (fnC 220 [g 1,g 2]) (fnC 221 [g 1]) (fnC 223 [g 2,g 1]) (fnC 225 [g 1]) (fnC 226 [g 1])) (fun g=>psOf (absP g [([fnV s],159),([fnV s],159),([.bool b],4)] 0)) :=
 CallsK.abs [([fnV s],159),([fnV s],159),([.bool b],4)] ⟨rfl,rfl,rfl⟩ rfl (kProc0 s b) _ (fun g ρ=>rfl) (fun g x hx=>by
  simp only [List.mem_cons,List.not_mem_nil,or_false] at hx;rcases hx with rfl | rfl | rfl | rfl | rfl | rfl<;>trivial)
theorem kValue0  : CallsK Tryz.prog 104 [] noF (fun _:Unit=>True) (fun _=>fld6 (.fn 177 []) (.fn 178 []) (.fn 179 []) (.fn 181 []) (.fn 183 []) (.fn 185 [])) (fun _=>absF []):=by
 refine CallsK.m true Tryz.func104 (fun ρ w=>?_);refine V.q ?_;exact V.z
theorem kValue  : CallsK Tryz.prog 104 [] noF (fun _:Nat→Nat=>True) (fun g=>fld6 (fnV 177) (fnV 178) (fnV 179) (fnV 181) (fnV 183) (fnV 185)) (fun g=>psOf (absP g [] 0)) :=
 CallsK.abs [] ⟨rfl,rfl,rfl⟩ rfl (kValue0 ) _ (fun g ρ=>rfl) (fun g x hx=>by
  simp only [List.mem_cons,List.not_mem_nil,or_false] at hx;rcases hx with rfl | rfl | rfl | rfl | rfl | rfl<;>trivial)
theorem kFar0  : CallsK Tryz.prog 113 [] noF (fun _:Unit=>True) (fun _=>fld6 (.fn 227 []) (.fn 228 []) (.fn 229 []) (.fn 230 []) (.fn 231 []) (.fn 232 [])) (fun _=>absF []):=by
 refine CallsK.m true Tryz.func113 (fun ρ w=>?_);refine V.q ?_;exact V.z
theorem kFar  : CallsK Tryz.prog 113 [] noF (fun _:Nat→Nat=>True) (fun g=>fld6 (fnV 227) (fnV 228) (fnV 229) (fnV 230) (fnV 231) (fnV 232)) (fun g=>psOf (absP g [] 0)) :=
 CallsK.abs [] ⟨rfl,rfl,rfl⟩ rfl (kFar0 ) _ (fun g ρ=>rfl) (fun g x hx=>by
  simp only [List.mem_cons,List.not_mem_nil,or_false] at hx;rcases hx with rfl | rfl | rfl | rfl | rfl | rfl<;>trivial)
theorem kListI0  : CallsK Tryz.prog 189 [.one (.fn 190 []),.one (.fn 191 []),.one (.fn 192 []),.one (.fn 193 []),.one (.fn 156 []),.one (.fn 188 [])] noF (fun _:Unit=>True) (fun _=>fld6 (.fn 261 [0]) (.fn 262 [0,1]) (.fn 263 [0,2]) (.fn 264 [0,3]) (.fn 265 [0,4]) (.fn 266 [5,0])) (fun _=>absF [([fnV 190],212),([fnV 191],95),([fnV 192],213),([fnV 193],214),([fnV 156],101),([fnV 188],201)]):=by
 refine CallsK.m true Tryz.func189 (fun ρ w=>?_);refine V.q ?_;refine V.cellAs 0 0 ⟨[.fn 190 []],212,true⟩ (.fn 190 []) (fnV 190) kq rfl kq (fun _=>rfl) ?_;refine V.cellAs 1 0 ⟨[.fn 191 []],95,true⟩ (.fn 191 []) (fnV 191) kq rfl kq (fun _=>rfl) ?_;refine V.cellAs 2 0 ⟨[.fn 192 []],213,true⟩ (.fn 192 []) (fnV 192) kq rfl kq (fun _=>rfl) ?_;refine V.cellAs 3 0 ⟨[.fn 193 []],214,true⟩ (.fn 193 []) (fnV 193) kq rfl kq (fun _=>rfl) ?_;refine V.cellAs 4 0 ⟨[.fn 156 []],101,true⟩ (.fn 156 []) (fnV 156) kq rfl kq (fun _=>rfl) ?_;refine V.cellAs 5 0 ⟨[.fn 188 []],201,true⟩ (.fn 188 []) (fnV 188) kq rfl kq (fun _=>rfl) ?_;exact V.z
theorem kRegs0  : CallsK Tryz.prog 105 [] noF (fun _:Unit=>True) (fun _=>fld6 (.fn 261 [0]) (.fn 262 [0,1]) (.fn 263 [0,2]) (.fn 264 [0,3]) (.fn 265 [0,4]) (.fn 266 [5,0])) (fun _=>absF [([fnV 190],212),([fnV 191],95),([fnV 192],213),([fnV 193],214),([fnV 156],101),([fnV 188],201)]):=by
 refine CallsK.m true Tryz.func105 (fun ρ w=>?_);refine V.q ?_;refine V.c [] (kListI0) (fun _ _=>?_);refine V.q ?_;exact V.z
theorem kRegs  : CallsK Tryz.prog 105 [] noF (fun _:Nat→Nat=>True) (fun g=>fld6 (fnC 261 [g 0]) (fnC 262 [g 0,g 1]) (fnC 263 [g 0,g 2]) (fnC 264 [g 0,g 3]) (fnC 265 [g 0,g 4]) (fnC 266 [g 5,g 0])) (fun g=>psOf (absP g [([fnV 190],212),([fnV 191],95),([fnV 192],213),([fnV 193],214),([fnV 156],101),([fnV 188],201)] 0)) :=
 CallsK.abs [([fnV 190],212),([fnV 191],95),([fnV 192],213),([fnV 193],214),([fnV 156],101),([fnV 188],201)] ⟨rfl,rfl,rfl⟩ rfl (kRegs0 ) _ (fun g ρ=>rfl) (fun g x hx=>by
  simp only [List.mem_cons,List.not_mem_nil,or_false] at hx;rcases hx with rfl | rfl | rfl | rfl | rfl | rfl<;>trivial)
theorem kListT0  : CallsK Tryz.prog 194 [.one (.fn 195 []),.one (.fn 168 []),.one (.fn 170 []),.one (.fn 172 []),.one (.fn 174 []),.one (.fn 176 [])] noF (fun _:Unit=>True) (fun _=>fld6 (.fn 268 [0]) (.fn 269 [0,1]) (.fn 270 [0,2]) (.fn 271 [0,3]) (.fn 272 [0,4]) (.fn 273 [5,0])) (fun _=>absF [([fnV 195],217),([fnV 168],180),([fnV 170],218),([fnV 172],219),([fnV 174],185),([fnV 176],204)]):=by
 refine CallsK.m true Tryz.func194 (fun ρ w=>?_);refine V.q ?_;refine V.cellAs 0 0 ⟨[.fn 195 []],217,true⟩ (.fn 195 []) (fnV 195) kq rfl kq (fun _=>rfl) ?_;refine V.cellAs 1 0 ⟨[.fn 168 []],180,true⟩ (.fn 168 []) (fnV 168) kq rfl kq (fun _=>rfl) ?_;refine V.cellAs 2 0 ⟨[.fn 170 []],218,true⟩ (.fn 170 []) (fnV 170) kq rfl kq (fun _=>rfl) ?_;refine V.cellAs 3 0 ⟨[.fn 172 []],219,true⟩ (.fn 172 []) (fnV 172) kq rfl kq (fun _=>rfl) ?_;refine V.cellAs 4 0 ⟨[.fn 174 []],185,true⟩ (.fn 174 []) (fnV 174) kq rfl kq (fun _=>rfl) ?_;refine V.cellAs 5 0 ⟨[.fn 176 []],204,true⟩ (.fn 176 []) (fnV 176) kq rfl kq (fun _=>rfl) ?_;exact V.z
theorem kTypes0  : CallsK Tryz.prog 106 [] noF (fun _:Unit=>True) (fun _=>fld6 (.fn 268 [0]) (.fn 269 [0,1]) (.fn 270 [0,2]) (.fn 271 [0,3]) (.fn 272 [0,4]) (.fn 273 [5,0])) (fun _=>absF [([fnV 195],217),([fnV 168],180),([fnV 170],218),([fnV 172],219),([fnV 174],185),([fnV 176],204)]):=by
 refine CallsK.m true Tryz.func106 (fun ρ w=>?_);refine V.q ?_;refine V.c [] (kListT0) (fun _ _=>?_);refine V.q ?_;exact V.z
theorem kTypes  : CallsK Tryz.prog 106 [] noF (fun _:Nat→Nat=>True) (fun g=>fld6 (fnC 268 [g 0]) (fnC 269 [g 0,g 1]) (fnC 270 [g 0,g 2]) (fnC 271 [g 0,g 3]) (fnC 272 [g 0,g 4]) (fnC 273 [g 5,g 0])) (fun g=>psOf (absP g [([fnV 195],217),([fnV 168],180),([fnV 170],218),([fnV 172],219),([fnV 174],185),([fnV 176],204)] 0)) :=
 CallsK.abs [([fnV 195],217),([fnV 168],180),([fnV 170],218),([fnV 172],219),([fnV 174],185),([fnV 176],204)] ⟨rfl,rfl,rfl⟩ rfl (kTypes0 ) _ (fun g ρ=>rfl) (fun g x hx=>by
  simp only [List.mem_cons,List.not_mem_nil,or_false] at hx;rcases hx with rfl | rfl | rfl | rfl | rfl | rfl<;>trivial)
theorem kListF0  : CallsK Tryz.prog 201 [.one (.fn 202 []),.one (.fn 196 []),.one (.fn 197 []),.one (.fn 198 []),.one (.fn 199 []),.one (.fn 200 [])] noF (fun _:Unit=>True) (fun _=>fld6 (.fn 274 [0]) (.fn 275 [0,1]) (.fn 276 [0,2]) (.fn 277 [0,3]) (.fn 278 [0,4]) (.fn 279 [5,0])) (fun _=>absF [([fnV 202],226),([fnV 196],181),([fnV 197],220),([fnV 198],221),([fnV 199],188),([fnV 200],223)]):=by
 refine CallsK.m true Tryz.func201 (fun ρ w=>?_);refine V.q ?_;refine V.cellAs 0 0 ⟨[.fn 202 []],226,true⟩ (.fn 202 []) (fnV 202) kq rfl kq (fun _=>rfl) ?_;refine V.cellAs 1 0 ⟨[.fn 196 []],181,true⟩ (.fn 196 []) (fnV 196) kq rfl kq (fun _=>rfl) ?_;refine V.cellAs 2 0 ⟨[.fn 197 []],220,true⟩ (.fn 197 []) (fnV 197) kq rfl kq (fun _=>rfl) ?_;refine V.cellAs 3 0 ⟨[.fn 198 []],221,true⟩ (.fn 198 []) (fnV 198) kq rfl kq (fun _=>rfl) ?_;refine V.cellAs 4 0 ⟨[.fn 199 []],188,true⟩ (.fn 199 []) (fnV 199) kq rfl kq (fun _=>rfl) ?_;refine V.cellAs 5 0 ⟨[.fn 200 []],223,true⟩ (.fn 200 []) (fnV 200) kq rfl kq (fun _=>rfl) ?_;exact V.z
theorem kFormats0  : CallsK Tryz.prog 107 [] noF (fun _:Unit=>True) (fun _=>fld6 (.fn 274 [0]) (.fn 275 [0,1]) (.fn 276 [0,2]) (.fn 277 [0,3]) (.fn 278 [0,4]) (.fn 279 [5,0])) (fun _=>absF [([fnV 202],226),([fnV 196],181),([fnV 197],220),([fnV 198],221),([fnV 199],188),([fnV 200],223)]):=by
 refine CallsK.m true Tryz.func107 (fun ρ w=>?_);refine V.q ?_;refine V.c [] (kListF0) (fun _ _=>?_);refine V.q ?_;exact V.z
theorem kFormats  : CallsK Tryz.prog 107 [] noF (fun _:Nat→Nat=>True) (fun g=>fld6 (fnC 274 [g 0]) (fnC 275 [g 0,g 1]) (fnC 276 [g 0,g 2]) (fnC 277 [g 0,g 3]) (fnC 278 [g 0,g 4]) (fnC 279 [g 5,g 0])) (fun g=>psOf (absP g [([fnV 202],226),([fnV 196],181),([fnV 197],220),([fnV 198],221),([fnV 199],188),([fnV 200],223)] 0)) :=
 CallsK.abs [([fnV 202],226),([fnV 196],181),([fnV 197],220),([fnV 198],221),([fnV 199],188),([fnV 200],223)] ⟨rfl,rfl,rfl⟩ rfl (kFormats0 ) _ (fun g ρ=>rfl) (fun g x hx=>by
  simp only [List.mem_cons,List.not_mem_nil,or_false] at hx;rcases hx with rfl | rfl | rfl | rfl | rfl | rfl<;>trivial)
inductive Fl where
 | D | A | B | N | M | P | T | U | W | V | L | Y | F | Sz | Rg | aN | aM | pN | pM | far
 deriving DecidableEq
def Fl.all:List Fl:=[.D,.A,.B,.N,.M,.P,.T,.U,.W,.V,.L,.Y,.F,.Sz,.Rg,.aN,.aM,.pN,.pM,.far]
theorem Fl.mem_all (f:Fl):f∈Fl.all:=by cases f<;>simp [Fl.all]
def Fl.name:Fl→List UInt8
 | .D=>[68]
 | .A=>[65]
 | .B=>[66]
 | .N=>[78]
 | .M=>[77]
 | .P=>[80]
 | .T=>[84]
 | .U=>[85]
 | .W=>[87]
 | .V=>[86]
 | .L=>[76]
 | .Y=>[89]
 | .F=>[70]
 | .Sz=>[83,105,122,101]
 | .Rg=>[82,97,110,103,101]
 | .aN=>[64,78]
 | .aM=>[64,77]
 | .pN=>[33,78]
 | .pM=>[33,77]
 | .far=>[33,80,64,78]
def Fl.bl:Fl→List (List SV×TypeId)
 | .D=>[([fnV 92],159),([fnV 92],159)]
 | .A=>[([fnV 93],159),([fnV 93],159)]
 | .B=>[([fnV 94],159),([fnV 94],159)]
 | .N=>[([fnV 95],159)]
 | .M=>[([fnV 96],159)]
 | .P=>[([fnV 97],159)]
 | .T=>[([fnV 101],169)]
 | .U=>[([fnV 102],169)]
 | .W=>[([fnV 103],169)]
 | .V=>[]
 | .L=>[([fnV 190],212),([fnV 191],95),([fnV 192],213),([fnV 193],214),([fnV 156],101),([fnV 188],201)]
 | .Y=>[([fnV 195],217),([fnV 168],180),([fnV 170],218),([fnV 172],219),([fnV 174],185),([fnV 176],204)]
 | .F=>[([fnV 202],226),([fnV 196],181),([fnV 197],220),([fnV 198],221),([fnV 199],188),([fnV 200],223)]
 | .Sz=>[([fnV 109],173)]
 | .Rg=>[([fnV 110],173)]
 | .aN=>[([fnV 95],159),([fnV 95],159)]
 | .aM=>[([fnV 96],159),([fnV 96],159)]
 | .pN=>[([fnV 95],159),([fnV 95],159),([.bool false],4)]
 | .pM=>[([fnV 96],159),([fnV 96],159),([.bool true],4)]
 | .far=>[]
def Fl.ids:Fl→Nat×Nat×Nat×Nat×Nat×Nat
 | .D=>(159,151,153,154,155,157)
 | .A=>(159,151,153,154,155,157)
 | .B=>(159,151,153,154,155,157)
 | .N=>(159,160,161,162,163,164)
 | .M=>(159,160,161,162,163,164)
 | .P=>(159,160,161,162,163,164)
 | .T=>(166,167,169,171,173,175)
 | .U=>(166,167,169,171,173,175)
 | .W=>(166,167,169,171,173,175)
 | .V=>(177,178,179,181,183,185)
 | .L=>(261,262,263,264,265,266)
 | .Y=>(268,269,270,271,272,273)
 | .F=>(274,275,276,277,278,279)
 | .Sz=>(203,204,205,207,209,211)
 | .Rg=>(203,204,205,207,209,211)
 | .aN=>(159,212,213,215,217,218)
 | .aM=>(159,212,213,215,217,218)
 | .pN=>(159,220,221,223,225,226)
 | .pM=>(159,220,221,223,225,226)
 | .far=>(227,228,229,230,231,232)
def Fl.caps:Fl→List Nat×List Nat×List Nat×List Nat×List Nat×List Nat
 | .D=>([0],[1],[1],[1],[1],[1])
 | .A=>([0],[1],[1],[1],[1],[1])
 | .B=>([0],[1],[1],[1],[1],[1])
 | .N=>([0],[0],[0],[0],[0],[0])
 | .M=>([0],[0],[0],[0],[0],[0])
 | .P=>([0],[0],[0],[0],[0],[0])
 | .T=>([0],[0],[0],[0],[0],[0])
 | .U=>([0],[0],[0],[0],[0],[0])
 | .W=>([0],[0],[0],[0],[0],[0])
 | .V=>([],[],[],[],[],[])
 | .L=>([0],[0,1],[0,2],[0,3],[0,4],[5,0])
 | .Y=>([0],[0,1],[0,2],[0,3],[0,4],[5,0])
 | .F=>([0],[0,1],[0,2],[0,3],[0,4],[5,0])
 | .Sz=>([0],[],[0],[0],[0],[0])
 | .Rg=>([0],[],[0],[0],[0],[0])
 | .aN=>([0],[1],[1],[1],[1],[1])
 | .aM=>([0],[1],[1],[1],[1],[1])
 | .pN=>([0],[1,2],[1],[2,1],[1],[1])
 | .pM=>([0],[1,2],[1],[2,1],[1],[1])
 | .far=>([],[],[],[],[],[])
def absV (g:Nat→Nat) (l:List Nat):List CV:=l.map fun j=>.one (.val (.pointer (some ⟨g j,0,none⟩)))
def cloV (f:Nat) (g:Nat→Nat) (l:List Nat):SV:=.val (.func (.func f) #[] (l.map fun j=>Value.pointer (some ⟨g j,0,none⟩)).toArray)
def Fl.cells (f:Fl) (g:Nat→Nat):List SV :=
 [cloV f.ids.1 g f.caps.1,cloV f.ids.2.1 g f.caps.2.1,cloV f.ids.2.2.1 g f.caps.2.2.1,cloV f.ids.2.2.2.1 g f.caps.2.2.2.1,cloV f.ids.2.2.2.2.1 g f.caps.2.2.2.2.1,cloV f.ids.2.2.2.2.2 g f.caps.2.2.2.2.2]
def opTab:List (List UInt8×List UInt8×List Fl) :=
 [([83,84,69,80,32,78],[83,84,69,80],[.N]),
   ([67,79,78,83,84,32,68,32,84,32,86],[67,79,78,83,84],[.D,.T,.V]),
   ([77,79,86,69,32,68,32,65],[77,79,86,69],[.D,.A]),
   ([66,65,83,69,32,68,32,78,32,77,32,80],[66,65,83,69],[.D,.N,.M,.P]),
   ([78,85,76,76,32,65],[78,85,76,76],[.A]),
   ([79,70,70,32,68,32,65,32,78],[79,70,70],[.D,.A,.N]),
   ([73,78,68,69,88,32,68,32,65,32,66,32,78,32,77,32,80],[73,78,68,69,88],[.D,.A,.B,.N,.M,.P]),
   ([76,79,65,68,32,68,32,65,32,84],[76,79,65,68],[.D,.A,.T]),
   ([83,84,79,82,69,32,65,32,66,32,84],[83,84,79,82,69],[.A,.B,.T]),
   ([65,82,73,84,72,32,68,32,65,32,66,32,78,32,85,32,87,32,84],[65,82,73,84,72],[.D,.A,.B,.N,.U,.W,.T]),
   ([67,79,78,86,32,68,32,65,32,84,32,85,32,83,105,122,101],[67,79,78,86],[.D,.A,.T,.U,.Sz]),
   ([83,84,82,73,78,71,32,68,32,78,32,76,32,89,32,84,32,82,97,110,103,101],[83,84,82,73,78,71],[.D,.N,.L,.Y,.T,.Rg]),
   ([67,77,80,32,68,32,65,32,66,32,78,32,85,32,87],[67,77,80],[.D,.A,.B,.N,.U,.W]),
   ([74,85,77,80,32,64,78],[74,85,77,80],[.aN]),
   ([66,82,65,78,67,72,32,65,32,64,78],[66,82,65,78,67,72],[.A,.aN]),
   ([71,79,84,79,32,33,80,64,78],[71,79,84,79],[.far]),
   ([67,65,76,76,32,68,32,33,78,32,76],[67,65,76,76],[.D,.pN,.L]),
   ([82,69,84,85,82,78,32,65],[82,69,84,85,82,78],[.A]),
   ([79,78,32,78,32,80,32,33,77],[79,78],[.N,.P,.pM]),
   ([82,69,86,69,82,84,32,78,32,80],[82,69,86,69,82,84],[.N,.P]),
   ([83,73,71,78,65,76,32,78,32,80],[83,73,71,78,65,76],[.N,.P]),
   ([65,76,76,79,67,32,68,32,65,32,78,32,77],[65,76,76,79,67],[.D,.A,.N,.M]),
   ([70,82,69,69,32,65,32,66,32,77],[70,82,69,69],[.A,.B,.M]),
   ([80,85,83,72,32,78],[80,85,83,72],[.N]),
   ([80,79,80,32,78],[80,79,80],[.N]),
   ([71,69,78,83,32,68,32,78],[71,69,78,83],[.D,.N]),
   ([80,85,84,32,80,32,78,32,70,32,76,32,89],[80,85,84],[.P,.N,.F,.L,.Y]),
   ([71,69,84,32,68,32,80,32,78,32,70,32,84,32,64,77],[71,69,84],[.D,.P,.N,.F,.T,.aM]),
   ([82,69,65,68,32,68,32,65,32,85,32,80,32,84,32,64,77],[82,69,65,68],[.D,.A,.U,.P,.T,.aM]),
   ([87,82,73,84,69,32,78,32,80,32,65,32,85,32,66,32,87],[87,82,73,84,69],[.N,.P,.A,.U,.B,.W]),
   ([67,79,80,89,32,65,32,66,32,78,32,77],[67,79,80,89],[.A,.B,.N,.M]),
   ([79,70,70,83,69,84,32,68,32,65,32,66,32,78],[79,70,70,83,69,84],[.D,.A,.B,.N]),
   ([80,79,73,78,84,32,68,32,65,32,66,32,78],[80,79,73,78,84],[.D,.A,.B,.N]),
   ([67,79,68,69,32,68],[67,79,68,69],[.D]),
   ([75,69,89,32,68],[75,69,89],[.D]),
   ([83,79,85,82,67,69,32,68],[83,79,85,82,67,69],[.D]),
   ([83,84,79,80],[83,84,79,80],[]),
   ([65,68,68,82,32,68,32,65],[65,68,68,82],[.D,.A])]
def opAt (o:Nat):List UInt8×List UInt8×List Fl:=opTab.getD (o - 1) ([],[],[])
def opLine (o:Nat):List UInt8:=(opAt o).1
def opName (o:Nat):List UInt8:=(opAt o).2.1
def opFls (o:Nat):List Fl:=(opAt o).2.2
def opWords (o:Nat):List (List UInt8):=opName o::(opFls o).map Fl.name
def isOp (o:Nat):Bool:=decide (1≤o)&&decide (o≤38)
theorem isOp_iff (o:Nat):isOp o=true↔1≤o∧o≤38:=by simp [isOp]
theorem all_ops {p:Nat→Bool} (h:((List.range 38).all fun i=>p (i+1))=true) {o:Nat} (ho:isOp o=true):p o=true:=by
 have h1:=(isOp_iff o).1 ho;have:=List.all_eq_true.1 h (o - 1) (List.mem_range.2 (by omega))
 rwa [show o - 1+1=o by omega] at this
theorem opFields_ok {o:Nat} (ho:isOp o=true):Lib.fields (opLine o)=opWords o:=by
 have:=all_ops (p:=fun o=>Lib.fields (opLine o)==opWords o) kq ho;exact eq_of_beq this
theorem opLine_ok {o:Nat} (ho:isOp o=true):(opLine o).length<4294967281∧(opLine o).all (fun b=>decide (b.toNat<128))=true∧(Lib.fields (opLine o)).length≤4294967296:=by
 have:=all_ops (p:=fun o=>decide ((opLine o).length<4294967281)&&((opLine o).all (fun b=>decide (b.toNat<128))&&decide ((Lib.fields (opLine o)).length≤4294967296))) kq ho;simpa using this
def fldV (f:Fl) (g:Nat→Nat):Value:=.agg ((f.cells g).map SV.den0).toArray
def wordRow (o g:Nat):Row:=rowL strS [] (opWords o) (some ⟨g,0,none⟩) (opWords o).length 9 1 false
def wordV (o g:Nat):Value:=.slice (some ⟨g,0,none⟩) (opWords o).length (opWords o).length
def esL (q:Nat→Nat):Nat→List Nat→List MapEntry
 | _,[]=>[]
 | i,o::l=>{ key:=.int .i64 (o:Int),val:=wordV o (q o),born:=i }::esL q (i+1) l
structure Kc where
 gF:Nat
 gO:Nat
 a:Fl→Nat→Nat
 q:Nat→Nat
 esF:Array MapEntry
 ckF:Nat
 esO:Array MapEntry
 ckO:Nat
def opsP (l:List Nat) (q:Nat→Nat):Pers:=manyP (l.map fun o=>rowP (wordRow o (q o)))
def Kc.all (K:Kc):List Pers:=[objP K.gF (.map K.esF K.ckF),objP K.gO (.map K.esO K.ckO),opsP ((List.range 38).map (· + 1)) K.q]++Fl.all.flatMap fun f=>absP (K.a f) f.bl 0
def cdP (K:Kc):Pers:=manyP K.all
def Kc.ok (K:Kc):Prop :=
 (∀ (f:Fl) (j:Nat),j<f.bl.length→12≤K.a f j) ∧
 (∀ f:Fl,∃ i,Instr.findNow .string (.string ⟨f.name.toArray⟩) K.esF.toList 0=some (some (i,fldV f (K.a f)))) ∧
 ∃ done:List Nat,done.Nodup∧(∀ o,o∈done↔isOp o=true)∧K.esO.toList=esL K.q 0 done∧K.ckO=done.length
def Kc.val (K:Kc):RV:=.v (.agg [.val (.map (some K.gF)),.val (.map (some K.gO))])
theorem opsP_stab (l:List Nat) (q:Nat→Nat):Stab (opsP l q):=manyP_stab fun p hp=>by
 obtain ⟨o,_,rfl⟩:=List.mem_map.1 hp;exact rowP_stab _
theorem Kc.all_stab (K:Kc):∀ p∈K.all,Stab p:=by
 intro p hp;rcases List.mem_append.1 hp with hp | hp
 ·simp only [List.mem_cons,List.not_mem_nil,or_false] at hp;rcases hp with rfl | rfl | rfl
  ·exact objP_stab _ _
  ·exact objP_stab _ _
  ·exact opsP_stab _ _
 ·obtain ⟨f,_,hp⟩:=List.mem_flatMap.1 hp;exact absP_stab p hp
theorem cdP_stab (K:Kc):Stab (cdP K):=manyP_stab K.all_stab
theorem esL_key {q:Nat→Nat}:∀ {l:List Nat} {i:Nat} {e:MapEntry},e∈esL q i l→∃ o,o∈l∧e.key=.int .i64 (o:Int)∧e.val=wordV o (q o)∧i≤e.born∧e.born<i+l.length
 | [],i,e,h=>by simp [esL] at h
 | o::l,i,e,h=>by
  simp only [esL,List.mem_cons] at h;rcases h with rfl | h
  ·exact ⟨o,List.mem_cons_self ..,rfl,rfl,Nat.le_refl _,by simp⟩
  ·obtain ⟨o',h1,h2,h3,h4,h5⟩:=esL_key h;exact ⟨o',List.mem_cons_of_mem _ h1,h2,h3,by omega,by simp only [List.length_cons]; omega⟩
theorem esL_snoc (q:Nat→Nat) (o:Nat):∀ (l:List Nat) (i:Nat),esL q i (l++[o])=esL q i l++[{ key:=.int .i64 (o:Int),val:=wordV o (q o),born:=i+l.length }]
 | [],i=>by simp [esL]
 | x::l,i=>by
  simp only [List.cons_append,esL,esL_snoc q o l (i+1),List.length_cons];rw [show i+1+l.length=i+(l.length+1) by omega]
theorem esL_congr {q q':Nat→Nat}:∀ {l:List Nat} {i:Nat},(∀ o∈l,q o=q' o)→esL q i l=esL q' i l
 | [],i,_=>rfl
 | x::l,i,h=>by
  simp only [esL];rw [h x (List.mem_cons_self ..),esL_congr (fun o ho=>h o (List.mem_cons_of_mem _ ho))]
theorem esL_born (q:Nat→Nat):∀ (l:List Nat) (i:Nat),(esL q i l).map (·.born)=(List.range l.length).map (i+·)
 | [],i=>by simp [esL]
 | x::l,i=>by
  simp only [esL,List.map_cons,esL_born q l (i+1),List.length_cons,List.range_succ_eq_map,List.map_cons,Nat.add_zero,List.map_map];congr 1;apply List.map_congr_left;intro j _;simp only [Function.comp];omega
theorem esL_find_none {q:Nat→Nat} {n:Int}:∀ {l:List Nat} {i j:Nat},(∀ o∈l,(o:Int)≠n)→Instr.findNow (.int .i64) (.int .i64 n) (esL q i l) j=some none
 | [],i,j,_=>rfl
 | x::l,i,j,h=>by
  have h1:(n==(x:Int))=false:=by
   have:=h x (List.mem_cons_self ..);simp; omega
  simp only [esL,Instr.findNow,Instr.sameNow,if_true,h1];exact esL_find_none (fun o ho=>h o (List.mem_cons_of_mem _ ho))
theorem esL_find {q:Nat→Nat} {o:Nat}:∀ {l:List Nat} {i j:Nat},o∈l→∃ k,Instr.findNow (.int .i64) (.int .i64 (o:Int)) (esL q i l) j=some (some (k,wordV o (q o)))
 | x::l,i,j,h=>by
  by_cases e:o=x
  ·subst e;exact ⟨j,by simp [esL,Instr.findNow,Instr.sameNow]⟩
  ·have h1:((o:Int)==(x:Int))=false:=by simp; omega
   have h2:o∈l:=by
    rcases List.mem_cons.1 h with h | h
    ·exact absurd h e
    ·exact h
   obtain ⟨k,hk⟩:=esL_find (q:=q) (i:=i+1) (j:=j+1) h2;exact ⟨k,by simp only [esL,Instr.findNow,Instr.sameNow,if_true,h1]; exact hk⟩
def nameQ (o g:Nat):Option Addr:=movedA (some ⟨g,0,none⟩) 1 1 (opWords o).length
def nameRow (o g:Nat):Row:=rowL strS [] ((opFls o).map Fl.name) (nameQ o g) (opFls o).length 9 1 false
theorem opWords_len (o:Nat):(opWords o).length=(opFls o).length+1:=by simp [opWords]
theorem nameRow_uses {o g k:Nat} (h:(nameRow o g).uses k):k=g∧0<(opFls o).length:=by
 obtain ⟨a,h1,h2,h3⟩:=h;have hn:0<(opFls o).length:=by
  rcases h3 with h3 | h3 | h3
  ·cases h3
  ·simpa [nameRow,rowL] using h3
  ·simp [nameRow,rowL] at h3
 refine ⟨?_,hn⟩;have h1':nameQ o g=some a:=h1;unfold nameQ movedA at h1';rw [if_neg (by rw [opWords_len]; omega)] at h1';simp only [Option.map_some,Option.some.injEq] at h1';rw [← h2,← h1'];rfl
theorem nameRow_ok {o g:Nat} {w:World} (h:(wordRow o g).ok w):(nameRow o g).ok w:=by
 refine ⟨fun i hi=>⟨rfl,fun x hx=>?_⟩,fun hn=>?_,fun e=>(by cases e),fun o e=>(by cases e)⟩
 ·have:x=.str (((opFls o).map Fl.name).getD i []):=by simpa [nameRow,rowL,strS] using hx
  subst this; trivial
 ·have hn':0<((opFls o).map Fl.name).length:=hn;rw [List.length_map] at hn';obtain ⟨b,off,h1,h2⟩:=h.addr (by show 0<(opWords o).length; rw [opWords_len]; omega);have e:(⟨g,0,none⟩:Addr)=⟨b,off,none⟩:=Option.some.inj h1;cases e;refine ⟨g,1,?_,fun i j x hi hx=>?_⟩
  ·show nameQ o g=_;unfold nameQ movedA;rw [if_neg (by rw [opWords_len]; omega)];rfl
  ·have hi':i<((opFls o).map Fl.name).length:=hi;rw [List.length_map] at hi';have:=h2 (i+1) j x (by show i+1<(opWords o).length; rw [opWords_len]; omega) (by
    have:(wordRow o g).get (i+1)=(nameRow o g).get i:=by simp [wordRow,nameRow,rowL,opWords]
    rw [this]; exact hx)
   rw [← this];have e2:(wordRow o g).size=1:=rfl;have e3:(nameRow o g).size=1:=rfl;rw [e2,e3];congr 2;omega
structure OI where
 l:List Fl
 i:Nat
 q:Option Addr
 c:Nat
def ofSt (K:Kc) (o:Nat) (j:OI):St :=
 { n:=36,slots:=[(2,.v (.one (.ptr 0 0))),(8,.v (.one (.row 0 j.q j.l.length j.c))),(21,.v (.one (.row 1 (nameQ o (K.q o)) ((opFls o).map Fl.name).length (opFls o).length))),(22,.v (.one (.int .i64 (opFls o).length))),(23,.v (.one (.int .i64 j.i)))],gs:=[],
    heap:=[(0,⟨[.val (.map (some K.gF)),.val (.map (some K.gO))],110,true⟩)],next:=1,rows:=[(0,rowL (fun f=>f.cells (K.a f)) .D j.l j.q j.c 165 6 true),(1,nameRow o (K.q o))],nr:=2,pers:=[cdP K],wr:=true,fx:=0 }
def fsF (K:Kc) (l:List Fl) (x:Option Addr×Nat):St:={ noF with rows:=[(0,rowL (fun f=>f.cells (K.a f)) .D l x.1 x.2 165 6 true)],nr:=1 }
theorem cd_heap {K:Kc} {C:Ctx} {ρ:Nat→Nat} {s:St} {a:Act} {w:World} (h:Sat C ρ s a w) (hp:cdP K∈s.pers):w.heap[K.gF]?=some (.map K.esF K.ckF)∧w.heap[K.gO]?=some (.map K.esO K.ckO):=by
 have h1:(cdP K).φ w:=(h.pers _ hp).1;exact ⟨h1 _ (List.mem_append_left _ (List.mem_cons_self ..)),h1 _ (List.mem_append_left _ (List.mem_cons_of_mem _ (List.mem_cons_self ..)))⟩
set_option maxHeartbeats 2000000 in
theorem cOf (K:Kc) (hK:K.ok) (o:Nat) (ho:isOp o=true):CallsK Tryz.prog 115 [.agg [.val (.map (some K.gF)),.val (.map (some K.gO))],.one (.int .i64 (o:Int))] (psOf [cdP K])
  (fun _:Option Addr×Nat=>True) (fun x=>.tup [.one (.row 0 x.1 (opFls o).length x.2),.one (.sb true)]) (fsF K (opFls o)):=by
 obtain ⟨hK12,hKF,done,hd1,hd2,hd3,hd4⟩:=hK;have hbd:1≤o∧o≤38:=(isOp_iff o).1 ho;have hfl:(opFls o).length≤7:=by
  have:=all_ops (p:=fun o=>decide ((opFls o).length≤7)) kq ho;simpa using this
 refine CallsK.m true Tryz.func115 (fun ρ w=>?_);refine V.q ?_;refine V.lookP 108 3 118 (.int .i64) K.gO (.one (.int .i64 (o:Int))) true (.int .i64 (o:Int)) (some (wordV o (K.q o))) undef (.tup [.one (.val (wordV o (K.q o))),.one (.bool true)]) kq kq kq kq
  (fun ρ a w hS=>?_) (fun _=>rfl) (fun h=>by cases h) (fun _=>rfl) (by intro y hy; simp only [List.mem_cons,List.not_mem_nil,or_false] at hy; rcases hy with rfl | rfl<;>trivial) (fun g pol b y h=>by cases h) kq ?_
 ·obtain ⟨k,hk⟩:=esL_find (q:=K.q) (i:=0) (j:=0) ((hd2 o).2 ho);exact ⟨K.esO,K.ckO,_,(cd_heap hS (List.mem_of_getElem? (i:=0) kq)).2,by rw [hd3]; exact hk,rfl⟩
 refine V.t [] [(0:Int)≤1∧(1:Int)≤((opWords o).length:Int)∧((opWords o).length:Int)≤((opWords o).length:Int)] ⟨by omega,by rw [opWords_len]; omega,by omega⟩ ?_;have hln:((opWords o).length:Int).toNat - (1:Int).toNat=(opFls o).length:=by rw [opWords_len]; omega
 have hln2:(opWords o).length - (1:Int).toNat=(opFls o).length:=by rw [opWords_len]; rfl
 refine V.slotAs 21 (.one (.val (.slice (movedA (some ⟨K.q o,0,none⟩) (1:Int).toNat 1 (opWords o).length) (((opWords o).length:Int).toNat - (1:Int).toNat) ((opWords o).length - (1:Int).toNat)))) (.one (.val (.slice (nameQ o (K.q o)) ((opFls o).map Fl.name).length (opFls o).length))) kq kq
  (fun _=>by rw [hln,hln2,List.length_map]; rfl) ?_
 refine V.s 22 (.one (.int .i64 ((((opWords o).length:Int).toNat - (1:Int).toNat:Nat):Int))) (.one (.int .i64 ((opFls o).length:Int))) (fun _=>by rw [hln]) ?_;refine V.pickP 0 K.all (opsP ((List.range 38).map (· + 1)) K.q) kq (List.mem_append_left _ (List.mem_cons_of_mem _ (List.mem_cons_of_mem _ (List.mem_cons_self ..)))) (opsP_stab _ _) ?_;refine V.pickP 0 (((List.range 38).map (· + 1)).map fun o=>rowP (wordRow o (K.q o))) (rowP (wordRow o (K.q o))) kq (List.mem_map.2 ⟨o,List.mem_map.2 ⟨o - 1,List.mem_range.2 (by omega),by omega⟩,rfl⟩) (rowP_stab _) ?_;refine V.persAs [(0,false)] [rowP (wordRow o (K.q o))] (rowP (nameRow o (K.q o))) kq (fun k hk=>⟨_,List.mem_singleton.2 rfl,?_⟩) (fun w hw=>nameRow_ok (hw _ (List.mem_singleton.2 rfl))) (rowP_stab _) ?_
 ·rw [(nameRow_uses hk).1];exact ⟨_,rfl,rfl,.inr (.inl (by show 0<(opWords o).length; rw [opWords_len]; omega))⟩
 refine V.ar 21 0 (nameRow o (K.q o)) ?_;refine V.nilL (fun f=>Fl.cells f (K.a f)) .D 8 165 6 kq kq ?_;refine V.loopK [2,8,21,22,23] [false,false,false,true] (fun j:OI=>(opFls o).length - j.i) (ofSt K o) (fun j=>j.i≤(opFls o).length∧j.l=(opFls o).take j.i) ⟨[],0,none,0⟩ kq ⟨Nat.zero_le _,rfl⟩ (fun j hj ih=>?_);obtain ⟨l,i,q,c⟩:=j;obtain ⟨hj,hl⟩:=hj;simp only at hj hl;refine V.iter ?_;refine V.q ?_;refine V.bn 24 (decide ((i:Int)<(opFls o).length)) (fun hb=>?_) (fun hb=>?_)
 ·have hlt:i<(opFls o).length:=by simpa using hb
  have hget:((opFls o).map Fl.name).getD i []=((opFls o).getD i .D).name:=by
   rw [List.getD,List.getD,List.getElem?_map,List.getElem?_eq_getElem hlt]; rfl
  refine V.t [] [(0:Int)≤i∧(i:Int)<((((opFls o).map Fl.name).length:Nat):Int)] ⟨by omega,by rw [List.length_map]; omega⟩ ?_;generalize hf:(opFls o).getD i .D=f at hget;refine V.s 30 (.one (.str (((opFls o).map Fl.name).getD i []))) (.one (.str f.name)) (fun _=>by rw [hget]) ?_;refine V.lookP 107 9 165 .string K.gF (.one (.str f.name)) false (.string ⟨f.name.toArray⟩) (some (fldV f (K.a f))) undef (.v (.agg (f.cells (K.a f)))) kq kq kq kq
   (fun ρ a w hS=>?_) (fun _=>rfl) (fun h=>by cases h) (fun _=>rfl) (by intro y hy; simp only [Fl.cells,List.mem_cons,List.not_mem_nil,or_false] at hy; rcases hy with rfl | rfl | rfl | rfl | rfl | rfl<;>trivial) (fun g pol b y h=>by cases h) kq ?_
  ·obtain ⟨k,hk⟩:=hKF f;exact ⟨K.esF,K.ckF,_,(cd_heap hS (List.mem_of_getElem? (i:=0) kq)).1,hk,rfl⟩
  refine V.q ?_;have hlen:l.length=i:=by rw [hl,List.length_take]; omega
  refine V.push (fun f=>Fl.cells f (K.a f)) .D l f 0 q c 165 6 (f.cells (K.a f)) 48 kq (by omega) rfl (fun _ _=>kq) (fun q' c'=>?_);refine V.q ?_;refine V.up 23 i (by omega) ?_;refine V.againK [2,8,21,22,23] [true] (ih ⟨l++[f],i+1,q',c'⟩ ⟨hlt,?_⟩ (by simp only; omega)) kq kq;simp only;rw [hl,List.take_add_one,List.getElem?_eq_getElem hlt,← hf,List.getD,List.getElem?_eq_getElem hlt];rfl
 ·have hle:(opFls o).length=i:=by
   have:¬ i<(opFls o).length:=by simpa using hb
   omega
  refine V.q ?_;have htk:l=opFls o:=by rw [hl,← hle,List.take_length]
  subst htk;refine V.sb 5 true ?_;exact V.e ((q,c):Option Addr×Nat) [] trivial
theorem cd_drv (K:Kc) (f:Fl) {q:Pers} {ps:List Pers} (h:q∈absP (K.a f) f.bl 0):Drv (cdP K::ps) q :=
 Drv.many (absP_stab q h) (List.mem_cons_self ..) (List.mem_append_right _ (List.mem_flatMap.2 ⟨f,f.mem_all,h⟩))
theorem cdi (K:Kc) (f:Fl) (i:Nat) {q:Pers} {ps:List Pers} (h:(absP (K.a f) f.bl 0)[i]?=some q:=by rfl):Drv (cdP K::ps) q:=cd_drv K f (List.mem_of_getElem? h)
theorem lsi {ps:List Pers} (i:Nat) {R:Row} (h:ps[i]?=some (rowP R):=by rfl):Drv ps (rowP R):=Drv.self (rowP_stab _) (List.mem_of_getElem? h)
theorem dv0 {ps:List Pers}:∀ q∈([]:List Pers),Drv ps q:=fun q hq=>absurd hq (List.not_mem_nil)
theorem dv {ps l:List Pers} {p:Pers} (h:Drv ps p) (t:∀ q∈l,Drv ps q):∀ q∈p::l,Drv ps q:=fun q hq=>by
 rcases List.mem_cons.1 hq with rfl | hq
 ·exact h
 ·exact t q hq
theorem ogv {P:Program} {f:FuncId} {ys:List CV} {ps:List Pers} {v:RV} (h:∀ (ρ:Nat→Nat) (w:World),PersOk ps w→Calls P f (ys.map (CV.den (fun _=>0))).toArray w (Gives (v.den ρ) w)) (hv:plainR v=true:=by rfl) (hy:ys.all plainC=true:=by rfl) :
  CallsK P f ys (stP ps) (fun _:Unit=>True) (fun _=>v) (fun _=>stP []):=CallsK.ofGives hv fun ρ w hp=>by rw [plainCs_den hy ρ (fun _=>0)]; exact h ρ w hp
def In.okL (x:In):Prop:=x.f.length≤1000∧x.l.length≤1000∧x.y.length≤1000
def In.okM (x:In):Prop:=x.f.length≤1000000∧x.l.length≤1000000∧x.y.length≤1000000
theorem In.okL.okM {x:In} (h:x.okL):x.okM:=⟨Nat.le_trans h.1 (by decide),Nat.le_trans h.2.1 (by decide),Nat.le_trans h.2.2 (by decide)⟩
theorem farMove (x y:In) (A B:IA):CallsK Tryz.prog 227 [.one (.ptr 0 0),.agg (inV x A)] (mvF [] y B) (fun _:Unit=>True) (fun _=>.tup []) (fun _=>mvF [] { y with n:=x.n,p:=x.p } B):=by
 refine CallsK.m false Tryz.func227 (fun ρ w=>?_);refine V.q ?_;refine V.drawX [0] [] 12 kq ?_;refine @VX.run _ [0] [] 12 _ _ ([]:List (Ent Tryz.prog)) [] kq kq trivial ?_;refine @VX.store _ [0] [] 12 _ _ 8 kq kq kq ?_;refine @VX.run _ [0] [] 12 _ _ ([]:List (Ent Tryz.prog)) [] kq kq trivial ?_;refine @VX.store _ [0] [] 12 _ _ 11 kq kq kq ?_;refine VX.stop kq ?_;refine V.q ?_;exact V.z
def Fl.fineB (f:Fl) (x:In):Bool:=match f with
 | .D=>isRg (Sel.get .D x)
 | .A=>isRg (Sel.get .A x)
 | .B=>isRg (Sel.get .B x)
 | .N=>isNum (Sel.get .N x)
 | .M=>isNum (Sel.get .M x)
 | .P=>isNum (Sel.get .P x)
 | .T=>isTy (TSel.get .T x)
 | .U=>isTy (TSel.get .U x)
 | .W=>isTy (TSel.get .W x)
 | .V=>isVal x
 | .L=>x.l.all fineI&&decide ((x.l.length:Int)≤16)
 | .Y=>x.y.all isTy&&decide ((x.y.length:Int)≤16)
 | .F=>x.f.all isFm&&decide ((x.f.length:Int)≤16)
 | .Sz=>true
 | .Rg=>true
 | .aN=>isPl (Sel.get .N x)
 | .aM=>isPl (Sel.get .M x)
 | .pN=>isPr false (Sel.get .N x)
 | .pM=>isPr true (Sel.get .M x)
 | .far=>isFar x
def Fl.mv (f:Fl) (x y:In):In:=match f with
 | .D=>Sel.set .D y (Sel.get .D x)
 | .A=>Sel.set .A y (Sel.get .A x)
 | .B=>Sel.set .B y (Sel.get .B x)
 | .N=>Sel.set .N y (Sel.get .N x)
 | .M=>Sel.set .M y (Sel.get .M x)
 | .P=>Sel.set .P y (Sel.get .P x)
 | .T=>TSel.set .T y (TSel.get .T x)
 | .U=>TSel.set .U y (TSel.get .U x)
 | .W=>TSel.set .W y (TSel.get .W x)
 | .V=>{ y with vn:=x.vn,vs:=x.vs }
 | .L=>{ y with l:=x.l }
 | .Y=>{ y with y:=x.y }
 | .F=>{ y with f:=x.f }
 | .Sz=>FSel.set .S y (FSel.get .S x)
 | .Rg=>FSel.set .R y (FSel.get .R x)
 | .aN=>Sel.set .N y (Sel.get .N x)
 | .aM=>Sel.set .M y (Sel.get .M x)
 | .pN=>Sel.set .N y (Sel.get .N x)
 | .pM=>Sel.set .M y (Sel.get .M x)
 | .far=>{ y with n:=x.n,p:=x.p }
def Fl.mvA (f:Fl) (A B:IA):IA:=match f with
 | .L=>{ B with ql:=A.ql,cl:=A.cl }
 | .Y=>{ B with qy:=A.qy,cy:=A.cy }
 | .F=>{ B with qf:=A.qf,cf:=A.cf }
 | _=>B
set_option maxHeartbeats 2000000 in
theorem flFine (f:Fl) (K:Kc) (x:In) (A:IA) (hx:x.okL):CallsK Tryz.prog f.ids.2.1 (.agg (inV x A)::absV (K.a f) f.caps.2.1) (stP (cdP K::lsP x A)) (fun _:Unit=>True) (fun _=>.v (.one (.sb (f.fineB x)))) (fun _=>stP []):=by
 cases f
 case D =>
  exact (ogv (ys:=[.agg (inV x A),.one (.val (.pointer (some ⟨K.a .D 1,0,none⟩)))]) (ps:=[Sel.blk .D (K.a .D 1)]) (v:=.v (.one (.sb (Fl.fineB .D x)))) fun ρ w hp=>regFine .D x A (K.a .D 1) w hp).pers (cdP K::lsP x A) (dv (cdi K .D 1) dv0)
 case A =>
  exact (ogv (ys:=[.agg (inV x A),.one (.val (.pointer (some ⟨K.a .A 1,0,none⟩)))]) (ps:=[Sel.blk .A (K.a .A 1)]) (v:=.v (.one (.sb (Fl.fineB .A x)))) fun ρ w hp=>regFine .A x A (K.a .A 1) w hp).pers (cdP K::lsP x A) (dv (cdi K .A 1) dv0)
 case B =>
  exact (ogv (ys:=[.agg (inV x A),.one (.val (.pointer (some ⟨K.a .B 1,0,none⟩)))]) (ps:=[Sel.blk .B (K.a .B 1)]) (v:=.v (.one (.sb (Fl.fineB .B x)))) fun ρ w hp=>regFine .B x A (K.a .B 1) w hp).pers (cdP K::lsP x A) (dv (cdi K .B 1) dv0)
 case N =>
  exact (ogv (ys:=[.agg (inV x A),.one (.val (.pointer (some ⟨K.a .N 0,0,none⟩)))]) (ps:=[Sel.blk .N (K.a .N 0)]) (v:=.v (.one (.sb (Fl.fineB .N x)))) fun ρ w hp=>numFine .N x A (K.a .N 0) w hp).pers (cdP K::lsP x A) (dv (cdi K .N 0) dv0)
 case M =>
  exact (ogv (ys:=[.agg (inV x A),.one (.val (.pointer (some ⟨K.a .M 0,0,none⟩)))]) (ps:=[Sel.blk .M (K.a .M 0)]) (v:=.v (.one (.sb (Fl.fineB .M x)))) fun ρ w hp=>numFine .M x A (K.a .M 0) w hp).pers (cdP K::lsP x A) (dv (cdi K .M 0) dv0)
 case P =>
  exact (ogv (ys:=[.agg (inV x A),.one (.val (.pointer (some ⟨K.a .P 0,0,none⟩)))]) (ps:=[Sel.blk .P (K.a .P 0)]) (v:=.v (.one (.sb (Fl.fineB .P x)))) fun ρ w hp=>numFine .P x A (K.a .P 0) w hp).pers (cdP K::lsP x A) (dv (cdi K .P 0) dv0)
 case T =>
  exact (ogv (ys:=[.agg (inV x A),.one (.val (.pointer (some ⟨K.a .T 0,0,none⟩)))]) (ps:=[TSel.blk .T (K.a .T 0)]) (v:=.v (.one (.sb (Fl.fineB .T x)))) fun ρ w hp=>tyFine .T x A (K.a .T 0) w hp).pers (cdP K::lsP x A) (dv (cdi K .T 0) dv0)
 case U =>
  exact (ogv (ys:=[.agg (inV x A),.one (.val (.pointer (some ⟨K.a .U 0,0,none⟩)))]) (ps:=[TSel.blk .U (K.a .U 0)]) (v:=.v (.one (.sb (Fl.fineB .U x)))) fun ρ w hp=>tyFine .U x A (K.a .U 0) w hp).pers (cdP K::lsP x A) (dv (cdi K .U 0) dv0)
 case W =>
  exact (ogv (ys:=[.agg (inV x A),.one (.val (.pointer (some ⟨K.a .W 0,0,none⟩)))]) (ps:=[TSel.blk .W (K.a .W 0)]) (v:=.v (.one (.sb (Fl.fineB .W x)))) fun ρ w hp=>tyFine .W x A (K.a .W 0) w hp).pers (cdP K::lsP x A) (dv (cdi K .W 0) dv0)
 case V =>
  exact (ogv (ys:=[.agg (inV x A)]) (ps:=[]) (v:=.v (.one (.sb (Fl.fineB .V x)))) fun ρ w hp=>valFine x A w).pers (cdP K::lsP x A) dv0
 case L =>
  exact (lFineI x A (K.a .L 0) (K.a .L 1) (Nat.le_trans hx.2.1 (by decide))).pers (cdP K::lsP x A) (dv (cdi K .L 0) (dv (cdi K .L 1) (dv (lsi 2) dv0)))
 case Y =>
  exact (lFineT x A (K.a .Y 0) (K.a .Y 1) (Nat.le_trans hx.2.2 (by decide))).pers (cdP K::lsP x A) (dv (cdi K .Y 0) (dv (cdi K .Y 1) (dv (lsi 3) dv0)))
 case F =>
  exact (lFineF x A (K.a .F 0) (K.a .F 1) (Nat.le_trans hx.1 (by decide))).pers (cdP K::lsP x A) (dv (cdi K .F 0) (dv (cdi K .F 1) (dv (lsi 1) dv0)))
 case Sz =>
  exact (ogv (ys:=[.agg (inV x A)]) (ps:=[]) (v:=.v (.one (.sb (Fl.fineB .Sz x)))) fun ρ w hp=>flagFine x A w).pers (cdP K::lsP x A) dv0
 case Rg =>
  exact (ogv (ys:=[.agg (inV x A)]) (ps:=[]) (v:=.v (.one (.sb (Fl.fineB .Rg x)))) fun ρ w hp=>flagFine x A w).pers (cdP K::lsP x A) dv0
 case aN =>
  exact (ogv (ys:=[.agg (inV x A),.one (.val (.pointer (some ⟨K.a .aN 1,0,none⟩)))]) (ps:=[Sel.blk .N (K.a .aN 1)]) (v:=.v (.one (.sb (Fl.fineB .aN x)))) fun ρ w hp=>plFine .N x A (K.a .aN 1) w hp).pers (cdP K::lsP x A) (dv (cdi K .aN 1) dv0)
 case aM =>
  exact (ogv (ys:=[.agg (inV x A),.one (.val (.pointer (some ⟨K.a .aM 1,0,none⟩)))]) (ps:=[Sel.blk .M (K.a .aM 1)]) (v:=.v (.one (.sb (Fl.fineB .aM x)))) fun ρ w hp=>plFine .M x A (K.a .aM 1) w hp).pers (cdP K::lsP x A) (dv (cdi K .aM 1) dv0)
 case pN =>
  exact (ogv (ys:=[.agg (inV x A),.one (.val (.pointer (some ⟨K.a .pN 1,0,none⟩))),.one (.val (.pointer (some ⟨K.a .pN 2,0,none⟩)))]) (ps:=[Sel.blk .N (K.a .pN 1),blkP (K.a .pN 2) [.sb false] 4]) (v:=.v (.one (.sb (Fl.fineB .pN x)))) fun ρ w hp=>procFine .N false x A (K.a .pN 1) (K.a .pN 2) w hp).pers (cdP K::lsP x A) (dv (cdi K .pN 1) (dv (cdi K .pN 2) dv0))
 case pM =>
  exact (ogv (ys:=[.agg (inV x A),.one (.val (.pointer (some ⟨K.a .pM 1,0,none⟩))),.one (.val (.pointer (some ⟨K.a .pM 2,0,none⟩)))]) (ps:=[Sel.blk .M (K.a .pM 1),blkP (K.a .pM 2) [.sb true] 4]) (v:=.v (.one (.sb (Fl.fineB .pM x)))) fun ρ w hp=>procFine .M true x A (K.a .pM 1) (K.a .pM 2) w hp).pers (cdP K::lsP x A) (dv (cdi K .pM 1) (dv (cdi K .pM 2) dv0))
 case far =>
  exact (ogv (ys:=[.agg (inV x A)]) (ps:=[]) (v:=.v (.one (.sb (Fl.fineB .far x)))) fun ρ w hp=>farFine x A w).pers (cdP K::lsP x A) dv0
set_option maxHeartbeats 2000000 in
theorem flMove (f:Fl) (K:Kc) (x y:In) (A B:IA):CallsK Tryz.prog f.ids.1 (.one (.ptr 0 0)::.agg (inV x A)::absV (K.a f) f.caps.1) (mvF (cdP K::lsP x A) y B) (fun _:Unit=>True) (fun _=>.tup []) (fun _=>mvF [] (f.mv x y) (f.mvA A B)):=by
 cases f
 case D =>
  exact (CallsK.to (CallsK.ofF (fun _=>rfl) (fun ρ w hF=>numMove .D x y A B (K.a .D 0) ρ w hF)) (fun z hz=>⟨(),trivial,rfl,by rw [hz]; rfl⟩)).pers (cdP K::lsP x A) (dv (cdi K .D 0) dv0)
 case A =>
  exact (CallsK.to (CallsK.ofF (fun _=>rfl) (fun ρ w hF=>numMove .A x y A B (K.a .A 0) ρ w hF)) (fun z hz=>⟨(),trivial,rfl,by rw [hz]; rfl⟩)).pers (cdP K::lsP x A) (dv (cdi K .A 0) dv0)
 case B =>
  exact (CallsK.to (CallsK.ofF (fun _=>rfl) (fun ρ w hF=>numMove .B x y A B (K.a .B 0) ρ w hF)) (fun z hz=>⟨(),trivial,rfl,by rw [hz]; rfl⟩)).pers (cdP K::lsP x A) (dv (cdi K .B 0) dv0)
 case N =>
  exact (CallsK.to (CallsK.ofF (fun _=>rfl) (fun ρ w hF=>numMove .N x y A B (K.a .N 0) ρ w hF)) (fun z hz=>⟨(),trivial,rfl,by rw [hz]; rfl⟩)).pers (cdP K::lsP x A) (dv (cdi K .N 0) dv0)
 case M =>
  exact (CallsK.to (CallsK.ofF (fun _=>rfl) (fun ρ w hF=>numMove .M x y A B (K.a .M 0) ρ w hF)) (fun z hz=>⟨(),trivial,rfl,by rw [hz]; rfl⟩)).pers (cdP K::lsP x A) (dv (cdi K .M 0) dv0)
 case P =>
  exact (CallsK.to (CallsK.ofF (fun _=>rfl) (fun ρ w hF=>numMove .P x y A B (K.a .P 0) ρ w hF)) (fun z hz=>⟨(),trivial,rfl,by rw [hz]; rfl⟩)).pers (cdP K::lsP x A) (dv (cdi K .P 0) dv0)
 case T =>
  exact (CallsK.to (CallsK.ofF (fun _=>rfl) (fun ρ w hF=>tyMove .T x y A B (K.a .T 0) ρ w hF)) (fun z hz=>⟨(),trivial,rfl,by rw [hz]; rfl⟩)).pers (cdP K::lsP x A) (dv (cdi K .T 0) dv0)
 case U =>
  exact (CallsK.to (CallsK.ofF (fun _=>rfl) (fun ρ w hF=>tyMove .U x y A B (K.a .U 0) ρ w hF)) (fun z hz=>⟨(),trivial,rfl,by rw [hz]; rfl⟩)).pers (cdP K::lsP x A) (dv (cdi K .U 0) dv0)
 case W =>
  exact (CallsK.to (CallsK.ofF (fun _=>rfl) (fun ρ w hF=>tyMove .W x y A B (K.a .W 0) ρ w hF)) (fun z hz=>⟨(),trivial,rfl,by rw [hz]; rfl⟩)).pers (cdP K::lsP x A) (dv (cdi K .W 0) dv0)
 case V =>
  exact (CallsK.to (CallsK.ofF (fun _=>rfl) (fun ρ w hF=>valMove x y A B ρ w hF)) (fun z hz=>⟨(),trivial,rfl,by rw [hz]; rfl⟩)).pers (cdP K::lsP x A) dv0
 case L =>
  exact (lMoveI x y A B (K.a .L 0)).pers (cdP K::lsP x A) (dv (cdi K .L 0) dv0)
 case Y =>
  exact (lMoveT x y A B (K.a .Y 0)).pers (cdP K::lsP x A) (dv (cdi K .Y 0) dv0)
 case F =>
  exact (lMoveF x y A B (K.a .F 0)).pers (cdP K::lsP x A) (dv (cdi K .F 0) dv0)
 case Sz =>
  exact (CallsK.to (CallsK.ofF (fun _=>rfl) (fun ρ w hF=>flagMove .S x y A B (K.a .Sz 0) ρ w hF)) (fun z hz=>⟨(),trivial,rfl,by rw [hz]; rfl⟩)).pers (cdP K::lsP x A) (dv (cdi K .Sz 0) dv0)
 case Rg =>
  exact (CallsK.to (CallsK.ofF (fun _=>rfl) (fun ρ w hF=>flagMove .R x y A B (K.a .Rg 0) ρ w hF)) (fun z hz=>⟨(),trivial,rfl,by rw [hz]; rfl⟩)).pers (cdP K::lsP x A) (dv (cdi K .Rg 0) dv0)
 case aN =>
  exact (CallsK.to (CallsK.ofF (fun _=>rfl) (fun ρ w hF=>numMove .N x y A B (K.a .aN 0) ρ w hF)) (fun z hz=>⟨(),trivial,rfl,by rw [hz]; rfl⟩)).pers (cdP K::lsP x A) (dv (cdi K .aN 0) dv0)
 case aM =>
  exact (CallsK.to (CallsK.ofF (fun _=>rfl) (fun ρ w hF=>numMove .M x y A B (K.a .aM 0) ρ w hF)) (fun z hz=>⟨(),trivial,rfl,by rw [hz]; rfl⟩)).pers (cdP K::lsP x A) (dv (cdi K .aM 0) dv0)
 case pN =>
  exact (CallsK.to (CallsK.ofF (fun _=>rfl) (fun ρ w hF=>numMove .N x y A B (K.a .pN 0) ρ w hF)) (fun z hz=>⟨(),trivial,rfl,by rw [hz]; rfl⟩)).pers (cdP K::lsP x A) (dv (cdi K .pN 0) dv0)
 case pM =>
  exact (CallsK.to (CallsK.ofF (fun _=>rfl) (fun ρ w hF=>numMove .M x y A B (K.a .pM 0) ρ w hF)) (fun z hz=>⟨(),trivial,rfl,by rw [hz]; rfl⟩)).pers (cdP K::lsP x A) (dv (cdi K .pM 0) dv0)
 case far =>
  exact (farMove x y A B).pers (cdP K::lsP x A) dv0
def Fl.enc (f:Fl) (x:In):List UInt8:=match f with
 | .D=>encN (Sel.get .D x+1)
 | .A=>encN (Sel.get .A x+1)
 | .B=>encN (Sel.get .B x+1)
 | .N=>encN (Sel.get .N x)
 | .M=>encN (Sel.get .M x)
 | .P=>encN (Sel.get .P x)
 | .T=>encTy (TSel.get .T x)
 | .U=>encTy (TSel.get .U x)
 | .W=>encTy (TSel.get .W x)
 | .V=>encN x.vn++encS x.vs
 | .L=>encLst eI x.l
 | .Y=>encLst encTy x.y
 | .F=>encLst encFm x.f
 | .Sz=>[bitB (FSel.get .S x)]
 | .Rg=>[bitB (FSel.get .R x)]
 | .aN=>fourB (Sel.get .N x)
 | .aM=>fourB (Sel.get .M x)
 | .pN=>encP (Sel.get .N x)
 | .pM=>encP (Sel.get .M x)
 | .far=>fourB x.n
def Fl.rel (f:Fl) (x:In) (n:Nat):List (Int×Int):=match f with
 | .pN=>relP (Sel.get .N x) n
 | .pM=>relP (Sel.get .M x) n
 | .far=>[((n:Nat),x.p)]
 | _=>[]
def Fl.rd (f:Fl) (rl:List (Int×Int)) (X:RIn) (r:RSt) (x:In):RSt×In:=match f with
 | .D=>((rdNum X r).2,Sel.set .D x ((rdNum X r).1 - 1))
 | .A=>((rdNum X r).2,Sel.set .A x ((rdNum X r).1 - 1))
 | .B=>((rdNum X r).2,Sel.set .B x ((rdNum X r).1 - 1))
 | .N=>((rdNum X r).2,Sel.set .N x (rdNum X r).1)
 | .M=>((rdNum X r).2,Sel.set .M x (rdNum X r).1)
 | .P=>((rdNum X r).2,Sel.set .P x (rdNum X r).1)
 | .T=>((rdTy X r).2,TSel.set .T x (rdTy X r).1)
 | .U=>((rdTy X r).2,TSel.set .U x (rdTy X r).1)
 | .W=>((rdTy X r).2,TSel.set .W x (rdTy X r).1)
 | .V=>((rdStr X (rdNum X r).2).2,{ x with vn:=(rdNum X r).1,vs:=(rdStr X (rdNum X r).2).1 })
 | .L=>((rdLst X (gI X) x.l r).2,{ x with l:=(rdLst X (gI X) x.l r).1 })
 | .Y=>((rdLst X (rdTy X) x.y r).2,{ x with y:=(rdLst X (rdTy X) x.y r).1 })
 | .F=>((rdLst X (rdFm X) x.f r).2,{ x with f:=(rdLst X (rdFm X) x.f r).1 })
 | .Sz=>((rdFlag X r).2,FSel.set .S x (rdFlag X r).1)
 | .Rg=>((rdFlag X r).2,FSel.set .R x (rdFlag X r).1)
 | .aN=>((rdFour X r).2,Sel.set .N x (rdFour X r).1)
 | .aM=>((rdFour X r).2,Sel.set .M x (rdFour X r).1)
 | .pN=>((rdPr false rl X r (Sel.get .N x)).2,Sel.set .N x (rdPr false rl X r (Sel.get .N x)).1)
 | .pM=>((rdPr true rl X r (Sel.get .M x)).2,Sel.set .M x (rdPr true rl X r (Sel.get .M x)).1)
 | .far=>((rdFour X (rdRel rl (r.at_:Int) r).2).2,{ x with p:=(rdRel rl (r.at_:Int) r).1,n:=(rdFour X (rdRel rl (r.at_:Int) r).2).1 })
theorem isRg_iff {n:Int} (h:isRg n=true):-1≤n∧n<4000:=by
 unfold isRg at h;simp at h;omega
theorem isTy_ok {t:Ty} (h:isTy t=true):num32 t.k∧num32 t.p∧num32 t.q∧t.s.length≤50000000:=by
 unfold isTy at h;simp only [Bool.and_eq_true,decide_eq_true_eq] at h;exact ⟨isNum_32 h.1.1.1,isNum_32 h.1.1.2,isNum_32 h.1.2,by omega⟩
set_option maxHeartbeats 2000000 in
theorem flPut (f:Fl) (K:Kc) (x:In) (A:IA) (b:WSt) (hx:x.okL) (hf:f.fineB x=true) (hb:b.bs.length≤500000000) (hr:b.rs.length≤500000000) :
  CallsK Tryz.prog f.ids.2.2.1 (.one (.ptr 0 0)::.agg (inV x A)::absV (K.a f) f.caps.2.2.1) (wrF (cdP K::lsP x A) b) (fun b':WSt=>b'.bs=b.bs++f.enc x∧b'.rs=b.rs++f.rel x b.bs.length) (fun _=>.tup []) (wrF []):=by
 cases f
 case D =>
  have h1:=isRg_iff hf;exact (CallsK.ofF (fun _=>rfl) (fun ρ w hF=>regPut .D x A (K.a .D 1) b h1.1 h1.2 (by omega) ρ w hF)).pers (cdP K::lsP x A) (dv (cdi K .D 1) dv0)
 case A =>
  have h1:=isRg_iff hf;exact (CallsK.ofF (fun _=>rfl) (fun ρ w hF=>regPut .A x A (K.a .A 1) b h1.1 h1.2 (by omega) ρ w hF)).pers (cdP K::lsP x A) (dv (cdi K .A 1) dv0)
 case B =>
  have h1:=isRg_iff hf;exact (CallsK.ofF (fun _=>rfl) (fun ρ w hF=>regPut .B x A (K.a .B 1) b h1.1 h1.2 (by omega) ρ w hF)).pers (cdP K::lsP x A) (dv (cdi K .B 1) dv0)
 case N =>
  exact (CallsK.ofF (fun _=>rfl) (fun ρ w hF=>numPut .N x A (K.a .N 0) b (isNum_32 hf) (by omega) ρ w hF)).pers (cdP K::lsP x A) (dv (cdi K .N 0) dv0)
 case M =>
  exact (CallsK.ofF (fun _=>rfl) (fun ρ w hF=>numPut .M x A (K.a .M 0) b (isNum_32 hf) (by omega) ρ w hF)).pers (cdP K::lsP x A) (dv (cdi K .M 0) dv0)
 case P =>
  exact (CallsK.ofF (fun _=>rfl) (fun ρ w hF=>numPut .P x A (K.a .P 0) b (isNum_32 hf) (by omega) ρ w hF)).pers (cdP K::lsP x A) (dv (cdi K .P 0) dv0)
 case T =>
  have h1:=isTy_ok hf;exact (CallsK.ofF (fun _=>rfl) (fun ρ w hF=>tyPut .T x A (K.a .T 0) b h1.1 h1.2.1 h1.2.2.1 h1.2.2.2 (by omega) ρ w hF)).pers (cdP K::lsP x A) (dv (cdi K .T 0) dv0)
 case U =>
  have h1:=isTy_ok hf;exact (CallsK.ofF (fun _=>rfl) (fun ρ w hF=>tyPut .U x A (K.a .U 0) b h1.1 h1.2.1 h1.2.2.1 h1.2.2.2 (by omega) ρ w hF)).pers (cdP K::lsP x A) (dv (cdi K .U 0) dv0)
 case W =>
  have h1:=isTy_ok hf;exact (CallsK.ofF (fun _=>rfl) (fun ρ w hF=>tyPut .W x A (K.a .W 0) b h1.1 h1.2.1 h1.2.2.1 h1.2.2.2 (by omega) ρ w hF)).pers (cdP K::lsP x A) (dv (cdi K .W 0) dv0)
 case V =>
  have h1:num32 x.vn∧x.vs.length≤50000000:=by
   have h0:isVal x=true:=hf;unfold isVal at h0;simp only [Bool.and_eq_true,decide_eq_true_eq] at h0;exact ⟨isNum_32 h0.1,by omega⟩
  exact (CallsK.ofF (fun _=>rfl) (fun ρ w hF=>valPut x A b h1.1 h1.2 (by omega) ρ w hF)).pers (cdP K::lsP x A) dv0
 case L =>
  have h1:x.l.all fineI=true:=by
   have h0:(x.l.all fineI&&decide ((x.l.length:Int)≤16))=true:=hf;rw [Bool.and_eq_true] at h0;exact h0.1
  exact (lPutI x A (K.a .L 0) (K.a .L 2) b hx.2.1 h1 (by omega)).pers (cdP K::lsP x A) (dv (cdi K .L 0) (dv (cdi K .L 2) (dv (lsi 2) dv0)))
 case Y =>
  have h1:x.y.all isTy=true:=by
   have h0:(x.y.all isTy&&decide ((x.y.length:Int)≤16))=true:=hf;rw [Bool.and_eq_true] at h0;exact h0.1
  exact (lPutT x A (K.a .Y 0) (K.a .Y 2) b hx.2.2 h1 (by omega)).pers (cdP K::lsP x A) (dv (cdi K .Y 0) (dv (cdi K .Y 2) (dv (lsi 3) dv0)))
 case F =>
  have h1:x.f.all isFm=true:=by
   have h0:(x.f.all isFm&&decide ((x.f.length:Int)≤16))=true:=hf;rw [Bool.and_eq_true] at h0;exact h0.1
  exact (lPutF x A (K.a .F 0) (K.a .F 2) b hx.1 h1 (by omega)).pers (cdP K::lsP x A) (dv (cdi K .F 0) (dv (cdi K .F 2) (dv (lsi 1) dv0)))
 case Sz =>
  exact (CallsK.ofF (fun _=>rfl) (fun ρ w hF=>flagPut .S x A (K.a .Sz 0) b (by omega) ρ w hF)).pers (cdP K::lsP x A) (dv (cdi K .Sz 0) dv0)
 case Rg =>
  exact (CallsK.ofF (fun _=>rfl) (fun ρ w hF=>flagPut .R x A (K.a .Rg 0) b (by omega) ρ w hF)).pers (cdP K::lsP x A) (dv (cdi K .Rg 0) dv0)
 case aN =>
  exact (CallsK.ofF (fun _=>rfl) (fun ρ w hF=>plPut .N x A (K.a .aN 1) b (by omega) ρ w hF)).pers (cdP K::lsP x A) (dv (cdi K .aN 1) dv0)
 case aM =>
  exact (CallsK.ofF (fun _=>rfl) (fun ρ w hF=>plPut .M x A (K.a .aM 1) b (by omega) ρ w hF)).pers (cdP K::lsP x A) (dv (cdi K .aM 1) dv0)
 case pN =>
  exact (CallsK.ofF (fun _=>rfl) (fun ρ w hF=>procPut .N x A (K.a .pN 1) b (by omega) (by omega) ρ w hF)).pers (cdP K::lsP x A) (dv (cdi K .pN 1) dv0)
 case pM =>
  exact (CallsK.ofF (fun _=>rfl) (fun ρ w hF=>procPut .M x A (K.a .pM 1) b (by omega) (by omega) ρ w hF)).pers (cdP K::lsP x A) (dv (cdi K .pM 1) dv0)
 case far =>
  exact (CallsK.ofF (fun _=>rfl) (fun ρ w hF=>farPut x A b (by omega) (by omega) ρ w hF)).pers (cdP K::lsP x A) dv0
theorem rdRel_ok {X:RIn} {r:RSt} (rl:List (Int×Int)) (v:Int) (h:okIn X r):okIn X (rdRel rl v r).2:=by
 unfold rdRel;split<;>exact h
set_option maxHeartbeats 2000000 in
theorem flGet (f:Fl) (K:Kc) (rl:List (Int×Int)) (X:RIn) (hX:X.n=rl.length) (hl:rl.length≤1000000000) (r:RSt) (x:In) (A:IA) (hx:x.okL) (h:okIn X r) :
  CallsK Tryz.prog f.ids.2.2.2.1 (.one (.ptr 0 0)::.one (.ptr 1 0)::absV (K.a f) f.caps.2.2.2.1) (gtF (cdP K::[rowP (relRow rl X.q X.c)]) X r x A) (fun y:RSt×In×IA=>y.1=(f.rd rl X r x).1∧y.2.1=(f.rd rl X r x).2) (fun _=>.tup []) (fun y=>gtF [] X y.1 y.2.1 y.2.2):=by
 cases f
 case D =>
  exact (CallsK.ofF (fun _=>rfl) (fun ρ w hF=>regGet .D X r x A (K.a .D 1) h ρ w hF)).pers (cdP K::[rowP (relRow rl X.q X.c)]) (dv (cdi K .D 1) dv0)
 case A =>
  exact (CallsK.ofF (fun _=>rfl) (fun ρ w hF=>regGet .A X r x A (K.a .A 1) h ρ w hF)).pers (cdP K::[rowP (relRow rl X.q X.c)]) (dv (cdi K .A 1) dv0)
 case B =>
  exact (CallsK.ofF (fun _=>rfl) (fun ρ w hF=>regGet .B X r x A (K.a .B 1) h ρ w hF)).pers (cdP K::[rowP (relRow rl X.q X.c)]) (dv (cdi K .B 1) dv0)
 case N =>
  exact (CallsK.ofF (fun _=>rfl) (fun ρ w hF=>numGet .N X r x A (K.a .N 0) h ρ w hF)).pers (cdP K::[rowP (relRow rl X.q X.c)]) (dv (cdi K .N 0) dv0)
 case M =>
  exact (CallsK.ofF (fun _=>rfl) (fun ρ w hF=>numGet .M X r x A (K.a .M 0) h ρ w hF)).pers (cdP K::[rowP (relRow rl X.q X.c)]) (dv (cdi K .M 0) dv0)
 case P =>
  exact (CallsK.ofF (fun _=>rfl) (fun ρ w hF=>numGet .P X r x A (K.a .P 0) h ρ w hF)).pers (cdP K::[rowP (relRow rl X.q X.c)]) (dv (cdi K .P 0) dv0)
 case T =>
  exact (CallsK.ofF (fun _=>rfl) (fun ρ w hF=>tyGet .T X r x A (K.a .T 0) h ρ w hF)).pers (cdP K::[rowP (relRow rl X.q X.c)]) (dv (cdi K .T 0) dv0)
 case U =>
  exact (CallsK.ofF (fun _=>rfl) (fun ρ w hF=>tyGet .U X r x A (K.a .U 0) h ρ w hF)).pers (cdP K::[rowP (relRow rl X.q X.c)]) (dv (cdi K .U 0) dv0)
 case W =>
  exact (CallsK.ofF (fun _=>rfl) (fun ρ w hF=>tyGet .W X r x A (K.a .W 0) h ρ w hF)).pers (cdP K::[rowP (relRow rl X.q X.c)]) (dv (cdi K .W 0) dv0)
 case V =>
  exact (CallsK.ofF (fun _=>rfl) (fun ρ w hF=>valGet X r x A h ρ w hF)).pers (cdP K::[rowP (relRow rl X.q X.c)]) dv0
 case L =>
  exact (lGetI X r h x A (K.a .L 0) (K.a .L 3) hx.2.1).pers (cdP K::[rowP (relRow rl X.q X.c)]) (dv (cdi K .L 0) (dv (cdi K .L 3) dv0))
 case Y =>
  exact (lGetT X r h x A (K.a .Y 0) (K.a .Y 3) hx.2.2).pers (cdP K::[rowP (relRow rl X.q X.c)]) (dv (cdi K .Y 0) (dv (cdi K .Y 3) dv0))
 case F =>
  exact (lGetF X r h x A (K.a .F 0) (K.a .F 3) hx.1).pers (cdP K::[rowP (relRow rl X.q X.c)]) (dv (cdi K .F 0) (dv (cdi K .F 3) dv0))
 case Sz =>
  exact (CallsK.ofF (fun _=>rfl) (fun ρ w hF=>flagGet .S X r x A (K.a .Sz 0) h ρ w hF)).pers (cdP K::[rowP (relRow rl X.q X.c)]) (dv (cdi K .Sz 0) dv0)
 case Rg =>
  exact (CallsK.ofF (fun _=>rfl) (fun ρ w hF=>flagGet .R X r x A (K.a .Rg 0) h ρ w hF)).pers (cdP K::[rowP (relRow rl X.q X.c)]) (dv (cdi K .Rg 0) dv0)
 case aN =>
  exact (CallsK.ofF (fun _=>rfl) (fun ρ w hF=>plGet .N X r x A (K.a .aN 1) h ρ w hF)).pers (cdP K::[rowP (relRow rl X.q X.c)]) (dv (cdi K .aN 1) dv0)
 case aM =>
  exact (CallsK.ofF (fun _=>rfl) (fun ρ w hF=>plGet .M X r x A (K.a .aM 1) h ρ w hF)).pers (cdP K::[rowP (relRow rl X.q X.c)]) (dv (cdi K .aM 1) dv0)
 case pN =>
  exact (CallsK.ofF (fun _=>rfl) (fun ρ w hF=>procGet .N false rl X hX hl r x A (K.a .pN 1) (K.a .pN 2) h ρ w hF)).pers (cdP K::[rowP (relRow rl X.q X.c)]) (dv (cdi K .pN 2) (dv (cdi K .pN 1) (dv (lsi 1) dv0)))
 case pM =>
  exact (CallsK.ofF (fun _=>rfl) (fun ρ w hF=>procGet .M true rl X hX hl r x A (K.a .pM 1) (K.a .pM 2) h ρ w hF)).pers (cdP K::[rowP (relRow rl X.q X.c)]) (dv (cdi K .pM 2) (dv (cdi K .pM 1) (dv (lsi 1) dv0)))
 case far =>
  exact (CallsK.ofF (fun _=>rfl) (fun ρ w hF=>farGet rl X hX hl r x A (rdRel_ok rl _ h) ρ w hF)).pers (cdP K::[rowP (relRow rl X.q X.c)]) (dv (lsi 1) dv0)
theorem cOfN (K:Kc) (hK:K.ok) (o:Nat) (ho:isOp o=true) (n:Int) (hn:n=(o:Int)):CallsK Tryz.prog 115 [.agg [.val (.map (some K.gF)),.val (.map (some K.gO))],.one (.int .i64 n)] (psOf [cdP K])
  (fun _:Option Addr×Nat=>True) (fun x=>.tup [.one (.row 0 x.1 (opFls o).length x.2),.one (.sb true)]) (fsF K (opFls o)):=by
 subst hn;exact cOf K hK o ho
theorem cOfNo (K:Kc) (hK:K.ok) (n:Int) (hn:¬ (1≤n∧n≤38)):CallsK Tryz.prog 115 [.agg [.val (.map (some K.gF)),.val (.map (some K.gO))],.one (.int .i64 n)] (psOf [cdP K])
  (fun _:Unit=>True) (fun _=>.tup [.one (.val (.slice none 0 0)),.one (.sb false)]) (fun _=>noF):=by
 obtain ⟨hK12,hKF,done,hd1,hd2,hd3,hd4⟩:=hK;refine CallsK.m true Tryz.func115 (fun ρ w=>?_);refine V.q ?_;refine V.lookP 108 3 118 (.int .i64) K.gO (.one (.int .i64 n)) true (.int .i64 n) none (.slice none 0 0) (.tup [.one (.val (.slice none 0 0)),.one (.bool false)]) kq kq kq kq
  (fun ρ a w hS=>?_) (fun _=>rfl) (fun _ w=>Tryz.zeroValue118 w) (fun _=>rfl) (by intro y hy; simp only [List.mem_cons,List.not_mem_nil,or_false] at hy; rcases hy with rfl | rfl<;>trivial) (fun g pol b y h=>by cases h) kq ?_
 ·refine ⟨K.esO,K.ckO,none,(cd_heap hS (List.mem_of_getElem? (i:=0) kq)).2,?_,rfl⟩;rw [hd3];refine esL_find_none (fun o ho=>?_);have:=(isOp_iff o).1 ((hd2 o).1 ho);omega
 refine V.q ?_;refine V.sb 5 false ?_;exact V.z
def emptyI (op:Int):In:=⟨op,-1,-1,-1,ty0,ty0,ty0,0,0,0,0,[],[],[],[],false,false⟩
def IA0:IA:=⟨none,0,none,0,none,0⟩
def mvL (x:In) (l:List Fl) (y:In):In:=l.foldl (fun y f=>f.mv x y) y
def opFind (n:Int):Option (List Fl):=if 1≤n∧n≤38 then some (opFls n.toNat) else none
def cFine (x:In):Bool:=match opFind x.op with
 | none=>false
 | some l=>l.all (fun f=>f.fineB x)&&eqIn x (mvL x l (emptyI x.op))
noncomputable def aEmpty:Con Tryz.prog:=Con.auto Tryz.func116 true [] [] kq kq
structure LsOk (x:In) (A:IA) (y:In) (B:IA):Prop where
 f:(y.f=[]∧B.qf=none∧B.cf=0)∨(y.f=x.f∧B.qf=A.qf∧B.cf=A.cf)
 l:(y.l=[]∧B.ql=none∧B.cl=0)∨(y.l=x.l∧B.ql=A.ql∧B.cl=A.cl)
 y:(y.y=[]∧B.qy=none∧B.cy=0)∨(y.y=x.y∧B.qy=A.qy∧B.cy=A.cy)
theorem LsOk.zero (x:In) (A:IA) (op:Int):LsOk x A (emptyI op) IA0:=⟨.inl ⟨rfl,rfl,rfl⟩,.inl ⟨rfl,rfl,rfl⟩,.inl ⟨rfl,rfl,rfl⟩⟩
theorem LsOk.mv {x:In} {A:IA} {y:In} {B:IA} (h:LsOk x A y B) (f:Fl):LsOk x A (f.mv x y) (f.mvA A B):=by
 obtain ⟨h1,h2,h3⟩:=h;cases f
 case L=>exact ⟨h1,.inr ⟨rfl,rfl,rfl⟩,h3⟩
 case Y=>exact ⟨h1,h2,.inr ⟨rfl,rfl,rfl⟩⟩
 case F=>exact ⟨.inr ⟨rfl,rfl,rfl⟩,h2,h3⟩
 all_goals exact ⟨h1,h2,h3⟩
theorem row_none {R:Row} (h1:R.own=false) (h2:R.n=0) (h3:R.obj=none):(∀ k,¬ R.uses k)∧∀ w,R.ok w:=by
 refine ⟨?_,fun w=>⟨fun i hi=>absurd hi (by omega),fun hp=>absurd hp (by omega),fun h _=>(by rw [h1] at h; cases h),fun o h=>(by rw [h3] at h; cases h)⟩⟩;rintro k ⟨a,_,_,h | h | h⟩
 ·rw [h1] at h; cases h
 ·omega
 ·rw [h3] at h; cases h
theorem rowL_as {α:Type} {f:α→List SV} {d:α} {l m:List α} {q q':Option Addr} {c c':Nat} {e:TypeId} {sz:Nat} (h:(m=[]∧q'=none∧c'=0)∨(m=l∧q'=q∧c'=c)) :
  (∀ k,(rowP (rowL f d m q' c' e sz false)).D k→∃ p∈[rowP (rowL f d l q c e sz false)],p.D k)∧(∀ w,(∀ p∈[rowP (rowL f d l q c e sz false)],p.φ w)→(rowP (rowL f d m q' c' e sz false)).φ w):=by
 rcases h with ⟨rfl,rfl,rfl⟩ | ⟨rfl,rfl,rfl⟩
 ·obtain ⟨h1,h2⟩:=row_none (R:=rowL f d [] none 0 e sz false) rfl rfl rfl;exact ⟨fun k hk=>absurd hk (h1 k),fun w _=>h2 w⟩
 ·exact ⟨fun k hk=>⟨_,List.mem_singleton.2 rfl,hk⟩,fun w hw=>hw _ (List.mem_singleton.2 rfl)⟩
structure FI where
 y:In
 B:IA
 i:Nat
def fnSt (K:Kc) (x:In) (A:IA) (o:Nat) (q:Option Addr) (c:Nat) (j:FI):St :=
 { n:=41,slots:=[(3,.v (.one (.ptr 0 0))),(7,.v (.one (.ptr 1 0))),(22,.v (.one (.row 0 q (opFls o).length c))),(23,.v (.one (.int .i64 (opFls o).length))),(24,.v (.one (.int .i64 j.i)))],gs:=[],
    heap:=[(0,⟨inV x A,30,true⟩),(1,⟨inV j.y j.B,30,true⟩)],next:=2,rows:=[(0,rowL (fun f=>f.cells (K.a f)) .D (opFls o) q c 165 6 true)],nr:=1,pers:=cdP K::lsP x A,wr:=true,fx:=0 }
noncomputable def T5f:List (Ent Tryz.prog):=[aEmpty.e]
set_option maxHeartbeats 1000000 in
theorem cFineK (K:Kc) (hK:K.ok) (x:In) (A:IA) (hx:x.okL):CallsK Tryz.prog 59 [.agg [.val (.map (some K.gF)),.val (.map (some K.gO))],.agg (inV x A)] (stP (cdP K::lsP x A)) (fun _:Unit=>True) (fun _=>.v (.one (.sb (cFine x)))) (fun _=>stP []):=by
 by_cases hop:1≤x.op∧x.op≤38
 case neg =>
  rw [show cFine x=false by unfold cFine opFind; rw [if_neg hop]];refine CallsK.m true Tryz.func59 (fun ρ w=>?_);refine V.t T5f [] trivial ?_;refine V.c [(0,false)] (cOfNo K hK x.op hop) (fun _ _=>?_);refine V.t T5f [] trivial ?_;refine V.kn 18 true true rfl ?_;refine V.t T5f [] trivial ?_;refine V.sb 4 false ?_;exact V.z
 obtain ⟨o,ho⟩:∃ o:Nat,x.op=(o:Int):=⟨x.op.toNat,by omega⟩;have hisop:isOp o=true:=(isOp_iff o).2 (by omega);have hfind:opFind x.op=some (opFls o):=by unfold opFind; rw [if_pos hop,ho]; rfl
 have hfl:(opFls o).length≤7:=by
  have:=all_ops (p:=fun o=>decide ((opFls o).length≤7)) kq hisop;simpa using this
 refine CallsK.m true Tryz.func59 (fun ρ w=>?_);refine V.t T5f [] trivial ?_;refine V.c [(0,false)] (cOfN K hK o hisop x.op ho) (fun qc _=>?_);obtain ⟨q,c⟩:=qc;refine V.t T5f [] trivial ?_;refine V.kn 18 false false rfl ?_;refine V.t T5f [] trivial ?_;refine V.soft 2 ?_;refine V.loopK [3,7,22,23,24] [true,true,true,true] (fun j:FI=>(opFls o).length - j.i) (fnSt K x A o q c) (fun j=>j.i≤(opFls o).length∧((opFls o).take j.i).all (fun f=>f.fineB x)=true∧j.y=mvL x ((opFls o).take j.i) (emptyI x.op)∧LsOk x A j.y j.B) ⟨emptyI x.op,IA0,0⟩ kq ⟨Nat.zero_le _,rfl,rfl,LsOk.zero x A x.op⟩ (fun j hj ih=>?_);obtain ⟨y,B,i⟩:=j;obtain ⟨hi,hall,hy,hls⟩:=hj;simp only at hi hall hy hls;refine V.iter ?_;refine V.t T5f [] trivial ?_;refine V.bn 25 (decide ((i:Int)<(opFls o).length)) (fun hb=>?_) (fun hb=>?_)
 ·have hlt:i<(opFls o).length:=by simpa using hb
  obtain ⟨f,hf⟩:∃ f,(opFls o).getD i .D=f:=⟨_,rfl⟩;refine V.t [] [(0:Int)≤i∧(i:Int)<(opFls o).length] ⟨by omega,by omega⟩ ?_;refine V.s 29 (.one (cloV ((opFls o).getD i .D).ids.2.1 (K.a ((opFls o).getD i .D)) ((opFls o).getD i .D).caps.2.1)) (.one (cloV f.ids.2.1 (K.a f) f.caps.2.1)) (fun _=>by rw [hf]) ?_;refine V.callL [(0,false),(1,false),(2,false),(3,false)] [] [] (flFine f K x A hx) (by clear hf; cases f<;>kernel_rfl) (by clear hf; cases f<;>kernel_rfl) (by clear hf; cases f<;>kernel_rfl) kq (fun _=>kq) (fun _ _=>?_);refine V.q ?_;refine V.bn 32 (!f.fineB x) (fun hff=>?_) (fun hff=>?_)
  ·rw [show cFine x=false by
    unfold cFine;rw [hfind];simp only;rw [all_at hlt .D (by rw [hf]; simpa using hff),Bool.false_and]]
   refine V.q ?_;refine V.sb 4 false ?_;exact V.z
  ·refine V.q ?_;refine V.s 34 (.one (cloV ((opFls o).getD i .D).ids.1 (K.a ((opFls o).getD i .D)) ((opFls o).getD i .D).caps.1)) (.one (cloV f.ids.1 (K.a f) f.caps.1)) (fun _=>by rw [hf]) ?_;refine V.callL [(0,false),(1,false),(2,false),(3,false)] [1] [] (flMove f K x y A B) (by clear hf; cases f<;>kernel_rfl) (by clear hf; cases f<;>kernel_rfl) (by clear hf; cases f<;>kernel_rfl) kq (fun _=>kq) (fun _ _=>?_);refine V.q ?_;refine V.up 24 i (by omega) ?_;refine V.againK [3,7,22,23,24] [true,true,true,true] (ih ⟨f.mv x y,f.mvA A B,i+1⟩ ⟨hlt,all_next hlt .D hall (by rw [hf]; simpa using hff),?_,hls.mv f⟩ (by simp only; omega)) kq kq;simp only;rw [List.take_add_one,List.getElem?_eq_getElem hlt];rw [List.getD,List.getElem?_eq_getElem hlt] at hf;simp only [Option.getD_some] at hf;rw [hf,hy];simp [mvL,List.foldl_append]
 ·have hle:(opFls o).length=i:=by
   have:¬ i<(opFls o).length:=by simpa using hb
   omega
  rw [← hle,List.take_length] at hall hy;obtain ⟨f1,f2⟩:=rowL_as (f:=Fm.cells) (d:=fm0) (e:=93) (sz:=4) hls.f;obtain ⟨l1,l2⟩:=rowL_as (f:=intv) (d:=0) (e:=3) (sz:=1) hls.l;obtain ⟨y1,y2⟩:=rowL_as (f:=Ty.cells) (d:=ty0) (e:=23) (sz:=5) hls.y;refine V.persAs [(1,false)] [rowP (rowF x A)] (rowP (rowF y B)) kq f1 f2 (rowP_stab _) ?_;refine V.persAs [(3,false)] [rowP (rowI x A)] (rowP (rowI y B)) kq l1 l2 (rowP_stab _) ?_;refine V.persAs [(5,false)] [rowP (rowT x A)] (rowP (rowT y B)) kq y1 y2 (rowP_stab _) ?_;refine V.t [⟨sSame x y A B (Nat.le_trans hx.1 (by decide)) (Nat.le_trans hx.2.1 (by decide)) (Nat.le_trans hx.2.2 (by decide)),[2,1,0,4,5,6]⟩] [([.agg (inV x A),.agg (inV y B)]:List CV)=[.agg (inV x A),.agg (inV y B)]] rfl ?_;rw [show cFine x=eqIn x y by
   unfold cFine;rw [hfind,hy];simp only;rw [hall,Bool.true_and]]
  exact V.z
end Go.Proofs
end
section
namespace Go.SX
open Go
theorem CallsK.mkF {α:Type} {P:Program} {f:FuncId} {fn:Func} {ys:List CV} {F:St} {p:α→Prop} {v:α→RV} {F':α→St} (wr:Bool) (hf:P.funcs[f]?=some fn)
  (hb:(fn.body.isSome&&Nat.ble ys.length fn.ntmps)=true) (hw:fixA F ys=some ys)
  (h:∀ ρ w,FSat ρ F w→V ⟨P,f,GivesK ρ F p v F' w,touch ρ F,w,ρ,none⟩ ⟨[.code (bodyOf fn)],stF fn.ntmps ys F wr⟩):CallsK P f ys F p v F':=by
 intro ρ w hF;rw [Bool.and_eq_true] at hb;exact Calls.of_F hF ys wr hf hb.1 hb.2 (fixA_wf hw) (h ρ w hF)
section
variable {C:Ctx}
theorem V.cellRow (b j r:Nat) (blk:Blk) (R:Row) {c:Cfg} (hb:look c.st.heap b=some blk) (hj:blk.cells[j]?=some (.val (.slice R.s R.n R.cap))) (hR:look c.st.rows r=some R)
  (h:V C ⟨c.todo,{ c.st with heap:=upd c.st.heap b { blk with cells:=blk.cells.set j (.row r R.s R.n R.cap) } }⟩):V C c:=by
 intro ρ a w hS;refine h ρ a w ⟨hS.n,hS.slots,hS.grds,?_,hS.inj,hS.lt,hS.defers,hS.chg,hS.rows,hS.rowsD,hS.pers,hS.fix⟩;intro b' blk' hb';simp only [look_upd] at hb';by_cases e':b=b'
 ·subst e';rw [if_pos rfl] at hb';cases hb';obtain ⟨k1,k2,k3,k4⟩:=hS.heap b blk hb;refine ⟨k1,?_,?_,k4⟩
  ·rw [k2];have:(blk.cells.set j (.row r R.s R.n R.cap)).map (SV.den ρ)=blk.cells.map (SV.den ρ):=by
    rw [List.map_set];apply List.ext_getElem?;intro i;rw [List.getElem?_set];split
    ·rename_i e1;subst e1;split
     ·rw [List.getElem?_map,hj]; rfl
     ·rename_i hlt;rw [List.getElem?_eq_none (by omega)]
    ·rfl
   rw [this]
  ·intro y hy;rcases List.mem_or_eq_of_mem_set hy with hy | rfl
   ·exact k3 y hy
   ·refine ⟨(hS.rows r R hR).1,fun R' hR'=>?_⟩;have hR2:look c.st.rows r=some R':=hR';rw [hR] at hR2;cases hR2;exact ⟨rfl,rfl,rfl⟩
 ·rw [if_neg e'] at hb';exact hS.heap b' blk' hb'
theorem V.slotRow (t r:Nat) (R:Row) {c:Cfg} (hl:look c.st.slots t=some (.v (.one (.val (.slice R.s R.n R.cap))))) (hg:hasNat c.st.gs t=false) (hR:look c.st.rows r=some R)
  (h:V C ⟨c.todo,{ c.st with slots:=upd c.st.slots t (.v (.one (.row r R.s R.n R.cap))) }⟩):V C c:=by
 intro ρ a w hS;refine h ρ a w ⟨hS.n,?_,?_,hS.heap,hS.inj,hS.lt,hS.defers,hS.chg,hS.rows,hS.rowsD,hS.pers,hS.fix⟩
 ·intro i v hv;simp only [look_upd] at hv;by_cases e:t=i
  ·subst e;rw [if_pos rfl] at hv;cases hv;refine ⟨(hS.slots t _ hl).1,(hS.rows r R hR).1,fun R' hR'=>?_⟩;have hR2:look c.st.rows r=some R':=hR';rw [hR] at hR2;cases hR2;exact ⟨rfl,rfl,rfl⟩
  ·rw [if_neg e] at hv;exact hS.slots i v hv
 ·intro i g pol b x hv;simp only [look_upd] at hv;by_cases e:t=i
  ·rw [if_pos e] at hv; cases hv
  ·rw [if_neg e] at hv;obtain ⟨h1,h2⟩:=hS.grds i g pol b x hv;refine ⟨h1,?_⟩;simp only [look_upd];have hne:t≠g:=fun e'=>by subst e'; rw [hg] at h1; cases h1
   rw [if_neg hne];exact h2
variable {T TR:List Nat} {L:Nat} {c0:Cfg} {d:DCfg}
def valX (c0:Cfg) (d:DCfg) (v:RV):Option DCfg :=
 match oneX c0 d with
 | some (i,o)=>match d.st.put o.dst v with
  | some s'=>some ⟨d.fuel - 1,d.listed.setIfInBounds i true,s'⟩
  | none=>none
 | none=>none
def valY (c0:Cfg) (d:DCfg) (v:RV):DCfg:=(valX c0 d v).getD d
theorem VX.bytes (r:Nat) (R:Row) (l:List UInt8) (hc:bytesOf C.P (atX c0 d)=some (r,R)) (hl:l.length=R.n) (hg:∀ i,i<R.n→R.get i=[.int .u8 ((l.getD i 0).toNat:Int)])
  (haf:(valX c0 d (.v (.one (.str l)))).isSome=true) (k:VX C T TR L c0 (valY c0 d (.v (.one (.str l))))):VX C T TR L c0 d:=by
 intro D hD a1 a2 a3 a4 a5 a6 hL hsel aT aTR hlt hrw ρ a w hS hρ hn0 hch hcl hsz;cases hx:oneX c0 d with
 | none=>unfold valX at haf; rw [hx] at haf; cases haf
 | some p =>
  obtain ⟨i,o⟩:=p;obtain ⟨hready,⟨n,hfu⟩,ho⟩:=oneX_ok hx;obtain ⟨d2,hd2⟩:=Option.isSome_iff_exists.1 haf;have hY:valY c0 d (.v (.one (.str l)))=d2:=by unfold valY; rw [hd2]; rfl
  rw [hY] at k;unfold valX at hd2;rw [hx] at hd2;simp only at hd2;split at hd2
  case h_2=>cases hd2
  rename_i s' hput;cases hd2;have hi:i∈Region.ready .any (dOps c0) d.listed:=by rw [hready]; simp
  have hW:=put_W hput;have hrw2:D.rows s':=⟨fun r R hR=>by rw [show s'.rows=d.st.rows from congrArg WF.rows hW]; exact hrw.1 r R hR,by rw [hW]; exact hrw.2⟩;have hk:=k D hD a1 a2 a3 a4 a5 a6 hL hsel aT aTR hlt hrw2 ρ _ w (hS.put hput trivial (fun g pol b x e=>by cases e)) hρ (by show D.n0≤s'.next; rw [put_next hput]; exact hn0) hch (hcl.set hi) (by simpa using hsz);simp only [hfu,Nat.add_sub_cancel] at hk;unfold bytesOf atX at hc;simp only [hready,ho] at hc;split at hc
  case h_2=>cases hc
  rename_i hgd;split at hc
  case h_2=>cases hc
  rename_i src dst x hop;split at hc
  case h_2=>cases hc
  rename_i e r' q n' cap h1 h2 hx';split at hc
  case h_2=>cases hc
  rename_i R' he hR;split at hc
  case h_2=>cases hc
  rename_i hsz';cases hc;obtain ⟨e1,hr,hwf⟩:=ev_sound hS.toP (GcOk.none d.st) hx';obtain ⟨rfl,rfl,rfl⟩:=hwf R hR;have hb:=row_bytes (P:=C.P) (hS.rows r R hR).2.1 ((beq_iff _ _).1 hsz') hl hg;have hex:(execOp a.eval o).run C.P w=.ok (.value ((RV.v (.one (.str l))).den ρ)) w:=by
   have:(convert src dst (.slice R.s R.n R.cap)).run C.P w=.ok (.string ⟨l.toArray⟩) w:=by
    rw [run_convert_bytes_string w src dst e _ _ _ h1 he h2]; exact hb
   unfold execOp;rw [hop];refine execVal2 ?_;rw [e1];exact this
  rw [hfu];refine wpAnyE_all hready (by simp) (fun j hj=>?_);have hj':j=i:=by simpa using hj
  subst hj';unfold wpOp;simp only [ho,grd_yes hS hgd,if_true];refine .inl ?_;unfold Oper.wp;rw [hex];exact ⟨fun _=>hch,hk⟩
end
end Go.SX
end
