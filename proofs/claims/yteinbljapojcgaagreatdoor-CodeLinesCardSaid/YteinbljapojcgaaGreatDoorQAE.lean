/- A symbolic run of the program that Lean checks, and what the functions of the program come to by it: part 5 of 12. -/
import Derived.Shelf.Lays
import Derived.Shelf.LaysM
import Derived.Shelf.LaysC
import Derived.Ground.Names2Prog
import Derived.Shelf.Slices.SearchI
import Derived.Shelf.Slices.Empties
import Derived.Shelf.Slices.Equal
import Derived.Shelf.Strconv.ErrVarAll
import Derived.Shelf.Strconv.AtoiAll
import Derived.Shelf.Strconv.Itoa3
import Derived.Shelf.Strings.Cut
import Derived.Shelf.Small.Wraps
import Derived.Shelf.Strings.Fields
import Derived.Shelf.Strings.Prefix
import Derived.Shelf.Strings.OnBuilder
import Derived.Shelf.Strings.Split
import Derived.Test.YteinbljapojcgaaGreatDoorProg
import Derived.Lib.Builder
import Derived.Lib.UnsafeStr
import Derived.Lib.Walk
import Derived.Shelf.RegionOpenPlain
import Derived.WalkKit
import Derived.Laws.Externs
import Derived.RegionTactic
import Derived.Test.YteinbljapojcgaaGreatDoorQAD
set_option linter.unusedVariables false
section
namespace Go.SX
open Go
def dOps (c:Cfg):Array Oper:=match drawOf c with
 | some (ops,_)=>ops
 | none=>#[]
def dK (c:Cfg):List Item:=match drawOf c with
 | some (_,k)=>k
 | none=>[]
def VX (C:Ctx) (T TR:List Nat) (L:Nat) (c0:Cfg) (d:DCfg):Prop :=
 ∀ D:Held,D.ok→D.h0=heldOf T c0.st.heap→D.n0=c0.st.next→D.r0=heldOf TR c0.st.rows→D.L=L→D.nr0=c0.st.nr→D.w0=c0.st.rows→(LastOp (dOps c0) L∨(dOps c0).size≤L)→Region.noSelect (dOps c0)=true →
  (∀ b∈T,b<c0.st.next→D.TS (D.ρ0 b))→(∀ r∈TR,∀ R,look c0.st.rows r=some R→∀ k,R.uses k→D.TS k)→(∀ q Q,look c0.st.rows q=some Q→q<c0.st.nr)→D.rows d.st→VD C D (dOps c0) (dK c0) d
def headX (c:Cfg):DCfg:=⟨(dOps c).size,Array.replicate (dOps c).size false,c.st⟩
def ownAt (rows:List (Nat×Row)):List Nat→Bool
 | []=>true
 | r::l=>match look rows r with
  | some R=>match R.own with
   | true=>ownAt rows l
   | false=>false
  | none=>ownAt rows l
theorem ownAt_ok {rows:List (Nat×Row)}:∀ {l:List Nat},ownAt rows l=true→∀ r∈l,∀ R,look rows r=some R→R.own=true
 | [],_,r,hr,_,_=>by simp at hr
 | q::l,h,r,hr,R,hR=>by
  simp only [ownAt] at h;split at h
  ·rename_i Q hQ;split at h
   ·rename_i ho;rcases List.mem_cons.1 hr with rfl | hr
    ·rw [hQ] at hR; cases hR; exact ho
    ·exact ownAt_ok h r hr R hR
   ·cases h
  ·rename_i hQ;rcases List.mem_cons.1 hr with rfl | hr
   ·rw [hQ] at hR; cases hR
   ·exact ownAt_ok h r hr R hR
def isDraw (P:Program) (L:Nat) (c:Cfg):Bool :=
 match drawOf c with
 | some (ops,_)=>P.follows .mixedOrders&&(Region.noSelect ops&&(lastB ops L||Nat.ble ops.size L))
 | none=>false
def loopX (P:Program) (T:List (Ent P)) (ops:Array Oper) (h0:List (Nat×Blk)) (r0:List (Nat×Row)):Nat→DCfg→DCfg×List Prop
 | 0,d=>(d,[])
 | m+1,d=>match Region.ready .any ops d.listed,d.fuel with
  | [i],n+1=>match callD ops i d.st,ops[i]? with
   | some (none,f,xs),some o=>match callT T d.st.next f xs with
    | some (v,ob)=>match d.st.put o.dst v with
     | some s'=>match runDM P ops h0 r0 ops.size ⟨n,d.listed.setIfInBounds i true,s'⟩ with
      | (d',ob')=>match loopX P T ops h0 r0 m d' with
       | (d2,ob2)=>(d2,ob++(ob'++ob2))
     | none=>(d,[])
    | none=>(d,[])
   | _,_=>(d,[])
  | _,_=>(d,[])
def runX (P:Program) (E:List (Ent P)) (T TR:List Nat) (c0:Cfg) (d:DCfg):DCfg×List Prop :=
 match runDM P (dOps c0) (heldOf T c0.st.heap) (heldOf TR c0.st.rows) (dOps c0).size d with
 | (d1,ob1)=>match loopX P E (dOps c0) (heldOf T c0.st.heap) (heldOf TR c0.st.rows) 50 d1 with
  | (d2,ob2)=>(d2,ob1++ob2)
def oneX (c0:Cfg) (d:DCfg):Option (Nat×Oper) :=
 match Region.ready .any (dOps c0) d.listed,d.fuel with
 | [i],_+1=>match (dOps c0)[i]? with
  | some o=>some (i,o)
  | none=>none
 | _,_=>none
theorem oneX_ok {c0:Cfg} {d:DCfg} {i:Nat} {o:Oper} (h:oneX c0 d=some (i,o)):Region.ready .any (dOps c0) d.listed=[i]∧(∃ n,d.fuel=n+1)∧(dOps c0)[i]?=some o:=by
 unfold oneX at h;split at h
 ·rename_i hr hf;split at h
  ·rename_i ho;simp only [Option.some.injEq,Prod.mk.injEq] at h;obtain ⟨rfl,rfl⟩:=h;exact ⟨hr,⟨_,hf⟩,ho⟩
  ·cases h
 ·cases h
def appX (P:Program) (c0:Cfg) (d:DCfg):Option App :=
 match oneX c0 d with
 | some (_,o)=>match grdOf d.st (dOps c0) o.guard,callAt o with
  | .yes,some cl=>appS P d.st cl
  | _,_=>none
 | none=>none
def pushD (c0:Cfg) (d:DCfg) (r:Nat) (R:Row):Option DCfg :=
 match oneX c0 d with
 | some (i,o)=>match (d.st.rowTo r R).put o.dst (.v (.one (.row d.st.nr R.s R.n R.cap))) with
  | some s'=>some ⟨d.fuel - 1,d.listed.setIfInBounds i true,s'⟩
  | none=>none
 | none=>none
def pushX (c0:Cfg) (d:DCfg) (r:Nat) (R:Row):DCfg:=(pushD c0 d r R).getD d
def atX (c0:Cfg) (d:DCfg):Cfg:=⟨[.inRegion (dOps c0) (Region.ready .any (dOps c0) d.listed)],d.st⟩
def rwIn (n:Nat) (T hs:List Nat):List (Nat×Blk)→Bool
 | []=>true
 | (b,blk)::l=>match blk.rw with
  | true=>match hasNat T (hs.getD b 0),Nat.blt (hs.getD b 0) n with
   | true,true=>rwIn n T hs l
   | _,_=>false
  | false=>rwIn n T hs l
theorem rwIn_ok {n:Nat} {T hs:List Nat}:∀ {l:List (Nat×Blk)} {b:Nat} {blk:Blk},rwIn n T hs l=true→look l b=some blk→blk.rw=true→hs.getD b 0∈T∧hs.getD b 0<n
 | (q,x)::l,b,blk,h,hl,hw=>by
  simp only [rwIn] at h;simp only [look] at hl;split at hl
  ·rename_i e;have:=(beq_iff _ _).1 e;subst this;cases hl;rw [hw] at h;simp only at h;split at h
   ·rename_i h1 h2; exact ⟨(hasNat_mem _ _).1 h1,blt_lt h2⟩
   ·cases h
  ·split at h
   ·split at h
    ·exact rwIn_ok h hl hw
    ·cases h
   ·exact rwIn_ok h hl hw
def callX (n0:Nat) (S:Nat→Prop) (c0:Cfg) (d:DCfg) (F':St) (v:RV):DCfg :=
 match oneX c0 d with
 | some (i,_)=>⟨d.fuel - 1,d.listed.setIfInBounds i true,(behindK n0 S (atX c0 d) F' v).st⟩
 | none=>d
theorem look_eraseK_ne {α:Type} {r q:Nat} (h:q≠r):∀ (l:List (Nat×α)),look (eraseK r l) q=look l q
 | []=>rfl
 | (j,u)::l=>by
  simp only [eraseK];cases hb:Nat.beq j r with
  | true =>
   simp only [look];have hj:=(beq_iff _ _).1 hb;have:Nat.beq j q=false:=by
    cases e:Nat.beq j q with
    | true=>have:=(beq_iff _ _).1 e; omega
    | false=>rfl
   rw [this];exact look_eraseK_ne h l
  | false =>
   simp only [look];split
   ·rfl
   ·exact look_eraseK_ne h l
theorem eraseAll_nil {α:Type}:∀ (l:List (Nat×α)),eraseAll [] l=l
 | []=>rfl
 | (k,v)::l=>by simp only [eraseAll,hasNat,eraseAll_nil l]
theorem look_bringRows_old {nr:Nat} {rows:List (Nat×Row)} {q:Nat} (hq:q<nr):∀ (l:List (Nat×Row)),look (bringRows nr rows l) q=look rows q
 | []=>rfl
 | (r,R)::l=>by
  simp only [bringRows,look];have:Nat.beq (nr+r) q=false:=by
   cases e:Nat.beq (nr+r) q with
   | true=>have:=(beq_iff _ _).1 e; omega
   | false=>rfl
  rw [this];exact look_bringRows_old hq l
section
variable {C:Ctx} {T TR:List Nat} {L:Nat} {c0:Cfg} {d:DCfg}
theorem V.drawX (T TR:List Nat) (L:Nat) {c:Cfg} (hc:(isDraw C.P L c&&ownAt c.st.rows TR)=true) (h:VX C T TR L c (headX c)):V C c:=by
 rw [Bool.and_eq_true] at hc;obtain ⟨hc,hown⟩:=hc;intro ρ a w hS;have hlt:∀ q Q,look c.st.rows q=some Q→q<c.st.nr:=fun q Q h=>(hS.rows q Q h).1;revert ρ a w;unfold isDraw at hc;split at hc
 case h_2=>cases hc
 rename_i ops k hd;obtain ⟨h1,h2,h3⟩:=and3 hc;have e1:dOps c=ops:=by unfold dOps; rw [hd]
 have e2:dK c=k:=by unfold dK; rw [hd]
 have hL:LastOp ops L∨ops.size≤L:=by
  rw [Bool.or_eq_true] at h3;rcases h3 with h | h
  ·exact .inl (lastB_ok h)
  ·exact .inr (Nat.le_of_ble_eq_true h)
 refine V.draw T TR L ops k hd h1 (fun D hD a1 a2 a3 a4 a5 hrw aT aTR=>?_) (ownAt_ok hown);have:=h D hD a1 a2 a3 a4 a5.1 a5.2 (by rw [e1]; exact hL) (by rw [e1]; exact h2) aT aTR hlt hrw;unfold headX at this;rw [e1,e2] at this;exact this
theorem loopX_sound {E:List (Ent C.P)} {D:Held} {ops:Array Oper} {k:List Item} (hD:D.ok) (hL:LastOp ops D.L∨ops.size≤D.L) (hsel:Region.noSelect ops=true) :
  ∀ (m:Nat) (d:DCfg),(∀ p∈(loopX C.P E ops D.h0 D.r0 m d).2,p)→(∀ e∈E,∀ q∈e.sp.need,q∈d.st.pers)→D.rows d.st →
   (D.rows (loopX C.P E ops D.h0 D.r0 m d).1.st→VD C D ops k (loopX C.P E ops D.h0 D.r0 m d).1)→VD C D ops k d
 | 0,d,_,_,hrw,h=>h hrw
 | m+1,d,hob,hn,hrw,h=>by
  unfold loopX at hob h;split at hob
  case h_2=>exact (by
   rename_i hno;split at h
   ·rename_i i n hr hf; exact absurd hf (hno i n hr)
   ·exact h hrw)
  rename_i i n hr hf;rw [hr,hf] at h;simp only at h;split at hob
  case h_2=>exact (by
   rename_i hno;split at h
   ·rename_i f xs o hc ho; exact absurd ho (hno f xs o hc)
   ·exact h hrw)
  rename_i f xs o hc ho;rw [hc,ho] at h;simp only at h;split at hob
  case h_2=>exact (by
   rename_i hct; rw [hct] at h; exact h hrw)
  rename_i v ob1 hct;rw [hct] at h;simp only at h;split at hob
  case h_2=>exact (by
   rename_i hput; rw [hput] at h; exact h hrw)
  rename_i s' hput;rw [hput] at h;simp only at h hob;have hp1:=runDM_pers (P:=C.P) (ops:=ops) (h0:=D.h0) (r0:=D.r0) ops.size ⟨n,d.listed.setIfInBounds i true,s'⟩;obtain ⟨b1,b2,b3⟩:=callT_ok (C:=C) hct (fun p hp=>hob p (List.mem_append_left _ hp)) hn;obtain ⟨w1,w2⟩:=wfR_ok (W:=d.st.W) b2 rfl;refine VD.call i f xs v hr hf ho hc (enters b1) hput w1 w2 b3 ?_;have hW:=put_W hput;have hrw2:D.rows s':=⟨fun r R hR=>by rw [show s'.rows=d.st.rows from congrArg WF.rows hW]; exact hrw.1 r R hR,by rw [hW]; exact hrw.2⟩;refine VD.runM hD hL hsel ops.size _ (fun p hp=>hob p (List.mem_append_right _ (List.mem_append_left _ hp))) hrw2 (fun hrw3=>?_);refine loopX_sound hD hL hsel m _ (fun p hp=>hob p (List.mem_append_right _ (List.mem_append_right _ hp))) (fun e he q hq=>?_) hrw3 h;rw [hp1,put_pers hput];exact hn e he q hq
theorem VX.run (E:List (Ent C.P)) (ob:List Prop) (hr:(SX.runX C.P E T TR c0 d).2=ob) (hn:needT E d.st.pers=wantT E) (ho:allP ob) (h:VX C T TR L c0 (SX.runX C.P E T TR c0 d).1):VX C T TR L c0 d:=by
 intro D hD a1 a2 a3 a4 a5 a6 hL hsel aT aTR hlt hrw;have hob:=hr▸allP_mem ho;unfold SX.runX at hob h;rw [← a1,← a3] at hob h;have hp1:=runDM_pers (P:=C.P) (ops:=dOps c0) (h0:=D.h0) (r0:=D.r0) (dOps c0).size d;refine VD.runM hD (by rw [a4]; exact hL) hsel (dOps c0).size d (fun p hp=>hob p (List.mem_append_left _ hp)) hrw (fun hrw1=>?_);refine loopX_sound hD (by rw [a4]; exact hL) hsel 50 _ (fun p hp=>hob p (List.mem_append_right _ hp)) (fun e he q hq=>?_) hrw1 (fun hrw2=>?_)
 ·rw [hp1]; exact needT_ok hn e he q hq
 ·exact h D hD a1 a2 a3 a4 a5 a6 hL hsel aT aTR hlt hrw2
theorem VX.fin (s1:St) (hs:endD C.P (dOps c0) L d=some s1) (h:V C ⟨dK c0,s1⟩):VX C T TR L c0 d :=
 fun _ _ _ _ _ a4 _ _ _ _ _ _ _ _=>VD.fin (by rw [a4]; exact hs) h
theorem VX.stop (hs:(endD C.P (dOps c0) L d).isSome=true) (h:V C ⟨dK c0,(endD C.P (dOps c0) L d).getD d.st⟩):VX C T TR L c0 d:=by
 obtain ⟨s1,h1⟩:=Option.isSome_iff_exists.1 hs;rw [h1] at h;exact VX.fin s1 h1 h
theorem VX.push {α:Type} (f:α→List SV) (dl:α) (l:List α) (x:α) (r:Nat) (q:Option Addr) (cap:Nat) (e:TypeId) (sz:Nat) (xs:List SV) (bytes:Nat)
  (hA:(appX C.P c0 d).map appView=some (r,rowL f dl l q cap e sz true,1,xs,bytes)) (hr:hasNat TR r=true) (hlk:look c0.st.rows r=some (rowL f dl l q cap e sz true)) (hb:(l.length+1)*bytes≤140737488355328) (hx:f x=xs)
  (haf:∀ q cap,(pushD c0 d r (rowL f dl (l++[x]) q cap e sz true)).isSome=true)
  (k:∀ q cap,VX C T TR L c0 (pushX c0 d r (rowL f dl (l++[x]) q cap e sz true))):VX C T TR L c0 d:=by
 intro D hD a1 a2 a3 a4 a5 a6 hL hsel aT aTR hlt hrw;cases hA':appX C.P c0 d with
 | none=>rw [hA'] at hA; cases hA
 | some A =>
  rw [hA'] at hA;simp only [Option.map_some,appView,Option.some.injEq,Prod.mk.injEq] at hA;obtain ⟨e1,e2,e3,e4,e5⟩:=hA;have hlen:(l++[x]).length=l.length+1:=by simp
  have hrow:∀ q cap,A.R.next q A.m cap (fun i=>f ((l++[x]).getD i dl))=rowL f dl (l++[x]) q cap e sz true:=by
   intro q cap;rw [e2,e3];simp only [Row.next,rowL,hlen]
  have hn:A.R.n+A.m=(l++[x]).length:=by rw [e2,e3,hlen]; rfl
  unfold appX at hA';split at hA'
  case h_2=>cases hA'
  rename_i i o hone;split at hA'
  case h_2=>cases hA'
  rename_i cl hg hcl;obtain ⟨hready,⟨n,hf⟩,ho⟩:=oneX_ok hone;have tail:∀ q cap,∃ s',(d.st.rowTo r (rowL f dl (l++[x]) q cap e sz true)).put o.dst (.v (.one (.row d.st.nr q (l++[x]).length cap)))=some s' ∧
    pushX c0 d r (rowL f dl (l++[x]) q cap e sz true)=⟨n,d.listed.setIfInBounds i true,s'⟩:=by
   intro q cap;have h1:=haf q cap;unfold pushX;unfold pushD at h1 ⊢;rw [hone] at h1 ⊢;simp only at h1 ⊢;split at h1
   ·rename_i s' hs';refine ⟨s',hs',?_⟩;simp only [Option.getD_some,hf,Nat.add_sub_cancel]
   ·cases h1
  refine VD.append i A (fun i=>f ((l++[x]).getD i dl)) hready hf ho hg hcl hA' (by rw [hn,e5,hlen]; exact hb) ?_ ?_ (fun k hk=>aTR r ((hasNat_mem _ _).1 hr) _ hlk k (by rw [e2] at hk; exact hk)) (fun q cap=>?_) (fun q cap s' hs'=>?_)
  ·intro i hi;rw [e2] at hi ⊢;have hi':i<l.length:=hi;show f ((l++[x]).getD i dl)=f (l.getD i dl);rw [getD_left _ _ _ _ hi']
  ·intro i hi;rw [e3] at hi;have:i=0:=by omega
   subst this;rw [e4,← hx,e2];show f ((l++[x]).getD (l.length+0) dl)=f x;simp
  ·obtain ⟨s',hs',_⟩:=tail q cap;rw [e1,hrow,hn,hs']; rfl
  ·obtain ⟨s2,hs2,hpx⟩:=tail q cap;rw [e1,hrow,hn,hs2] at hs';cases hs';have hW:=put_W hs2;have hrw2:D.rows (d.st.rowTo r (rowL f dl (l++[x]) q cap e sz true)):=by
    refine ⟨fun q' Q hQ=>?_,hrw.2.trans' (rowTo_le _ r _)⟩;have h1:=hrw.1 q' Q hQ;rw [a3] at hQ;obtain ⟨hne,hw⟩:=look_heldOf' hQ;have hlt':q'<d.st.nr:=Nat.lt_of_lt_of_le (hlt q' Q hw) (by rw [← a5]; exact hrw.2.nr);show look ((d.st.nr,_)::eraseK r d.st.rows) q'=some Q;simp only [look];have hb':Nat.beq d.st.nr q'=false:=by
     cases hb:Nat.beq d.st.nr q' with
     | true=>have:=(beq_iff _ _).1 hb; omega
     | false=>rfl
    rw [hb'];simp only;rw [look_eraseK_ne (fun e=>hne (by rw [e]; exact (hasNat_mem _ _).1 hr))];exact h1
   have hrw3:D.rows s':=⟨fun r R hR=>by rw [show s'.rows=_ from congrArg WF.rows hW]; exact hrw2.1 r R hR,by rw [hW]; exact hrw2.2⟩;have:=k q cap;rw [hpx] at this;exact this D hD a1 a2 a3 a4 a5 a6 hL hsel aT aTR hlt hrw3
theorem VX.callK {α:Type} {f:FuncId} {ys:List CV} {F:St} {p:α→Prop} {v:α→RV} {F':α→St} (pi:List (Nat×Bool)) (hk:CallsK C.P f ys F p v F')
  (hb:(entersB C.P f&&((oneX c0 d).isSome&&(F.rows.isEmpty&&rwIn c0.st.next T (hsrs (atX c0 d)).1 F.heap)))=true) (hc:frameOf (atX c0 d)=some (f,ys,fragOf F)) (hpi:getP pi d.st.pers=some (askP C.w0.heap.size C.S pi F.pers))
  (hu:∀ x,okK (atX c0 d) (F' x) (v x)=true) (k:∀ x,p x→VX C T TR L c0 (callX C.w0.heap.size C.S c0 d (F' x) (v x))):VX C T TR L c0 d:=by
 intro D hD a1 a2 a3 a4 a5 a6 hL hsel aT aTR hlt hrw ρ a w hS hρ hn0 hch hcl hsz;simp only [Bool.and_eq_true] at hb;obtain ⟨hent,hone,hFr,hrwT⟩:=hb;obtain ⟨⟨i,o⟩,hone⟩:=Option.isSome_iff_exists.1 hone;obtain ⟨hready,⟨n,hf⟩,ho⟩:=oneX_ok hone;have hFr:F.rows=[]:=List.isEmpty_iff.1 hFr;have hat:atX c0 d=⟨[.inRegion (dOps c0) [i]],d.st⟩:=by unfold atX; rw [hready]
 rw [hat] at hc hrwT hu;unfold frameOf at hc;split at hc
 case h_2=>cases hc
 rename_i f1 xs hcall;split at hc;rename_i hs rs hcan;split at hc
 case h_2=>cases hc
 rename_i ys1 s' hren hpk;simp only [Option.some.injEq,Prod.mk.injEq] at hc;obtain ⟨rfl,rfl,hfr⟩:=hc;have hh:hsrs ⟨[.inRegion (dOps c0) [i]],d.st⟩=(hs,rs):=by unfold hsrs; rw [hcall]; exact hcan
 rw [hh] at hrwT;have hpk':pickSt [] hs rs [] d.st=some s':=hpk;have hFS:=hS.fragAt hpk' hfr pi hpi;have hrs:rs=[]:=by
  have h1:s'.rows=F.rows:=by simp only [fragOf,Prod.mk.injEq] at hfr; exact hfr.2.2.1
  have h2:s'.nr=rs.length:=by
   unfold pickSt at hpk';split at hpk'
   case h_2=>cases hpk'
   rw [← Option.some.inj hpk']
  cases rs with
  | nil=>rfl
  | cons r0 rs' =>
   exfalso;unfold pickSt at hpk';split at hpk'
   case h_2=>cases hpk'
   rename_i _ _ rows _ _ _ _ hrows;have h3:=Option.some.inj hpk';rw [← h3,hFr] at h1;have h4:rows=[]:=h1;simp only [pickRows] at hrows;split at hrows
   ·split at hrows
    ·rename_i R _ q hq;simp only [Option.some.injEq] at hrows;rw [h4] at hrows; cases hrows
    ·cases hrows
   ·cases hrows
 subst hrs;have hys:xs.map (CV.den ρ)=ys1.map (CV.den (fun i=>ρ (hs.getD i 0))):=by
  have hpk2:=hpk';unfold pickSt at hpk2;split at hpk2
  case h_2=>cases hpk2
  rename_i sl hpp rows _ _ _ _ hrows;have hRR:RowsRen [] d.st.W ⟨hs.length,([]:List Nat).length,rows⟩:=by
   intro r' r R hr hl;obtain ⟨r2,_,h2,h3⟩:=pickRows_ok hrows r' R hl;simp only [Nat.sub_zero] at h2;rw [hr] at h2;cases h2;exact h3
  exact ((renC_ok (ρ:=ρ) (W:=d.st.W) (W':=⟨hs.length,([]:List Nat).length,rows⟩) rfl rfl hRR hren).1).symm
 have hi:i∈Region.ready .any (dOps c0) d.listed:=by rw [hready]; simp
 rw [hf];refine wpAnyE_all hready (by simp) (fun j hj=>?_);have:j=i:=by simpa using hj
 subst this;unfold callOf at hcall;simp only [ho] at hcall;split at hcall
 case h_2=>cases hcall
 rename_i cl hop;split at hcall
 case h_3=>cases hcall
 case h_2=>split at hcall<;>cases hcall
 rename_i hg;split at hcall
 case h_2=>cases hcall
 rename_i f' caps zs h1 h2;simp only [Option.some.injEq,Prod.mk.injEq,true_and] at hcall;obtain ⟨rfl,rfl⟩:=hcall;have hrun:=calleeS_sound (t:=o.type) hS.toP (GcOk.none d.st) h1 h2 (enters hent);unfold wpOp;simp only [ho,grd_yes hS hg,if_true];refine .inl ?_;unfold Oper.wp execOp;rw [hop];simp only;rw [hrun,hys];refine (hk _ w hFS).mono ?_;rintro e w2 ⟨x,ρ',hp,rfl,k1,k2,k3,k4,k5,k6,k7,k8,k9,k10⟩;have hux:=hu x;unfold okK at hux;rw [hh] at hux;obtain ⟨u1,u2,u3⟩:=and3 hux;have hfr':(pickSt [] hs [] [] d.st).map fragOf=some (fragOf F):=by rw [hpk']; exact congrArg some hfr
 obtain ⟨ρ1,b1,b2,b3,b4⟩:=hS.bringK1 (F':=F' x) hfr' u1 k1 k2 k3 k4 k5 k7 k8 k9 k10;have hc2:Chg D.TS D.ws w2:=hch.trans k7 (fun m hm=>.inr (by
  rcases hm with ⟨b,blk,q1,q2,q3⟩ | ⟨r,R,q1,_⟩
  ·obtain ⟨t1,t2⟩:=rwIn_ok hrwT q1 q2;have:=aT _ t1 t2;rw [← hρ _ (by rw [a2]; exact t2)] at this;rw [← q3]; exact this
  ·rw [hFr] at q1; cases q1))
 have hst:∃ s2,(d.st.bringK hs [] C.w0.heap.size C.S (F' x)).put o.dst ((v x).bring (newHs hs d.st.next (F' x).next) d.st.nr)=some s2:=by
  have h3:=bringK_put d.st hs [] C.w0.heap.size 0 C.S (fun _=>False) (F' x) o.dst ((v x).bring (newHs hs d.st.next (F' x).next) d.st.nr);unfold afterOp at u3;simp only [ho] at u3;cases hq:(d.st.bringK hs [] C.w0.heap.size C.S (F' x)).put o.dst ((v x).bring (newHs hs d.st.next (F' x).next) d.st.nr) with
  | some s2=>exact ⟨s2,rfl⟩
  | none =>
   rw [hq] at h3;cases hq2:(d.st.bringK hs [] 0 (fun _=>False) (F' x)).put o.dst ((v x).bring (newHs hs d.st.next (F' x).next) d.st.nr) with
   | none=>rw [hq2] at u3; cases u3
   | some s2=>rw [hq2] at h3; cases h3
 obtain ⟨s2,hs2⟩:=hst;have hcx:callX C.w0.heap.size C.S c0 d (F' x) (v x)=⟨n,d.listed.setIfInBounds j true,s2⟩:=by
  unfold callX;rw [hone];simp only [hf,Nat.add_sub_cancel];unfold behindK;rw [hat,hh];unfold afterD afterOp;simp only [ho,hs2,Option.getD_some]
 have hden:(v x).den ρ'=((v x).bring (newHs hs d.st.next (F' x).next) d.st.nr).den ρ1:=by
  rw [RV.bring_den,RV.den_congr (W:=(F' x).W) (ρ:=ρ') b2 _ k6]
 have hng:∀ g pol b y,(v x).bring (newHs hs d.st.next (F' x).next) d.st.nr≠.grd g pol b y:=by
  intro g pol b y e;cases hvx:v x with
  | grd=>rw [hvx] at u2; cases u2
  | v=>rw [hvx] at e; cases e
  | tup=>rw [hvx] at e; cases e
 have hle:d.st.W.le (d.st.bringK hs [] C.w0.heap.size C.S (F' x)).W:=by
  refine ⟨Nat.le_add_right _ _,Nat.le_add_right _ _,fun q hq R hR=>?_⟩;have h5:look (bringRows d.st.nr (eraseAll [] d.st.rows) (F' x).rows) q=some R:=hR;have hq':q<d.st.nr:=hq;rw [look_bringRows_old hq',eraseAll_nil] at h5;exact h5
 have hW:=put_W hs2;have hrw2:D.rows s2:=by
  refine ⟨fun q R hR=>?_,by rw [hW]; exact hrw.2.trans' hle⟩;rw [show s2.rows=_ from congrArg WF.rows hW];have h5:=hrw.1 q R hR;rw [a3] at hR;have h6:=hlt q R (look_heldOf' hR).2;have h7:q<d.st.nr:=Nat.lt_of_lt_of_le h6 (by rw [← a5]; exact hrw.2.nr);show look (bringRows d.st.nr (eraseAll [] d.st.rows) (F' x).rows) q=some R;rw [look_bringRows_old h7,eraseAll_nil];exact h5
 have hkx:=k x hp;rw [hcx] at hkx;rw [hden];refine ⟨fun _=>hc2,hkx D hD a1 a2 a3 a4 a5 a6 hL hsel aT aTR hlt hrw2 ρ1 _ w2 (b1.put hs2 (b3 _ k6) (fun g pol b y e=>absurd e (hng g pol b y))) (fun b hb=>(b4 b (by omega)).trans (hρ b hb)) ?_ hc2 (hcl.set hi) (by simpa using hsz)⟩;show D.n0≤s2.next;rw [put_next hs2];exact Nat.le_trans hn0 (Nat.le_add_right _ _)
theorem V.blkInL (t g:Nat) (cells:List SV) (e:TypeId) (rest:List Pers) {c:Cfg} (hl:look c.st.slots t=some (.v (.one (.val (.pointer (some ⟨g,0,none⟩)))))) (hg:hasNat c.st.gs t=false) (hp:c.st.pers=blkP g cells e::rest)
  (hpl:cells.all plainB=true) (hrows:ownAll c.st.rows=true) (hdis:∀ w,(blkP g cells e).φ w→(∀ p∈rest,p.φ w)→∀ p∈rest,¬ p.D g)
  (h:V C ⟨c.todo,{ c.st with slots:=upd c.st.slots t (.v (.one (.ptr c.st.next 0))),heap:=(c.st.next,⟨cells,e,false⟩)::c.st.heap,next:=c.st.next+1,pers:=rest }⟩):V C c:=by
 intro ρ a w hS;obtain ⟨p1,_,p3⟩:=hS.pers (blkP g cells e) (by rw [hp]; simp);obtain ⟨q1,q2,q3⟩:=p3 g rfl;have hdg:∀ p∈rest,¬ p.D g:=hdis w p1 (fun p hp'=>(hS.pers p (by rw [hp]; exact List.mem_cons_of_mem _ hp')).1);have hpl':∀ x∈cells,x.plain:=fun x hx=>plainB_ok (List.all_eq_true.1 hpl x hx)
 let ρ':Nat→Nat:=fun i=>if i=c.st.next then g else ρ i
 have hρ:∀ b,b<c.st.next→ρ' b=ρ b:=fun b hb=>if_neg (by omega);have hρn:ρ' c.st.next=g:=if_pos rfl;have hle:c.st.W.le ⟨c.st.next+1,c.st.nr,c.st.rows⟩:=⟨Nat.le_succ _,Nat.le_refl _,fun _ _ _ h=>h⟩;refine h ρ' a w ⟨hS.n,?_,?_,?_,?_,?_,hS.defers,hS.chg,?_,?_,?_,fun b hb=>?_⟩
 ·intro i v hv;simp only [look_upd] at hv;by_cases e':t=i
  ·subst e';rw [if_pos rfl] at hv;cases hv;refine ⟨?_,Nat.lt_succ_self _⟩;rw [(hS.slots t _ hl).1];show some (Value.pointer (some ⟨g,0,none⟩))=some (.pointer (some ⟨ρ' c.st.next,0,none⟩));rw [hρn]
  ·rw [if_neg e'] at hv;obtain ⟨k1,k2⟩:=hS.slots i v hv;exact ⟨by rw [k1,RV.den_congr (W:=c.st.W) hρ v k2],RV.wf_mono hle v k2⟩
 ·intro i g' pol b x hv;simp only [look_upd] at hv ⊢;by_cases e':t=i
  ·rw [if_pos e'] at hv; cases hv
  ·rw [if_neg e'] at hv;obtain ⟨k1,k2⟩:=hS.grds i g' pol b x hv;refine ⟨k1,?_⟩;rw [if_neg (fun e2=>?_)]
   ·exact k2
   ·rw [← e2,hg] at k1; cases k1
 ·intro b blk hb;simp only [look] at hb;split at hb
  ·rename_i e';cases hb;have:=(beq_iff _ _).1 e';subst this;refine ⟨Nat.lt_succ_self _,?_,fun x hx=>SV.plain_wf (hpl' x hx) _,fun hh=>by cases hh⟩;rw [hρn];have:cells.map (SV.den ρ')=cells.map SV.den0:=List.map_congr_left fun x hx=>SV.plain_den (hpl' x hx) _;simp only [this];exact p1
  ·obtain ⟨k1,k2,k3,k4⟩:=hS.heap b blk hb;refine ⟨Nat.lt_succ_of_lt k1,?_,fun x hx=>SV.wf_mono hle x (k3 x hx),?_⟩
   ·rw [hρ b k1,SV.den_map_congr (W:=c.st.W) hρ _ k3]; exact k2
   ·rw [hρ b k1]; exact k4
 ·intro b d hb hd he;have hb':b<c.st.next+1:=hb;have hd':d<c.st.next+1:=hd;by_cases e1:b=c.st.next<;>by_cases e2:d=c.st.next
  ·omega
  ·subst e1; rw [hρn,hρ d (by omega)] at he; exact absurd he.symm (q2 d (by omega))
  ·subst e2; rw [hρn,hρ b (by omega)] at he; exact absurd he (q2 b (by omega))
  ·rw [hρ b (by omega),hρ d (by omega)] at he; exact hS.inj b d (by omega) (by omega) he
 ·intro b hb;have hb':b<c.st.next+1:=hb;by_cases e1:b=c.st.next
  ·subst e1; rw [hρn]; exact q1
  ·rw [hρ b (by omega)]; exact hS.lt b (by omega)
 ·intro r R hR;obtain ⟨k0,k1,k2⟩:=hS.rows r R hR;refine ⟨k0,k1,fun k hk=>⟨(k2 k hk).1,fun b hb=>?_,(k2 k hk).2.2⟩⟩;have hb':b<c.st.next+1:=hb;by_cases e1:b=c.st.next
  ·subst e1; rw [hρn]; intro e2; rw [← e2] at hk; exact q3 r R hR (ownAll_ok hrows hR) hk
  ·rw [hρ b (by omega)]; exact (k2 k hk).2.1 b (by omega)
 ·exact hS.rowsD
 ·intro p hp';obtain ⟨r1,r2,r3⟩:=hS.pers p (by rw [hp]; exact List.mem_cons_of_mem _ hp');refine ⟨r1,r2,fun k hD=>⟨(r3 k hD).1,fun b hb=>?_,(r3 k hD).2.2⟩⟩;have hb':b<c.st.next+1:=hb;by_cases e1:b=c.st.next
  ·subst e1; rw [hρn]; intro e2; rw [← e2] at hD; exact hdg p hp' hD
  ·rw [hρ b (by omega)]; exact (r3 k hD).2.1 b (by omega)
 ·obtain ⟨k1,k2⟩:=hS.fix b hb;exact ⟨Nat.lt_succ_of_lt k1,by rw [hρ b k1]; exact k2⟩
theorem V.cellAs (b j:Nat) (blk:Blk) (x x':SV) {c:Cfg} (hb:look c.st.heap b=some blk) (hj:blk.cells[j]?=some x) (hpl:plainB x'=true) (hd:∀ ρ,x'.den ρ=x.den ρ)
  (h:V C ⟨c.todo,{ c.st with heap:=upd c.st.heap b { blk with cells:=blk.cells.set j x' } }⟩):V C c:=by
 intro ρ a w hS;refine h ρ a w ⟨hS.n,hS.slots,hS.grds,?_,hS.inj,hS.lt,hS.defers,hS.chg,hS.rows,hS.rowsD,hS.pers,hS.fix⟩;intro b' blk' hb';simp only [look_upd] at hb';by_cases e':b=b'
 ·subst e';rw [if_pos rfl] at hb';cases hb';obtain ⟨k1,k2,k3,k4⟩:=hS.heap b blk hb;refine ⟨k1,?_,?_,k4⟩
  ·rw [k2];have:(blk.cells.set j x').map (SV.den ρ)=blk.cells.map (SV.den ρ):=by
    rw [List.map_set];apply List.ext_getElem?;intro i;rw [List.getElem?_set];split
    ·rename_i e1;subst e1;split
     ·rw [List.getElem?_map,hj,hd]; rfl
     ·rename_i hlt;rw [List.getElem?_eq_none (by omega)]
    ·rfl
   rw [this]
  ·intro y hy;rcases List.mem_or_eq_of_mem_set hy with hy | rfl
   ·exact k3 y hy
   ·exact SV.plain_wf (plainB_ok hpl) _
 ·rw [if_neg e'] at hb';exact hS.heap b' blk' hb'
theorem blk_apart {g g':Nat} {cells cells':List SV} {e e':TypeId} (he:e≠e') (w:World) (h1:(blkP g cells e).φ w) (h2:(blkP g' cells' e').φ w):¬ (blkP g' cells' e').D g:=by
 intro hd;have hd':g=g':=hd;subst hd';have h1':w.heap[g]?=some (.cells (cells.map SV.den0).toArray e (0,0)):=h1;have h2':w.heap[g]?=some (.cells (cells'.map SV.den0).toArray e' (0,0)):=h2;rw [h1'] at h2';simp only [Option.some.injEq,Obj.cells.injEq] at h2';exact he h2'.2.1
end
end Go.SX
end
section
namespace Go.SX
open Go
def callT1 (P:Program) (E:List (Ent P)) (c0:Cfg) (d:DCfg) (i:Nat):Option (DCfg×List Prop) :=
 match callD (dOps c0) i d.st,(dOps c0)[i]? with
 | some (none,f,xs),some o=>match callT E d.st.next f xs with
  | some (v,ob)=>match d.st.put o.dst v with
   | some s'=>some (⟨d.fuel - 1,d.listed.setIfInBounds i true,s'⟩,ob)
   | none=>none
  | none=>none
 | _,_=>none
def memT1 (P:Program) (c0:Cfg) (d:DCfg) (i:Nat):Option DCfg :=
 match (dOps c0)[i]? with
 | some o=>match grdOf d.st (dOps c0) o.guard,opMem P d.st none o.op with
  | .yes,some (v,s1)=>match s1.put o.dst v with
   | some s'=>some ⟨d.fuel - 1,d.listed.setIfInBounds i true,s'⟩
   | none=>none
  | _,_=>none
 | none=>none
def callY (P:Program) (E:List (Ent P)) (c0:Cfg) (d:DCfg) (i:Nat):DCfg:=((callT1 P E c0 d i).map (·.1)).getD d
def memY (P:Program) (c0:Cfg) (d:DCfg) (i:Nat):DCfg:=(memT1 P c0 d i).getD d
section
variable {C:Ctx} {T TR:List Nat} {L:Nat} {c0:Cfg} {d:DCfg}
theorem VX.two (E:List (Ent C.P)) (ob:List Prop) (i j:Nat) (hr:Region.ready .any (dOps c0) d.listed=[i,j]) (hf:Nat.blt 0 d.fuel=true) (hc:(callT1 C.P E c0 d i).map (·.2)=some ob) (hm:(memT1 C.P c0 d j).isSome=true) (hn:needT E d.st.pers=wantT E) (ho:allP ob)
  (h1:VX C T TR L c0 (callY C.P E c0 d i)) (h2:VX C T TR L c0 (memY C.P c0 d j)):VX C T TR L c0 d:=by
 intro D hD a1 a2 a3 a4 a5 a6 hL hsel aT aTR hlt hrw ρ a w hS hρ hn0 hch hcl hsz;obtain ⟨n,hn'⟩:∃ n,d.fuel=n+1:=⟨d.fuel - 1,by have:=blt_lt hf; omega⟩;have hready:∀ m,m∈Region.ready .any (dOps c0) d.listed↔m=i∨m=j:=by intro m; rw [hr]; simp
 rw [hn'];refine wpAnyE_all hr (by simp) (fun m hm'=>?_);rcases List.mem_cons.1 hm' with rfl | hm'
 ·-- the call
  obtain ⟨⟨d1,ob'⟩,hd1,rfl⟩:=Option.map_eq_some_iff.1 hc;have hY:callY C.P E c0 d m=d1:=by unfold callY; rw [hd1]; rfl
  rw [hY] at h1;unfold callT1 at hd1;split at hd1
  case h_2=>cases hd1
  rename_i f xs o hcd hop;split at hd1
  case h_2=>cases hd1
  rename_i v ob2 hct;split at hd1
  case h_2=>cases hd1
  rename_i s' hput;cases hd1;obtain ⟨b1,b2,b3⟩:=callT_ok (C:=C) hct (allP_mem ho) (needT_ok hn);obtain ⟨w1,w2⟩:=wfR_ok (W:=d.st.W) b2 rfl;have hW:=put_W hput;have hrw2:D.rows s':=⟨fun r R hR=>by rw [show s'.rows=d.st.rows from congrArg WF.rows hW]; exact hrw.1 r R hR,by rw [hW]; exact hrw.2⟩;unfold callD callOf at hcd;simp only [hop] at hcd;split at hcd
  case h_2=>cases hcd
  rename_i cl hopc;split at hcd
  case h_3=>cases hcd
  case h_2=>split at hcd<;>cases hcd
  rename_i hg;split at hcd
  case h_2=>cases hcd
  rename_i f' caps ys q1 q2;simp only [Option.some.injEq,Prod.mk.injEq,true_and] at hcd;obtain ⟨rfl,rfl⟩:=hcd;have hrun:=calleeS_sound (t:=o.type) hS.toP (GcOk.none d.st) q1 q2 (enters b1);unfold wpOp;simp only [hop,grd_yes hS hg,if_true];refine .inl ?_;unfold Oper.wp execOp;rw [hopc];simp only;rw [hrun];refine (b3 ρ a w hS).mono ?_;rintro e w2' ⟨rfl,hcw⟩;have hc2:Chg D.TS D.ws w2':=hch.trans hcw (fun i hi=>hi.elim);have:=h1 D hD a1 a2 a3 a4 a5 a6 hL hsel aT aTR hlt hrw2 ρ _ w2' ((hS.below hcw).put hput w1 (fun g pol c x e=>absurd e (w2 g pol c x))) hρ (by show D.n0≤s'.next; rw [put_next hput]; exact hn0) hc2 (hcl.set ((hready m).2 (.inl rfl))) (by simpa using hsz);simp only [hn',Nat.add_sub_cancel] at this;exact ⟨fun _=>hc2,this⟩
 ·-- the new block
  have hmj:m=j:=by simpa using hm'
  subst hmj;obtain ⟨d2,hd2⟩:=Option.isSome_iff_exists.1 hm;have hY:memY C.P c0 d m=d2:=by unfold memY; rw [hd2]; rfl
  rw [hY] at h2;unfold memT1 at hd2;split at hd2
  case h_2=>cases hd2
  rename_i o hop;split at hd2
  case h_2=>cases hd2
  rename_i v s1 hg hmem;split at hd2
  case h_2=>cases hd2
  rename_i s' hput;cases hd2;obtain ⟨k1,k2,k3⟩:=opMem_rows hmem;obtain ⟨ρ',w2,e1,e2,e3,e4,e5,e6,e7⟩:=opMem_sound hS (GcOk.none d.st) o hmem;have hc2:Chg D.TS D.ws w2:=hch.trans e7 (fun i hi=>hi.elim);have hW:=put_W hput;have hrw2:D.rows s':=by
   refine ⟨fun r R hR=>?_,?_⟩
   ·rw [show s'.rows=s1.rows from congrArg WF.rows hW,k1]; exact hrw.1 r R hR
   ·rw [hW];exact hrw.2.trans' ⟨k3,Nat.le_of_eq k2.symm,fun r _ R hR=>by
     have hR':look s1.rows r=some R:=hR;rw [k1] at hR'; exact hR'⟩
  unfold wpOp;simp only [hop,grd_yes hS hg,if_true];refine .inl ?_;unfold Oper.wp;rw [e1];have:=h2 D hD a1 a2 a3 a4 a5 a6 hL hsel aT aTR hlt hrw2 ρ' _ w2 (e2.put hput e3 (fun g pol c x e=>absurd e (e4 g pol c x))) (fun b hb=>(e5 b (by omega)).trans (hρ b hb)) (by show D.n0≤s'.next; rw [put_next hput]; omega) hc2 (hcl.set ((hready m).2 (.inr rfl))) (by simpa using hsz);simp only [hn',Nat.add_sub_cancel] at this;exact ⟨fun _=>hc2,this⟩
theorem V.lookP (t kt et:TypeId) (kd:TypeDesc) (g:Nat) (kv:CV) (ok:Bool) (key:Value) (y:Option Value) (z:Value) (u:RV) {c:Cfg} (hc:lookOf c=some (t,g,kv,ok))
  (ht:C.P.underlying t=some (.map kt et)) (hk:C.P.underlying kt=some kd) (hkk:keyKind kd=true)
  (hb:∀ ρ a w,Sat C ρ c.st a w→∃ es clock x,w.heap[g]?=some (.map es clock)∧Instr.findNow kd key es.toList 0=some x∧x.map (·.2)=y)
  (hkv:∀ ρ,kv.den ρ=key) (hz:y=none→∀ w,(zeroValue et).run C.P w=.ok z w)
  (hu:∀ ρ,u.den ρ=cond ok (.tuple #[y.getD z,.bool y.isSome]) (y.getD z)) (huw:u.wf c.st.W) (hng:∀ g pol b y,u≠.grd g pol b y)
  (haf:(afterOp c c.st u).isSome=true) (k:V C (afterD c c.st u)):V C c:=by
 unfold lookOf at hc;split at hc
 ·rename_i t' m k' ok' hop;split at hc
  ·rename_i g' kv' hm hk';cases hc;refine V.opM hop (fun ρ a w o ho hS=>⟨ρ,u,w,c.st,?_,hS,huw,hng,_,afterD_some haf,k⟩);obtain ⟨e1,_⟩:=ev_sound hS.toP (GcOk.none c.st) hm;obtain ⟨e2,_⟩:=ev_sound hS.toP (GcOk.none c.st) hk';obtain ⟨es,clock,x,b1,b2,rfl⟩:=hb ρ a w hS;unfold execOp;rw [ho];refine execVal2 ?_;rw [e1,e2,hkv,hu];have:=run_lookup ht hk hkk b1 b2 (z:=z) (fun e=>hz (by rw [e]; rfl) w) ok;rw [show (x.map (·.2)).isSome=x.isSome by cases x<;>rfl];exact this
  ·cases hc
 ·cases hc
end
end Go.SX
end
section
namespace Go.SX
open Go
def absP (g:Nat→Nat):List (List SV×TypeId)→Nat→List Pers
 | [],_=>[]
 | (cells,e)::l,i=>blkP (g i) cells e::absP g l (i+1)
def absH:List (List SV×TypeId)→Nat→List (Nat×Blk)
 | [],_=>[]
 | (cells,e)::l,i=>(i,⟨cells,e,true⟩)::absH l (i+1)
theorem absP_mem {g:Nat→Nat}:∀ {l:List (List SV×TypeId)} {i:Nat} {p:Pers},p∈absP g l i→∃ j cells e,look (absH l i) j=some ⟨cells,e,true⟩∧p=blkP (g j) cells e∧i≤j∧j<i+l.length∧(cells,e)∈l
 | [],i,p,h=>by simp [absP] at h
 | (cells,e)::l,i,p,h=>by
  rcases List.mem_cons.1 h with rfl | h
  ·exact ⟨i,cells,e,by simp [absH,look],rfl,Nat.le_refl _,by simp,List.mem_cons_self ..⟩
  ·obtain ⟨j,c',e',h1,h2,h3,h4,h5⟩:=absP_mem h;refine ⟨j,c',e',?_,h2,by omega,by simp only [List.length_cons]; omega,List.mem_cons_of_mem _ h5⟩;simp only [absH,look];have:Nat.beq i j=false:=by
    cases hb:Nat.beq i j with
    | true=>have:=(beq_iff _ _).1 hb; omega
    | false=>rfl
   rw [this];exact h1
theorem CallsK.abs {P:Program} {f:FuncId} {ys:List CV} {F:St} {v:RV} (bl:List (List SV×TypeId)) (hF:F.heap=[]∧F.next=0∧F.rows=[]) (hpl:(bl.all fun b=>b.1.all plainB)=true)
  (h:CallsK P f ys F (fun _:Unit=>True) (fun _=>v) (fun _=>{ n:=0,slots:=[],gs:=[],heap:=absH bl 0,next:=bl.length,rows:=[],nr:=0,pers:=[],wr:=false })) (v':(Nat→Nat)→RV)
  (hv:∀ g ρ,(v' g).den ρ=v.den g) (hw:∀ g,(v' g).wf ⟨0,0,[]⟩) :
  CallsK P f ys F (fun _:Nat→Nat=>True) v' (fun g=>{ n:=0,slots:=[],gs:=[],heap:=[],next:=0,rows:=[],nr:=0,pers:=absP g bl 0,wr:=false }):=by
 obtain ⟨f1,f2,f3⟩:=hF;intro ρ w hS;refine (h ρ w hS).mono ?_;rintro e w' ⟨x,ρ',_,he,k1,k2,k3,k4,k5,k6,k7,k8,k9,k10⟩;refine ⟨ρ',ρ,trivial,by rw [hv ρ' ρ]; exact he,fun _ _=>rfl,by rw [f2]; exact Nat.le_refl _,fun b _ h2=>absurd h2 (Nat.not_lt_zero b),
    ⟨fun b blk hb=>(by cases hb),fun b c hb=>absurd hb (Nat.not_lt_zero b),fun b hb=>absurd hb (Nat.not_lt_zero b),fun r R hR=>(by cases hR),fun r r' R R' hR=>(by cases hR),?_⟩,
    fun b hb=>(by rw [f2] at hb; exact absurd hb (Nat.not_lt_zero b)),hw ρ',k7,fun b blk hb=>(by rw [f2] at hb; exact absurd hb (Nat.not_lt_zero b)),fun r R hR=>(by cases hR),?_⟩
 ·intro p hp;obtain ⟨j,cells,e',h1,rfl,_,h4,h5⟩:=absP_mem hp;obtain ⟨q1,q2,q3⟩:=k4.heap j _ h1;have hpc:∀ y∈cells,y.plain:=fun y hy=>plainB_ok (List.all_eq_true.1 (List.all_eq_true.1 hpl _ h5) y hy);have hφ:w'.heap[ρ' j]?=some (.cells (cells.map SV.den0).toArray e' (0,0)):=by
   rw [q2];have:cells.map (SV.den ρ')=cells.map SV.den0:=List.map_congr_left fun y hy=>SV.plain_den (hpc y hy) _;simp only [this]
  refine ⟨hφ,fun w2 hw2=>(hw2 _ rfl).trans hφ,fun k hD=>⟨?_,fun b hb=>absurd hb (Nat.not_lt_zero b),fun r R hR=>(by cases hR)⟩⟩;have hk:k=ρ' j:=hD;subst hk;exact k4.lt j q1
 ·intro p hp k hD;obtain ⟨j,cells,e',h1,rfl,_,h4,h5⟩:=absP_mem hp;have hk:k=ρ' j:=hD;subst hk;exact k3 j (by rw [f2]; exact Nat.zero_le _) (by simpa using h4)
theorem CallsK.args {α:Type} {P:Program} {f:FuncId} {ys:List CV} {F:St} {p:α→Prop} {v:α→RV} {F':α→St} (h:CallsK P f ys F p v F') (ys':List CV) (hd:∀ ρ,ys'.map (CV.den ρ)=ys.map (CV.den ρ)):CallsK P f ys' F p v F':=by
 intro ρ w hF;rw [hd];exact h ρ w hF
end Go.SX
end
section
namespace Go.SX
open Go
open Go.ChangeMaps (setBlock)
def Stab (p:Pers):Prop:=∀ w w':World,(∀ k,p.D k→w'.heap[k]?=w.heap[k]?)→p.φ w→p.φ w'
def objP (g:Nat) (o:Obj):Pers:=⟨fun k=>k=g,fun w=>w.heap[g]?=some o⟩
theorem objP_stab (g:Nat) (o:Obj):Stab (objP g o):=fun _ _ h hw=>(h g rfl).trans hw
theorem blkP_stab (g:Nat) (cells:List SV) (e:TypeId):Stab (blkP g cells e):=fun _ _ h hw=>(h g rfl).trans hw
theorem rowP_stab (R:Row):Stab (rowP R):=rowP_stable R
def manyP (l:List Pers):Pers:=⟨fun k=>∃ q∈l,q.D k,fun w=>∀ q∈l,q.φ w⟩
theorem manyP_stab {l:List Pers} (h:∀ q∈l,Stab q):Stab (manyP l):=fun w w' hk hw q hq=>h q hq w w' (fun k hD=>hk k ⟨q,hq,hD⟩) (hw q hq)
theorem absP_stab {g:Nat→Nat} {l:List (List SV×TypeId)} {i:Nat}:∀ p∈absP g l i,Stab p:=by
 intro p hp;obtain ⟨j,cells,e,_,rfl,_⟩:=absP_mem hp;exact blkP_stab _ _ _
section
variable {C:Ctx} {ρ:Nat→Nat} {s:St} {a:Act} {w:World}
theorem V.pickP (i:Nat) (l:List Pers) (q:Pers) {c:Cfg} (hi:c.st.pers[i]?=some (manyP l)) (hq:q∈l) (hs:Stab q)
  (h:V C ⟨c.todo,{ c.st with pers:=q::c.st.pers }⟩):V C c:=by
 refine V.persAs [(i,false)] [manyP l] q ?_ (fun k hD=>⟨_,List.mem_singleton.2 rfl,q,hq,hD⟩) (fun w hw=>hw _ (List.mem_singleton.2 rfl) q hq) hs h;simp only [getP,hi,askP]
theorem V.freezeObj (r g:Nat) (o:Obj) {c:Cfg} (hR:look c.st.rows r=some (objRow g o))
  (h:V C ⟨c.todo,{ c.st with rows:=eraseK r c.st.rows,pers:=newP C.w0.heap.size C.S (objP g o)::c.st.pers }⟩):V C c:=by
 intro ρ a w hS;obtain ⟨r1,r2,r3⟩:=hS.rows r _ hR;have hob:=hS.obj hR;have hu:(objRow g o).uses g:=objRow_uses.2 rfl;have hle:c.st.W.le ({ c.st with rows:=eraseK r c.st.rows,pers:=newP C.w0.heap.size C.S (objP g o)::c.st.pers }:St).W:=⟨Nat.le_refl _,Nat.le_refl _,fun q _ Q hQ=>(look_eraseK hQ).2⟩;refine h ρ a w ⟨hS.n,fun i v hv=>⟨(hS.slots i v hv).1,RV.wf_mono hle v (hS.slots i v hv).2⟩,hS.grds,?_,hS.inj,hS.lt,hS.defers,hS.chg,?_,?_,?_,hS.fix⟩
 ·intro b blk hb;obtain ⟨k1,k2,k3,k4⟩:=hS.heap b blk hb;exact ⟨k1,k2,fun x hx=>SV.wf_mono hle x (k3 x hx),k4⟩
 ·intro q Q hQ;exact hS.rows q Q (look_eraseK hQ).2
 ·intro q q' Q Q' h1 h2;exact hS.rowsD q q' Q Q' (look_eraseK h1).2 (look_eraseK h2).2
 ·intro p hp;rcases List.mem_cons.1 hp with rfl | hp
  ·have hpure:∀ k,(objP g o).D k→C.w0.heap.size≤k∨C.S k:=fun k hk=>by
    have e:k=g:=hk;subst e;exact (r3 k hu).2.2 rfl
   refine ⟨⟨hob,hpure⟩,fun w2 hw2=>⟨objP_stab g o w w2 hw2 hob,hpure⟩,fun k hk=>?_⟩;have e:k=g:=hk;subst e;refine ⟨(r3 k hu).1,(r3 k hu).2.1,fun q Q hQ hQo hu'=>?_⟩;obtain ⟨hne,h2⟩:=look_eraseK hQ;exact hS.rowsD r q _ Q hR h2 (fun e=>hne e.symm) rfl k hu hu'
  ·obtain ⟨p1,p2,p3⟩:=hS.pers p hp;exact ⟨p1,p2,fun k hk=>⟨(p3 k hk).1,(p3 k hk).2.1,fun q Q hQ=>(p3 k hk).2.2 q Q (look_eraseK hQ).2⟩⟩
def objOf (R:Row):Option (Nat×Obj) :=
 match R.n,R.cap,R.elem,R.size,R.own,R.obj,R.s with
 | 0,0,0,0,true,some o,some ⟨g,0,none⟩=>some (g,o)
 | _,_,_,_,_,_,_=>none
theorem objOf_eq {R:Row} {g:Nat} {o:Obj} (h:objOf R=some (g,o)):R.n=0∧{ R with get:=fun _=>[] }=objRow g o:=by
 obtain ⟨s,n,cap,elem,size,get,own,obj⟩:=R;unfold objOf at h;simp only at h;split at h
 ·cases h;exact ⟨rfl,rfl⟩
 ·cases h
theorem upd_upd {α:Type} (r:Nat) (x y:α):∀ l:List (Nat×α),upd (upd l r x) r y=upd l r y
 | []=>by simp [upd,Nat.beq_refl]
 | (k,v)::l=>by
  simp only [upd];cases hk:Nat.beq k r with
  | true=>simp only [upd,hk]
  | false=>simp only [upd,hk,upd_upd r x y l]
theorem Sat.setObjR (h:Sat C ρ s a w) {r g:Nat} {o:Obj} {R:Row} (hr:look s.rows r=some R) (ho:objOf R=some (g,o)) (o':Obj):Sat C ρ (s.setObj r g o') a (setBlock w g o')∧w.heap[g]?=some o:=by
 obtain ⟨hn,he⟩:=objOf_eq ho;have h1:=h.rowAs hr (fun _=>[]) (fun i hi=>by omega);rw [he] at h1;have hl:look (upd s.rows r (objRow g o)) r=some (objRow g o):=by rw [look_upd,if_pos rfl]
 refine ⟨?_,h1.obj (r:=r) (g:=g) hl⟩;have h2:=h1.setObj (r:=r) (g:=g) hl o';unfold St.setObj at h2 ⊢;simp only [upd_upd] at h2;exact h2
def insStep (P:Program) (r:Nat) (c:Cfg):Option (Cfg×(Nat×Nat)) :=
 match insOf c with
 | some (t,g,kv,xv)=>match look c.st.rows r with
  | some R=>match objOf R with
   | some (g',.map es clock)=>match P.underlying t with
    | some (.map kt _)=>match P.underlying kt with
     | some kd=>match keyKind kd,plainC kv&&plainC xv with
      | true,true=>match Instr.findNow kd (kv.den fun _=>0) es.toList 0 with
       | some none=>match afterOp c (c.st.setObj r g' (.map (es.push { key:=kv.den fun _=>0,val:=xv.den fun _=>0,born:=clock }) (clock+1))) (.v (.one (.val undef))) with
        | some c'=>some (c',(g,g'))
        | none=>none
       | _=>none
      | _,_=>none
     | none=>none
    | _=>none
   | _=>none
  | none=>none
 | none=>none
theorem insStep_sound {r:Nat} {c c':Cfg} {g g':Nat} (hs:insStep C.P r c=some (c',(g,g'))) (hg:g=g') (k:V C c'):V C c:=by
 unfold insStep at hs;split at hs
 case h_2=>cases hs
 rename_i t g0 kv xv hc;split at hs
 case h_2=>cases hs
 rename_i R hR;split at hs
 case h_2=>cases hs
 rename_i g1 es clock hob;split at hs
 case h_2=>cases hs
 rename_i kt et ht;split at hs
 case h_2=>cases hs
 rename_i kd hk;split at hs
 case h_2=>cases hs
 rename_i hkk hpl;split at hs
 case h_2=>cases hs
 rename_i hf;split at hs
 case h_2=>cases hs
 rename_i c1 haf;cases hs;subst hg;rw [Bool.and_eq_true] at hpl;have hkv:∀ ρ,kv.den ρ=kv.den fun _=>0:=fun ρ=>plainC_den hpl.1 ρ _;have hxv:∀ ρ,xv.den ρ=xv.den fun _=>0:=fun ρ=>plainC_den hpl.2 ρ _;generalize hkey:kv.den (fun _=>0)=key at *;generalize hval:xv.den (fun _=>0)=val at *;unfold insOf at hc;split at hc
 ·rename_i op hop;split at hc
  ·rename_i t' m k' x hins;split at hc
   ·rename_i g'' kv' xv' hm hk' hx';cases hc;refine V.opU hop (fun ρ a w o ho hS=>?_);obtain ⟨e1,_⟩:=ev_sound hS.toP (GcOk.none c.st) hm;obtain ⟨e2,_⟩:=ev_sound hS.toP (GcOk.none c.st) hk';obtain ⟨e3,_⟩:=ev_sound hS.toP (GcOk.none c.st) hx';obtain ⟨s1,s2⟩:=hS.setObjR hR hob (.map (es.push { key:=key,val:=val,born:=clock }) (clock+1));refine ⟨_,_,?_,s1,_,haf,k⟩;have hrun:=run_mapInsert (P:=C.P) (v:=val) ht hk hkk s2 hf;unfold insOp at hins;unfold execOp;rw [ho];split at hins
    ·cases hins;simp only [e1,e2,e3,hkv,hxv];have:CV.den ρ (.one (.val (.map (some g))))=.map (some g):=rfl;rw [this,Sem.run_bind,hrun];rfl
    ·cases hins;simp only [e1,e2,e3,hkv,hxv];have:CV.den ρ (.one (.val (.map (some g))))=.map (some g):=rfl;rw [this,Sem.run_bind,hrun];rfl
    ·cases hins
   ·cases hc
  ·cases hc
 ·cases hc
def runM (P:Program) (T:List (Ent P)) (r:Nat):Nat→Cfg→Cfg×List Prop×List (Nat×Nat)
 | 0,c=>(c,[],[])
 | n+1,c=>match runT P T 1000 c with
  | (c1,ob)=>match insStep P r c1 with
   | some (c2,gg)=>match runM P T r n c2 with
    | (c3,ob3,l)=>(c3,ob++ob3,gg::l)
   | none=>(c1,ob,[])
theorem insStep_pers {P:Program} {r:Nat} {c c':Cfg} {gg:Nat×Nat} (h:insStep P r c=some (c',gg)):c'.st.pers=c.st.pers:=by
 unfold insStep at h
 repeat' split at h
 all_goals first
  | (cases h; done)
  | skip
 cases h;rename_i c1 haf;unfold afterOp at haf;split at haf
 ·split at haf
  ·split at haf
   ·rename_i s' hp;cases haf;unfold St.put at hp;split at hp
    ·cases hp; rfl
    ·split at hp
     ·cases hp
     ·split at hp
      ·cases hp
      ·cases hp; rfl
   ·cases haf
  ·cases haf
 ·cases haf
theorem V.runM (T:List (Ent C.P)) (r n:Nat) (ob:List Prop) (l:List (Nat×Nat)) {c:Cfg} (hr:(SX.runM C.P T r n c).2=(ob,l)) (hn:needT T c.st.pers=wantT T) (ho:allP ob) (hl:∀ p∈l,p.1=p.2)
  (h:V C (SX.runM C.P T r n c).1):V C c:=by
 have hob:=allP_mem ho;clear ho;have hn':=needT_ok hn;clear hn
 induction n generalizing c ob l with
 | zero=>exact h
 | succ n ih =>
  unfold SX.runM at hr h;have hpp:=runT_pers (P:=C.P) (T:=T) 1000 c;have hrs:=runT_sound (C:=C) (T:=T) 1000 c;generalize SX.runT C.P T 1000 c=x at hr h hpp hrs;obtain ⟨c1,ob1⟩:=x;simp only at hr h hpp hrs;split at hr
  ·rename_i c2 gg hst;rw [hst] at h;simp only at h hr;cases hr;obtain ⟨g,g'⟩:=gg;have hp2:=insStep_pers hst;refine hrs (fun p hp=>hob p (List.mem_append_left _ hp)) hn' (insStep_sound hst (hl _ (List.mem_cons_self ..)) ?_);exact ih _ _ rfl (fun p hp=>hl p (List.mem_cons_of_mem _ hp)) h (fun p hp=>hob p (List.mem_append_right _ hp)) (fun e he q hq=>by rw [hp2,hpp]; exact hn' e he q hq)
  ·rename_i hst;rw [hst] at h;cases hr;exact hrs hob hn' h
end
end Go.SX
end
section
namespace Go.SX
open Go
def SV.absz (b g:Nat):SV→SV
 | .ptr b' off=>match Nat.beq b b' with
  | true=>.val (.pointer (some ⟨g,off,none⟩))
  | false=>.ptr b' off
 | .sli b' n cap=>match Nat.beq b b' with
  | true=>.val (.slice (some ⟨g,0,none⟩) n cap)
  | false=>.sli b' n cap
 | x=>x
def CV.absz (b g:Nat):CV→CV
 | .one x=>.one (x.absz b g)
 | .agg xs=>.agg (xs.map (SV.absz b g))
def RV.absz (b g:Nat):RV→RV
 | .v x=>.v (x.absz b g)
 | .tup xs=>.tup (xs.map (CV.absz b g))
 | .grd q pol c x=>.grd q pol c (x.absz b g)
def St.absz (s:St) (b g:Nat):St:={ s with slots:=mapK (RV.absz b g) s.slots,heap:=mapK (fun k=>⟨k.cells.map (SV.absz b g),k.elem,k.rw⟩) s.heap }
theorem SV.absz_den {b g:Nat} {ρ:Nat→Nat} (h:ρ b=g) (x:SV):(x.absz b g).den ρ=x.den ρ:=by
 cases x with
 | ptr b' off =>
  simp only [SV.absz];split
  ·rename_i e; have:=(beq_iff _ _).1 e; subst this; simp only [SV.den,h]
  ·rfl
 | sli b' n cap =>
  simp only [SV.absz];split
  ·rename_i e; have:=(beq_iff _ _).1 e; subst this; simp only [SV.den,h]
  ·rfl
 | _=>rfl
theorem CV.absz_den {b g:Nat} {ρ:Nat→Nat} (h:ρ b=g) (x:CV):(x.absz b g).den ρ=x.den ρ:=by
 cases x with
 | one x=>exact SV.absz_den h x
 | agg xs =>
  simp only [CV.absz,CV.den,List.map_map];congr 2;exact List.map_congr_left fun x _=>SV.absz_den h x
theorem RV.absz_den {b g:Nat} {ρ:Nat→Nat} (h:ρ b=g) (x:RV):(x.absz b g).den ρ=x.den ρ:=by
 cases x with
 | v x=>exact CV.absz_den h x
 | tup xs =>
  simp only [RV.absz,RV.den,List.map_map];congr 2;exact List.map_congr_left fun x _=>CV.absz_den h x
 | grd q pol c x=>simp only [RV.absz,RV.den,CV.absz_den h x]
theorem SV.absz_wf {b g:Nat} {W:WF} (x:SV) (h:x.wf W):(x.absz b g).wf W:=by
 cases x with
 | ptr b' off=>simp only [SV.absz]; split<;>first | trivial | exact h
 | sli b' n cap=>simp only [SV.absz]; split<;>first | trivial | exact h
 | _=>exact h
theorem CV.absz_wf {b g:Nat} {W:WF} (x:CV) (h:x.wf W):(x.absz b g).wf W:=by
 cases x with
 | one x=>exact SV.absz_wf x h
 | agg xs=>intro y hy; obtain ⟨z,hz,rfl⟩:=List.mem_map.1 hy; exact SV.absz_wf z (h z hz)
theorem RV.absz_wf {b g:Nat} {W:WF} (x:RV) (h:x.wf W):(x.absz b g).wf W:=by
 cases x with
 | v x=>exact CV.absz_wf x h
 | tup xs=>intro y hy; obtain ⟨z,hz,rfl⟩:=List.mem_map.1 hy; exact CV.absz_wf z (h z hz)
 | grd q pol c x=>exact fun hc=>CV.absz_wf x (h hc)
section
variable {C:Ctx} {ρ:Nat→Nat} {s:St} {a:Act} {w:World}
theorem Sat.absz (h:Sat C ρ s a w) (b:Nat):Sat C ρ (s.absz b (ρ b)) a w:=by
 refine ⟨h.n,?_,?_,?_,h.inj,h.lt,h.defers,h.chg,h.rows,h.rowsD,h.pers,h.fix⟩
 ·intro i v hv;simp only [St.absz,look_mapK] at hv;obtain ⟨u,hu,rfl⟩:=Option.map_eq_some_iff.1 hv;obtain ⟨k1,k2⟩:=h.slots i u hu;exact ⟨by rw [RV.absz_den rfl]; exact k1,RV.absz_wf u k2⟩
 ·intro i g pol b' x hv;simp only [St.absz,look_mapK] at hv ⊢;obtain ⟨u,hu,hu'⟩:=Option.map_eq_some_iff.1 hv;cases u with
  | grd g' pol' b'' x' =>
   simp only [RV.absz,RV.grd.injEq] at hu';obtain ⟨rfl,rfl,rfl,rfl⟩:=hu';obtain ⟨k1,k2⟩:=h.grds i _ _ _ _ hu;exact ⟨k1,by rw [k2]; rfl⟩
  | v x=>cases hu'
  | tup x=>cases hu'
 ·intro b' blk hb;simp only [St.absz,look_mapK] at hb;obtain ⟨u,hu,rfl⟩:=Option.map_eq_some_iff.1 hb;obtain ⟨k1,k2,k3,k4⟩:=h.heap b' u hu;refine ⟨k1,?_,?_,k4⟩
  ·have:(u.cells.map (SV.absz b (ρ b))).map (SV.den ρ)=u.cells.map (SV.den ρ):=by rw [List.map_map]; exact List.map_congr_left fun x _=>SV.absz_den rfl x
   simp only [this]; exact k2
  ·intro x hx; obtain ⟨y,hy,rfl⟩:=List.mem_map.1 hx; exact SV.absz_wf y (k3 y hy)
def freeKeys:List (Nat×RV)→List Nat
 | []=>[]
 | (k,v)::l=>match v with
  | .grd _ _ _ _=>freeKeys l
  | _=>k::freeKeys l
def hsNo (b:Nat) (hp:List (Nat×Blk)):Nat→Nat→List Nat
 | 0,_=>[]
 | n+1,i=>match Nat.beq b i with
  | true=>hsNo b hp n (i+1)
  | false=>match look hp i with
   | some _=>i::hsNo b hp n (i+1)
   | none=>hsNo b hp n (i+1)
theorem hsNo_ne {b:Nat} {hp:List (Nat×Blk)}:∀ {n i x:Nat},x∈hsNo b hp n i→x≠b∧x<i+n
 | 0,i,x,h=>by simp [hsNo] at h
 | n+1,i,x,h=>by
  simp only [hsNo] at h;split at h
  ·obtain ⟨h1,h2⟩:=hsNo_ne h; exact ⟨h1,by omega⟩
  ·rename_i e;split at h
   ·rcases List.mem_cons.1 h with rfl | h
    ·exact ⟨fun e'=>beq_false e e'.symm,by omega⟩
    ·obtain ⟨h1,h2⟩:=hsNo_ne h; exact ⟨h1,by omega⟩
   ·obtain ⟨h1,h2⟩:=hsNo_ne h; exact ⟨h1,by omega⟩
def rKeys:List (Nat×Row)→List Nat
 | []=>[]
 | (k,_)::l=>k::rKeys l
def allTrue:List Pers→List Bool
 | []=>[]
 | _::l=>true::allTrue l
def absB (b g:Nat) (s:St):Option St:=pickSt (freeKeys s.slots) (hsNo b s.heap s.next 0) (rKeys s.rows) (allTrue s.pers) (s.absz b g)
def absS (b g:Nat) (s:St):St:=(absB b g s).getD s
theorem Sat.absB (h:Sat C ρ s a w) {b:Nat} (hb:b<s.next) (hp:(SX.absB b (ρ b) s).isSome=true) :
  ∃ ρ',Sat C ρ' (absS b (ρ b) s) a w∧(∀ c,c<(absS b (ρ b) s).next→ρ' c≠ρ b)∧(∀ r R,look (absS b (ρ b) s).rows r=some R→∃ r',look s.rows r'=some R)∧∀ p∈(absS b (ρ b) s).pers,p∈s.pers:=by
 obtain ⟨s',hs'⟩:=Option.isSome_iff_exists.1 hp;have e:absS b (ρ b) s=s':=by unfold absS; rw [hs']; rfl
 rw [e];refine ⟨_,(h.absz b).pick hs',?_,?_,?_⟩
 ·intro c hc e';have hpk:pickSt (freeKeys s.slots) (hsNo b s.heap s.next 0) (rKeys s.rows) (allTrue s.pers) (s.absz b (ρ b))=some s':=hs';unfold pickSt at hpk;split at hpk
  case h_2=>cases hpk
  cases hpk;have hc':c<(hsNo b s.heap s.next 0).length:=hc;have hm:(hsNo b s.heap s.next 0).getD c 0∈hsNo b s.heap s.next 0:=by
   rw [List.getD,List.getElem?_eq_getElem hc'];exact List.getElem_mem hc'
  obtain ⟨h1,h2⟩:=hsNo_ne hm;exact h1 (h.inj _ _ (by omega) hb e')
 ·intro r R hR;have hpk:pickSt (freeKeys s.slots) (hsNo b s.heap s.next 0) (rKeys s.rows) (allTrue s.pers) (s.absz b (ρ b))=some s':=hs';unfold pickSt at hpk;split at hpk
  case h_2=>cases hpk
  rename_i sl hpp rows hnd1 hnd2 hsl hhp hrows;cases hpk;obtain ⟨r2,_,_,h3⟩:=pickRows_ok hrows r R hR;exact ⟨r2,h3⟩
 ·intro p hp2;have hpk:pickSt (freeKeys s.slots) (hsNo b s.heap s.next 0) (rKeys s.rows) (allTrue s.pers) (s.absz b (ρ b))=some s':=hs';unfold pickSt at hpk;split at hpk
  case h_2=>cases hpk
  cases hpk;exact keepP_sub _ _ p hp2
theorem V.absB (b:Nat) (blk:Blk) {c:Cfg} (hb:look c.st.heap b=some blk) (hpl:(blk.cells.all plainB&&blk.rw)=true) (hp:∀ g,(SX.absB b g c.st).isSome=true)
  (h:∀ g,V C ⟨c.todo,{ absS b g c.st with pers:=newP C.w0.heap.size C.S (blkP g blk.cells blk.elem)::(absS b g c.st).pers }⟩):V C c:=by
 intro ρ a w hS;rw [Bool.and_eq_true] at hpl;obtain ⟨k1,k2,k3,k4⟩:=hS.heap b blk hb;obtain ⟨ρ',h1,h2,h3,h5⟩:=hS.absB k1 (hp (ρ b));refine h (ρ b) ρ' a w ⟨h1.n,h1.slots,h1.grds,h1.heap,h1.inj,h1.lt,h1.defers,h1.chg,h1.rows,h1.rowsD,?_,h1.fix⟩;intro p hp';rcases List.mem_cons.1 hp' with rfl | hp'
 ·have hφ:w.heap[ρ b]?=some (.cells (blk.cells.map SV.den0).toArray blk.elem (0,0)):=by
   rw [k2];have:blk.cells.map (SV.den ρ)=blk.cells.map SV.den0:=List.map_congr_left fun y hy=>SV.plain_den (plainB_ok (List.all_eq_true.1 hpl.1 y hy)) _;simp only [this]
  have hpure:∀ k,(blkP (ρ b) blk.cells blk.elem).D k→C.w0.heap.size≤k∨C.S k:=fun k hk=>by
   have e:k=ρ b:=hk;subst e; exact k4 hpl.2
  refine ⟨⟨hφ,hpure⟩,fun w2 hw2=>⟨(hw2 _ rfl).trans hφ,hpure⟩,fun k hk=>?_⟩;have e:k=ρ b:=hk;subst e;refine ⟨hS.lt b k1,h2,fun r R hR ho hu=>?_⟩;obtain ⟨r',hr'⟩:=h3 r R hR;exact ((hS.rows r' R hr').2.2 _ hu).2.1 b k1 rfl
 ·exact h1.pers p hp'
theorem range_map_getD {α:Type} (l:List α) (d:α):(List.range l.length).map (fun i=>l.getD i d)=l:=by
 apply List.ext_getElem?;intro i;rw [List.getElem?_map];by_cases hi:i<l.length
 ·rw [List.getElem?_range hi,Option.map_some,List.getD,List.getElem?_eq_getElem hi]; rfl
 ·rw [List.getElem?_eq_none (by simp; omega),List.getElem?_eq_none (by omega)]; rfl
theorem rowL_flat {α:Type} (f:α→List SV) (d:α) (l:List α) (q:Option Addr) (cap:Nat) (e:TypeId) (sz:Nat) (own:Bool):(rowL f d l q cap e sz own).flat=(l.flatMap f).map SV.den0:=by
 show (List.range l.length).flatMap (fun i=>(f (l.getD i d)).map SV.den0)=_
 conv=>rhs; rw [← range_map_getD l d]
 rw [List.flatMap_map,List.map_flatMap]
theorem flat_at {α:Type} {f:α→List SV} {sz:Nat} (hf:∀ x,(f x).length=sz) (d:α):∀ {l:List α} {i j:Nat},i<l.length→j<sz→(l.flatMap f)[i*sz+j]?=(f (l.getD i d))[j]?
 | x::l,0,j,_,hj=>by
  rw [List.flatMap_cons,List.getElem?_append_left (by rw [hf]; omega)];simp
 | x::l,i+1,j,hi,hj=>by
  rw [List.flatMap_cons,List.getElem?_append_right (by rw [hf,Nat.succ_mul]; omega),hf];rw [show (i+1)*sz+j - sz=i*sz+j by rw [Nat.succ_mul]; omega];rw [flat_at hf d (by simpa using hi) hj];simp
theorem flat_len {α:Type} {f:α→List SV} {sz:Nat} (hf:∀ x,(f x).length=sz):∀ l:List α,(l.flatMap f).length=l.length*sz
 | []=>by simp
 | x::l=>by rw [List.flatMap_cons,List.length_append,hf,flat_len hf l,List.length_cons,Nat.succ_mul]; omega
theorem rowL_ok {α:Type} {w:World} {g:Nat} {f:α→List SV} {d:α} {l:List α} {e:TypeId} {sz:Nat} {own:Bool} (hg:w.heap[g]?=some (.cells ((l.flatMap f).map SV.den0).toArray e (0,0))) (hf:∀ x,(f x).length=sz)
  (hpl:∀ x,∀ y∈f x,y.plain) (hm:l.length≤maxLen):(rowL f d l (some ⟨g,0,none⟩) l.length e sz own).ok w:=by
 have hsz:((l.flatMap f).map SV.den0).length=l.length*sz:=by rw [List.length_map,flat_len hf]
 refine ⟨fun i hi=>⟨hf _,hpl _⟩,fun hp=>⟨g,0,rfl,fun i j x hi hx=>?_⟩,fun _ _=>⟨by rw [rowL_flat]; exact hsz,.inr ⟨g,l.length,_,rfl,Nat.zero_le _,hg,Nat.le_refl _,hm,(by show ((l.flatMap f).map SV.den0).toArray.size=l.length*sz; rw [List.size_toArray]; exact hsz),?_⟩⟩,fun o ho=>(by cases ho)⟩
 ·have hi':i<l.length:=hi;have hx':(f (l.getD i d))[j]?=some x:=hx;have hj:j<sz:=by
   rw [← hf (l.getD i d)];exact (List.getElem?_eq_some_iff.1 hx').1
  rw [Lib.cell_of_heap hg];show ((l.flatMap f).map SV.den0).toArray[0+(i*sz+j)]?=_;rw [Nat.zero_add,List.getElem?_toArray,List.getElem?_map,flat_at hf d hi' hj,hx'];rfl
 ·rw [rowL_flat];simp only [rowL];rw [← hsz];exact List.take_length
theorem rowP_of_blk {α:Type} {f:α→List SV} {d:α} {l:List α} {g:Nat} {e:TypeId} {sz:Nat} (hf:∀ x,(f x).length=sz) (hpl:∀ x,∀ y∈f x,y.plain) (hm:l.length≤maxLen) (w:World) (h:(blkP g (l.flatMap f) e).φ w) :
  (rowP (rowL f d l (some ⟨g,0,none⟩) l.length e sz false)).φ w:=rowL_ok h hf hpl hm
theorem V.rowB {α:Type} (f:α→List SV) (d:α) (l:List α) (e:TypeId) (sz:Nat) (b:Nat) {c:Cfg} (hb:look c.st.heap b=some ⟨l.flatMap f,e,true⟩) (hf:∀ x,(f x).length=sz) (hpl:∀ x,∀ y∈f x,y.plain) (hm:l.length≤maxLen) (hp:∀ g,(SX.absB b g c.st).isSome=true)
  (h:∀ g,V C ⟨c.todo,{ absS b g c.st with rows:=((absS b g c.st).nr,rowL f d l (some ⟨g,0,none⟩) l.length e sz true)::(absS b g c.st).rows,nr:=(absS b g c.st).nr+1 }⟩):V C c:=by
 intro ρ a w hS;obtain ⟨k1,k2,k3,k4⟩:=hS.heap b _ hb;obtain ⟨ρ',h1,h2,h3,h5⟩:=hS.absB k1 (hp (ρ b));have hφ:w.heap[ρ b]?=some (.cells ((l.flatMap f).map SV.den0).toArray e (0,0)):=by
  rw [k2];have:(l.flatMap f).map (SV.den ρ)=(l.flatMap f).map SV.den0:=List.map_congr_left fun y hy=>by
   obtain ⟨x,_,hx⟩:=List.mem_flatMap.1 hy;exact SV.plain_den (hpl x y hx) _
  simp only [this]
 have hnu:∀ r R,look (absS b (ρ b) c.st).rows r=some R→¬ R.uses (ρ b):=fun r R hR hu=>by
  obtain ⟨r',hr'⟩:=h3 r R hR;exact ((hS.rows r' R hr').2.2 _ hu).2.1 b k1 rfl
 have huse:∀ k,(rowL f d l (some ⟨ρ b,0,none⟩) l.length e sz true).uses k→k=ρ b:=by
  rintro k ⟨ad,h1,h2,_⟩;cases h1; exact h2.symm
 have hlk:∀ r R,look (((absS b (ρ b) c.st).nr,rowL f d l (some ⟨ρ b,0,none⟩) l.length e sz true)::(absS b (ρ b) c.st).rows) r=some R →
   (r=(absS b (ρ b) c.st).nr∧R=rowL f d l (some ⟨ρ b,0,none⟩) l.length e sz true)∨look (absS b (ρ b) c.st).rows r=some R:=by
  intro r R hR;simp only [look] at hR;split at hR
  ·rename_i e; cases hR; exact .inl ⟨((beq_iff _ _).1 e).symm,rfl⟩
  ·exact .inr hR
 have hle:(absS b (ρ b) c.st).W.le ({ absS b (ρ b) c.st with rows:=((absS b (ρ b) c.st).nr,rowL f d l (some ⟨ρ b,0,none⟩) l.length e sz true)::(absS b (ρ b) c.st).rows,nr:=(absS b (ρ b) c.st).nr+1 }:St).W :=
  ⟨Nat.le_refl _,Nat.le_succ _,fun q hq Q hQ=>by
   rcases hlk q Q hQ with ⟨e,_⟩ | h4
   ·have hq':q<(absS b (ρ b) c.st).nr:=hq;omega
   ·exact h4⟩
 refine h (ρ b) ρ' a w ⟨h1.n,fun i v hv=>⟨(h1.slots i v hv).1,RV.wf_mono hle v (h1.slots i v hv).2⟩,h1.grds,?_,h1.inj,h1.lt,h1.defers,h1.chg,?_,?_,?_,h1.fix⟩
 ·intro b' blk hb';obtain ⟨q1,q2,q3,q4⟩:=h1.heap b' blk hb';exact ⟨q1,q2,fun x hx=>SV.wf_mono hle x (q3 x hx),q4⟩
 ·intro r R hR;rcases hlk r R hR with ⟨rfl,rfl⟩ | h4
  ·refine ⟨Nat.lt_succ_self _,rowL_ok hφ hf hpl hm,fun k hk=>?_⟩;rw [huse k hk];exact ⟨hS.lt b k1,h2,fun _=>k4 rfl⟩
  ·obtain ⟨q1,q2,q3⟩:=h1.rows r R h4;exact ⟨Nat.lt_succ_of_lt q1,q2,q3⟩
 ·intro r r' R R' hR hR' hne ho k hk hk';rcases hlk r R hR with ⟨rfl,rfl⟩ | h4<;>rcases hlk r' R' hR' with ⟨rfl,rfl⟩ | h6
  ·exact hne rfl
  ·rw [huse k hk] at hk'; exact hnu _ _ h6 hk'
  ·rw [huse k hk'] at hk; exact hnu _ _ h4 hk
  ·exact h1.rowsD r r' R R' h4 h6 hne ho k hk hk'
 ·intro p hp';obtain ⟨p1,p2,p3⟩:=h1.pers p hp';refine ⟨p1,p2,fun k hD=>⟨(p3 k hD).1,(p3 k hD).2.1,fun r R hR ho hu=>?_⟩⟩;rcases hlk r R hR with ⟨rfl,rfl⟩ | h4
  ·rw [huse k hu] at hD;exact ((hS.pers p (h5 p hp')).2.2 _ hD).2.1 b k1 rfl
  ·exact (p3 k hD).2.2 r R h4 ho hu
end
end Go.SX
end
section
namespace Go.SX
open Go
def Drv (ps:List Pers) (q:Pers):Prop:=Stab q∧∃ p∈ps,(∀ k,q.D k→p.D k)∧∀ w,p.φ w→q.φ w
theorem Drv.self {ps:List Pers} {q:Pers} (hs:Stab q) (h:q∈ps):Drv ps q:=⟨hs,q,h,fun _ h=>h,fun _ h=>h⟩
theorem Drv.many {ps l:List Pers} {q:Pers} (hs:Stab q) (hl:manyP l∈ps) (h:q∈l):Drv ps q:=⟨hs,manyP l,hl,fun k hk=>⟨q,h,hk⟩,fun w hw=>hw q h⟩
theorem CallsK.pers {α:Type} {P:Program} {f:FuncId} {ys:List CV} {F:St} {p:α→Prop} {v:α→RV} {F':α→St} (h:CallsK P f ys F p v F') (ps:List Pers) (hd:∀ q∈F.pers,Drv ps q) :
  CallsK P f ys { F with pers:=ps } p v F':=by
 intro ρ w hF;have hF':FSat ρ F w:=FSat.withPers (s':={ F with pers:=ps }) hF rfl (fun q hq=>by
  obtain ⟨hs,p,hp,h1,h2⟩:=hd q hq;obtain ⟨a1,a2,a3⟩:=hF.pers p hp;exact ⟨h2 w a1,fun w' hw'=>hs w w' hw' (h2 w a1),fun k hk=>a3 k (h1 k hk)⟩)
 exact h ρ w hF'
theorem CallsK.to {α β:Type} {P:Program} {f:FuncId} {ys:List CV} {F:St} {p:α→Prop} {v:α→RV} {F':α→St} (h:CallsK P f ys F p v F') {p':β→Prop} {v':β→RV} {F'':β→St}
  (g:∀ x,p x→∃ y,p' y∧v' y=v x∧F'' y=F' x):CallsK P f ys F p' v' F'':=by
 intro ρ w hF;refine (h ρ w hF).mono ?_;rintro e w' ⟨x,ρ',hx,h⟩;obtain ⟨y,hy,e1,e2⟩:=g x hx;refine ⟨y,ρ',hy,?_⟩;rw [e1,e2];exact h
def stP (ps:List Pers):St:={ n:=0,slots:=[],gs:=[],heap:=[],next:=0,rows:=[],nr:=0,pers:=ps,wr:=false }
theorem CallsK.ofGives {P:Program} {f:FuncId} {ys:List CV} {ps:List Pers} {v:RV} (hv:plainR v=true) (h:∀ (ρ:Nat→Nat) (w:World),PersOk ps w→Calls P f (ys.map (CV.den ρ)).toArray w (Gives (v.den ρ) w)) :
  CallsK P f ys (stP ps) (fun _:Unit=>True) (fun _=>v) (fun _=>stP []):=by
 intro ρ w hF;refine (h ρ w (fun p hp=>by obtain ⟨a,b,c⟩:=hF.pers p hp; exact ⟨a,b,fun k hk=>(c k hk).1⟩)).mono ?_;rintro e w' ⟨rfl,hc⟩;exact ⟨(),ρ,trivial,rfl,fun _ _=>rfl,Nat.le_refl _,fun b h1 h2=>absurd h2 (Nat.not_lt_zero b),
    ⟨fun b blk hb=>(by cases hb),fun b c hb=>absurd hb (Nat.not_lt_zero b),fun b hb=>absurd hb (Nat.not_lt_zero b),fun r R hR=>(by cases hR),fun r r' R R' hR=>(by cases hR),fun p hp=>(by cases hp)⟩,
    fun b hb=>absurd hb (Nat.not_lt_zero b),(plainR_wf hv _).1,hc.mono (fun _ h=>h.elim),fun b blk hb=>absurd hb (Nat.not_lt_zero b),fun r R hR=>(by cases hR),fun p hp=>(by cases hp)⟩
section
variable {C:Ctx}
theorem V.have {p:Prop} {c:Cfg} (h:∀ ρ a w,Sat C ρ c.st a w→p) (k:p→V C c):V C c:=fun ρ a w hS=>k (h ρ a w hS) ρ a w hS
theorem V.callL {α:Type} {f:FuncId} {ys:List CV} {F:St} {p:α→Prop} {v:α→RV} {F':α→St} {c:Cfg} (pi:List (Nat×Bool)) (hs rs:List Nat) (hk:CallsK C.P f ys F p v F')
  (hb:entersB C.P f=true) (hc:frameOf c=some (f,ys,fragOf F)) (hh:hsrs c=(hs,rs)) (hpi:getP pi c.st.pers=some (askP C.w0.heap.size C.S pi F.pers))
  (hu:∀ x,(noKeyDup (F' x).heap&&(ngB (v x)&&(afterOp c (c.st.bringK hs rs 0 (fun _=>False) (F' x)) ((v x).bring (newHs hs c.st.next (F' x).next) c.st.nr)).isSome))=true)
  (k:∀ x,p x→V C (afterD c (c.st.bringK hs rs C.w0.heap.size C.S (F' x)) ((v x).bring (newHs hs c.st.next (F' x).next) c.st.nr))):V C c:=by
 refine V.callK pi hk hb hc hpi (fun x=>?_) (fun x hx=>?_)
 ·unfold okK; rw [hh]; exact hu x
 ·unfold behindK; rw [hh]; exact k x hx
end
end Go.SX
end
section
namespace Go.SX
open Go
open Go.ChangeMaps (setBlock)
section
variable {C:Ctx} {T TR:List Nat} {L:Nat} {c0:Cfg} {d:DCfg}
theorem VX.insert (t kt et:TypeId) (kd:TypeDesc) (g r:Nat) (kv xv:CV) (key val:Value) (es:Array MapEntry) (clock:Nat) (hone:(oneX c0 d).map (fun x=>(x.1,x.2.dst))=some (L,none)) (hc:insOf (atX c0 d)=some (t,g,kv,xv))
  (ht:C.P.underlying t=some (.map kt et)) (hk:C.P.underlying kt=some kd) (hkk:keyKind kd=true) (hr:look d.st.rows r=some (objRow g (.map es clock)))
  (hkv:∀ ρ,kv.den ρ=key) (hxv:∀ ρ,xv.den ρ=val) (hf:Instr.findNow kd key es.toList 0=some none)
  (he:(Region.ready .any (dOps c0) (d.listed.setIfInBounds L true)).isEmpty=true)
  (h:V C ⟨dK c0,d.st.setObj r g (.map (es.push { key:=key,val:=val,born:=clock }) (clock+1))⟩):VX C T TR L c0 d:=by
 intro D hD a1 a2 a3 a4 a5 a6 hL hsel aT aTR hlt hrw ρ a w hS hρ hn0 hch hcl hsz;cases hx:oneX c0 d with
 | none=>rw [hx] at hone; cases hone
 | some p =>
  obtain ⟨i,o⟩:=p;rw [hx] at hone;simp only [Option.map_some,Option.some.injEq,Prod.mk.injEq] at hone;obtain ⟨rfl,hd⟩:=hone;obtain ⟨hready,⟨n,hfu⟩,ho⟩:=oneX_ok hx;unfold insOf at hc;split at hc
  case h_2=>cases hc
  rename_i op hop;split at hc
  case h_2=>cases hc
  rename_i t' m k' x hins;split at hc
  case h_2=>cases hc
  rename_i g' kv' xv' hm hk' hx';cases hc;unfold headOp atX at hop;simp only [hready,ho] at hop;split at hop
  case h_2=>cases hop
  rename_i hg;have hop':=Option.some.inj hop;obtain ⟨e1,_⟩:=ev_sound hS.toP (GcOk.none d.st) hm;obtain ⟨e2,_⟩:=ev_sound hS.toP (GcOk.none d.st) hk';obtain ⟨e3,_⟩:=ev_sound hS.toP (GcOk.none d.st) hx';have hrun:=run_mapInsert (P:=C.P) (v:=val) ht hk hkk (hS.obj hr) hf;have hex:(execOp a.eval o).run C.P w=.ok .skip (setBlock w g (.map (es.push { key:=key,val:=val,born:=clock }) (clock+1))):=by
   unfold insOp at hins;unfold execOp;rw [hop'];split at hins
   ·cases hins;simp only [e1,e2,e3,hkv,hxv];have:CV.den ρ (.one (.val (.map (some g))))=.map (some g):=rfl;rw [this,Sem.run_bind,hrun];rfl
   ·cases hins;simp only [e1,e2,e3,hkv,hxv];have:CV.den ρ (.one (.val (.map (some g))))=.map (some g):=rfl;rw [this,Sem.run_bind,hrun];rfl
   ·cases hins
  rw [hfu];refine wpAnyE_all hready (by simp) (fun j hj=>?_);have hj':j=i:=by simpa using hj
  unfold wpOp;simp only [hj',ho,grd_yes hS hg,if_true];refine .inl ?_;unfold Oper.wp;rw [hex];refine ⟨fun hne=>absurd a4.symm hne,?_⟩;rw [hd];exact wpAnyE_done (by simpa using he) (h ρ a _ (hS.setObj hr _)) n
def storeT1 (P:Program) (T:List Nat) (c0:Cfg) (d:DCfg) (i:Nat):Option DCfg :=
 match (dOps c0)[i]? with
 | some o=>match grdOf d.st (dOps c0) o.guard,opStore P d.st none o.op,o.dst,storeBlk d.st none o.op with
  | .yes,some s1,none,some b=>match hasNat T b,Nat.blt b c0.st.next with
   | true,true=>some ⟨d.fuel - 1,d.listed.setIfInBounds i true,s1⟩
   | _,_=>none
  | _,_,_,_=>none
 | none=>none
def storeY (P:Program) (T:List Nat) (c0:Cfg) (d:DCfg) (i:Nat):DCfg:=(storeT1 P T c0 d i).getD d
theorem opStore_W {P:Program} {s s1:St} {gc:Option (Nat×Bool)} {op:Op} (h:opStore P s gc op=some s1):s1.W=s.W:=by
 unfold opStore at h;split at h
 case h_2=>cases h
 split at h
 case h_2=>cases h
 split at h
 case h_2=>cases h
 split at h
 case h_2=>cases h
 cases h;rfl
theorem VX.storeL (rs:List Nat) (hne:rs≠[]) (hr:Region.ready .any (dOps c0) d.listed=rs) (hf:Nat.blt 0 d.fuel=true) (hall:∀ m∈rs,(storeT1 C.P T c0 d m).isSome=true∧VX C T TR L c0 (storeY C.P T c0 d m)):VX C T TR L c0 d:=by
 intro D hD a1 a2 a3 a4 a5 a6 hL hsel aT aTR hlt hrw ρ a w hS hρ hn0 hch hcl hsz;obtain ⟨n,hn'⟩:∃ n,d.fuel=n+1:=⟨d.fuel - 1,by have:=blt_lt hf; omega⟩;have one:∀ m,m∈rs→(storeT1 C.P T c0 d m).isSome=true→VX C T TR L c0 (storeY C.P T c0 d m) →
   wpOp C.P (dOps c0) (Qd C (dK c0)) m (fun a' w'=>(m≠D.L→Chg D.TS D.ws w')∧wpAnyE C.P (dOps c0) (Qd C (dK c0)) (Chg D.TS D.ws) D.L n (d.listed.setIfInBounds m true) a' w') a w:=by
  intro m hm hs hk;obtain ⟨d2,hd2⟩:=Option.isSome_iff_exists.1 hs;have hY:storeY C.P T c0 d m=d2:=by unfold storeY; rw [hd2]; rfl
  rw [hY] at hk;unfold storeT1 at hd2;split at hd2
  case h_2=>cases hd2
  rename_i o ho;split at hd2
  case h_2=>cases hd2
  rename_i s1 b hg hst hdst hblk;split at hd2
  case h_2=>cases hd2
  rename_i hT hb;cases hd2;have hb':=blt_lt hb;obtain ⟨b',w2,e0,e1,e2,e3,e4,e5⟩:=opStore_sound hS (GcOk.none d.st) o hst;rw [hblk] at e0;cases e0;have hbn:b<D.n0:=by rw [a2]; exact hb'
  have hTS:D.TS (D.ρ0 b):=aT b ((hasNat_mem _ _).1 hT) hb';have hc2:Chg D.TS D.ws w2:=hch.trans e4 (fun i hi=>.inr (by rw [hi,hρ b hbn]; exact hTS));have hW:=opStore_W hst;have hrw2:D.rows s1:=⟨fun r R hR=>by rw [show s1.rows=d.st.rows from congrArg WF.rows hW]; exact hrw.1 r R hR,by rw [hW]; exact hrw.2⟩;unfold wpOp;simp only [ho,grd_yes hS hg,if_true];refine .inl ?_;unfold Oper.wp;rw [e2];have:=hk D hD a1 a2 a3 a4 a5 a6 hL hsel aT aTR hlt hrw2 ρ a w2 e3 hρ (by show D.n0≤s1.next; rw [e5]; exact hn0) hc2 (hcl.set (by rw [hr]; exact hm)) (by simpa using hsz);simp only [hn',Nat.add_sub_cancel] at this;refine ⟨fun _=>hc2,?_⟩;rw [hdst];exact this
 rw [hn'];exact wpAnyE_all hr hne (fun m hm'=>one m hm' (hall m hm').1 (hall m hm').2)
theorem VX.store (i:Nat) (hr:Region.ready .any (dOps c0) d.listed=[i]) (hf:Nat.blt 0 d.fuel=true) (hi:(storeT1 C.P T c0 d i).isSome=true) (h1:VX C T TR L c0 (storeY C.P T c0 d i)):VX C T TR L c0 d :=
 VX.storeL [i] (by simp) hr hf (fun m hm=>by rw [List.mem_singleton.1 hm]; exact ⟨hi,h1⟩)
end
end Go.SX
end
section
namespace Go.Proofs
open Go.Shelf
def Tryz.lays156_ren : Go.Shelf.Ren:=⟨fun | 156=>121 | 165=>237 | 166=>75 | 169=>76 | 240=>146 | 241=>284 | 276=>249 | 277=>301 | n=>n,fun | 31=>118 | 9=>9 | 3=>3 | 4=>4 | 0=>0 | 20=>20 | 72=>137 | 76=>140 | 70=>135 | 37=>97 | 75=>139 | 127=>199 | 164=>239 | 5=>5 | 80=>142 | n=>n,fun | n=>n⟩
theorem Tryz.lays156 : Go.Proofs.Lays.n156 Tryz.prog Tryz.lays156_ren:={
  mixed:=kq
  f156:=Tryz.func121.trans (congrArg some kq)
  f165:=Tryz.func237.trans (congrArg some kq)
  f166:=Tryz.func75.trans (congrArg some kq)
  f169:=Tryz.func76.trans (congrArg some kq)
  f240:=Tryz.func146.trans (congrArg some kq)
  f241:=Tryz.func284.trans (congrArg some kq)
  f276:=Tryz.func249.trans (congrArg some kq)
  f277:=Tryz.func301.trans (congrArg some kq)
  t0:=Tryz.underlying0
  a0:=Tryz.isAgg0
  z0:=Tryz.sizeOf0
  v0:=Tryz.zeroValue0
  t3:=Tryz.underlying3
  a3:=Tryz.isAgg3
  z3:=Tryz.sizeOf3
  v3:=Tryz.zeroValue3
  t4:=Tryz.underlying4
  a4:=Tryz.isAgg4
  z4:=Tryz.sizeOf4
  v4:=Tryz.zeroValue4
  t9:=Tryz.underlying9
  a9:=Tryz.isAgg9
  z9:=Tryz.sizeOf9
  v9:=Tryz.zeroValue9
  t20:=Tryz.underlying20
  a20:=Tryz.isAgg20
  z20:=Tryz.sizeOf20
  v20:=Tryz.zeroValue20
  t31:=Tryz.underlying118
  a31:=Tryz.isAgg118
  z31:=Tryz.sizeOf118
  v31:=Tryz.zeroValue118
  t37:=Tryz.underlying97
  a37:=Tryz.isAgg97
  z37:=Tryz.sizeOf97
  v37:=Tryz.zeroValue97
  t70:=Tryz.underlying135
  a70:=Tryz.isAgg135
  z70:=Tryz.sizeOf135
  v70:=Tryz.zeroValue135
  t72:=Tryz.underlying137
  a72:=Tryz.isAgg137
  z72:=Tryz.sizeOf137
  v72:=Tryz.zeroValue137
  t75:=Tryz.underlying139
  a75:=Tryz.isAgg139
  z75:=Tryz.sizeOf139
  v75:=Tryz.zeroValue139
  t76:=Tryz.underlying140
  a76:=Tryz.isAgg140
  z76:=Tryz.sizeOf140
  v76:=Tryz.zeroValue140
  t127:=Tryz.underlying199
  a127:=Tryz.isAgg199
  z127:=Tryz.sizeOf199
  v127:=Tryz.zeroValue199
  t164:=Tryz.underlying239
  a164:=Tryz.isAgg239
  z164:=Tryz.sizeOf239
  v164:=Tryz.zeroValue239 }
theorem Tryz.Builder_Extra_156 : Builder.Extra Tryz.prog Tryz.lays156_ren:={
  sizeBuilder:=kq
  liesBuilder:=kq
  t5:=Tryz.underlying5
  a5:=Tryz.isAgg5
  z5:=Tryz.sizeOf5
  v5:=Tryz.zeroValue5
  infoByte:=kq
  cellsByte:=kq
  sizeByte:=kq
  neB5:=by decide }
open Go.RowKit in
theorem Tryz.strings_Join_none (a : Option Addr) (c : Nat) (sep : ByteArray) (w : World) :
    Calls Tryz.prog 121 #[.slice a 0 c,.string sep] w fun e w'=>e = .returned (.string ⟨#[]⟩) ∧ w' = w:=Any.strings_Join_none Tryz.lays156 Tryz.Builder_Extra_156 a c sep w
open Go.RowKit in
theorem Tryz.strings_Join (bk o c : Nat) (xs : List ByteArray) (sep : ByteArray) (w : World) (hcells : ∀ (j : Nat) x,xs[j]? = some x → w.cell? ⟨bk,o + j,none⟩ = some (.string x)) (hbk : bk < w.heap.size) (hN : xs.length ≤ 140737488355328) (hcap : xs.length ≤ c) (hlen : (Lib.join (xs.map (·.data.toList)) sep.data.toList).length ≤ 140737488355328) :
    Calls Tryz.prog 121 #[.slice (some ⟨bk,o,none⟩) xs.length c,.string sep] w fun e w'=>e = .returned (.string ⟨(Lib.join (xs.map (·.data.toList)) sep.data.toList).toArray⟩) ∧ Below w.heap.size w w':=Any.strings_Join Tryz.lays156 Tryz.Builder_Extra_156 bk o c xs sep w hcells hbk hN hcap hlen
def Tryz.lays103_ren : Go.Shelf.Ren:=⟨fun | 103=>219 | 210=>280 | 206=>68 | n=>n,fun | 9=>9 | 4=>4 | 24=>208 | 3=>3 | n=>n,fun | n=>n⟩
theorem Tryz.lays103 : Go.Proofs.Lays.n103 Tryz.prog Tryz.lays103_ren:={
  mixed:=kq
  f103:=Tryz.func219.trans (congrArg some kq)
  f206:=Tryz.func68.trans (congrArg some kq)
  f210:=Tryz.func280.trans (congrArg some kq)
  t3:=Tryz.underlying3
  a3:=Tryz.isAgg3
  z3:=Tryz.sizeOf3
  v3:=Tryz.zeroValue3
  t4:=Tryz.underlying4
  a4:=Tryz.isAgg4
  z4:=Tryz.sizeOf4
  v4:=Tryz.zeroValue4
  t9:=Tryz.underlying9
  a9:=Tryz.isAgg9
  z9:=Tryz.sizeOf9
  v9:=Tryz.zeroValue9
  t24:=Tryz.underlying208
  a24:=Tryz.isAgg208
  z24:=Tryz.sizeOf208
  v24:=Tryz.zeroValue208 }
open Go.RowKit in
theorem Tryz.strings_CutPrefix (s p : ByteArray) (w : World) :
    Calls Tryz.prog 219 #[.string s,.string p] w fun e w'=>e = .returned (.tuple #[.string ⟨(Lib.trimPrefix s.data.toList p.data.toList).toArray⟩,.bool (Lib.hasPrefix s.data.toList p.data.toList)]) ∧ w' = w:=Any.strings_CutPrefix Tryz.lays103 s p w
def Tryz.lays104_ren : Go.Shelf.Ren:=⟨fun | 104=>267 | 211=>298 | 207=>320 | n=>n,fun | 9=>9 | 4=>4 | 24=>208 | 3=>3 | n=>n,fun | n=>n⟩
theorem Tryz.lays104 : Go.Proofs.Lays.n104 Tryz.prog Tryz.lays104_ren:={
  mixed:=kq
  f104:=Tryz.func267.trans (congrArg some kq)
  f207:=Tryz.func320.trans (congrArg some kq)
  f211:=Tryz.func298.trans (congrArg some kq)
  t3:=Tryz.underlying3
  a3:=Tryz.isAgg3
  z3:=Tryz.sizeOf3
  v3:=Tryz.zeroValue3
  t4:=Tryz.underlying4
  a4:=Tryz.isAgg4
  z4:=Tryz.sizeOf4
  v4:=Tryz.zeroValue4
  t9:=Tryz.underlying9
  a9:=Tryz.isAgg9
  z9:=Tryz.sizeOf9
  v9:=Tryz.zeroValue9
  t24:=Tryz.underlying208
  a24:=Tryz.isAgg208
  z24:=Tryz.sizeOf208
  v24:=Tryz.zeroValue208 }
open Go.RowKit in
theorem Tryz.strings_CutSuffix (s p : ByteArray) (w : World) (hs : s.size ≤ 9223372036854775807) :
    Calls Tryz.prog 267 #[.string s,.string p] w fun e w'=>e = .returned (.tuple #[.string ⟨(Lib.trimSuffix s.data.toList p.data.toList).toArray⟩,.bool (Lib.hasSuffix s.data.toList p.data.toList)]) ∧ w' = w:=Any.strings_CutSuffix Tryz.lays104 s p w hs
def Tryz.laysM171_ren : Go.Shelf.Ren:=⟨fun | 171=>123 | 243=>238 | 246=>285 | 283=>302 | 284=>303 | 285=>304 | 286=>305 | 129=>322 | 317=>321 | 318=>323 | 319=>324 | 320=>325 | 337=>331 | 338=>332 | n=>n,fun | 3=>3 | 9=>9 | 2=>2 | 4=>4 | 171=>278 | 0=>0 | 53=>106 | 37=>97 | 5=>5 | 173=>280 | 212=>296 | 51=>256 | 20=>20 | 213=>297 | 46=>236 | 232=>316 | 233=>317 | n=>n,fun | 17=>3 | 18=>9 | 19=>10 | n=>n⟩
theorem Tryz.laysM171 : Go.Proofs.LaysM.n171 Tryz.prog Tryz.laysM171_ren:={
  mixed:=kq
  f129:=Tryz.func322.trans (congrArg some kq)
  f171:=Tryz.func123.trans (congrArg some kq)
  f243:=Tryz.func238.trans (congrArg some kq)
  f246:=Tryz.func285.trans (congrArg some kq)
  f283:=Tryz.func302.trans (congrArg some kq)
  f284:=Tryz.func303.trans (congrArg some kq)
  f285:=Tryz.func304.trans (congrArg some kq)
  f286:=Tryz.func305.trans (congrArg some kq)
  f317:=Tryz.func321.trans (congrArg some kq)
  f318:=Tryz.func323.trans (congrArg some kq)
  f319:=Tryz.func324.trans (congrArg some kq)
  f320:=Tryz.func325.trans (congrArg some kq)
  f337:=Tryz.func331.trans (congrArg some kq)
  f338:=Tryz.func332.trans (congrArg some kq)
  t0:=Tryz.underlying0
  a0:=Tryz.isAgg0
  z0:=Tryz.sizeOf0
  v0:=Tryz.zeroValue0
  t2:=Tryz.underlying2
  a2:=Tryz.isAgg2
  z2:=Tryz.sizeOf2
  v2:=Tryz.zeroValue2
  t3:=Tryz.underlying3
  a3:=Tryz.isAgg3
  z3:=Tryz.sizeOf3
  v3:=Tryz.zeroValue3
  t4:=Tryz.underlying4
  a4:=Tryz.isAgg4
  z4:=Tryz.sizeOf4
  v4:=Tryz.zeroValue4
  t5:=Tryz.underlying5
  a5:=Tryz.isAgg5
  z5:=Tryz.sizeOf5
  v5:=Tryz.zeroValue5
  t9:=Tryz.underlying9
  a9:=Tryz.isAgg9
  z9:=Tryz.sizeOf9
  v9:=Tryz.zeroValue9
  t20:=Tryz.underlying20
  a20:=Tryz.isAgg20
  z20:=Tryz.sizeOf20
  v20:=Tryz.zeroValue20
  t37:=Tryz.underlying97
  a37:=Tryz.isAgg97
  z37:=Tryz.sizeOf97
  v37:=Tryz.zeroValue97
  t46:=Tryz.underlying236
  a46:=Tryz.isAgg236
  z46:=Tryz.sizeOf236
  v46:=Tryz.zeroValue236
  t51:=Tryz.underlying256
  a51:=Tryz.isAgg256
  z51:=Tryz.sizeOf256
  v51:=Tryz.zeroValue256
  t53:=Tryz.underlying106
  a53:=Tryz.isAgg106
  z53:=Tryz.sizeOf106
  v53:=Tryz.zeroValue106
  t171:=Tryz.underlying278
  a171:=Tryz.isAgg278
  z171:=Tryz.sizeOf278
  v171:=Tryz.zeroValue278
  t173:=Tryz.underlying280
  a173:=Tryz.isAgg280
  z173:=Tryz.sizeOf280
  v173:=Tryz.zeroValue280
  t212:=Tryz.underlying296
  a212:=Tryz.isAgg296
  z212:=Tryz.sizeOf296
  v212:=Tryz.zeroValue296
  t213:=Tryz.underlying297
  a213:=Tryz.isAgg297
  z213:=Tryz.sizeOf297
  t232:=Tryz.underlying316
  a232:=Tryz.isAgg316
  z232:=Tryz.sizeOf316
  v232:=Tryz.zeroValue316
  t233:=Tryz.underlying317
  a233:=Tryz.isAgg317
  z233:=Tryz.sizeOf317
  v233:=Tryz.zeroValue317
  g17:=kq
  g18:=kq
  g19:=kq
  i0:=kq
  i2:=kq
  i3:=kq
  i4:=kq
  i5:=kq
  i9:=kq
  i20:=kq
  i37:=kq
  i46:=kq
  i51:=kq
  i53:=kq
  i171:=kq
  i173:=kq
  i212:=kq
  i232:=kq
  i233:=kq
  m17:=kq
  m18:=kq
  m19:=kq }
open Go.RowKit Go.Sort Go.Lib in
theorem Tryz.strconv_Itoa (n : Int) (h0 : -9223372036854775808 ≤ n) (h1 : n ≤ 9223372036854775807) (w : World) (htab : Lib.TabIs Tryz.prog w "internal/strconv.uint64pow10" .u64 Lib.pow10Tab) :
    Calls Tryz.prog 123 #[.int .i64 n] w fun e w'=>e = .returned (.string ⟨(Lib.itoa n).toArray⟩) ∧ ∃ k os,w' = grow (w.drewN k) os:=Any.strconv_Itoa Tryz.laysM171 n h0 h1 w htab
def Tryz.laysC172_ren : Go.Shelf.Ren:=⟨fun | 172=>255 | 244=>292 | 245=>293 | 247=>309 | 279=>310 | 280=>311 | 281=>312 | 282=>313 | 287=>295 | 316=>327 | 171=>123 | 205=>328 | 321=>314 | 322=>315 | 243=>238 | 246=>285 | 283=>302 | 284=>303 | 285=>304 | 286=>305 | 129=>322 | 317=>321 | 318=>323 | 319=>324 | 320=>325 | 337=>331 | 338=>332 | n=>n,fun | 9=>9 | 3=>3 | 75=>139 | 76=>140 | 4=>4 | 5=>5 | 167=>284 | 37=>97 | 0=>0 | 85=>285 | 2=>2 | 168=>287 | 53=>106 | 175=>248 | 46=>236 | 210=>300 | 127=>199 | 145=>312 | 143=>310 | 21=>21 | 171=>278 | 173=>280 | 212=>296 | 51=>256 | 20=>20 | 213=>297 | 232=>316 | 233=>317 | 80=>142 | n=>n,fun | 15=>4 | 16=>5 | 17=>3 | 18=>9 | 19=>10 | n=>n⟩
theorem Tryz.laysC172 : Go.Proofs.LaysC.n172 Tryz.prog Tryz.laysC172_ren:={
  mixed:=kq
  f129:=Tryz.func322.trans (congrArg some kq)
  f171:=Tryz.func123.trans (congrArg some kq)
  f172:=Tryz.func255.trans (congrArg some kq)
  f205:=Tryz.func328.trans (congrArg some kq)
  f243:=Tryz.func238.trans (congrArg some kq)
  f244:=Tryz.func292.trans (congrArg some kq)
  f245:=Tryz.func293.trans (congrArg some kq)
  f246:=Tryz.func285.trans (congrArg some kq)
  f247:=Tryz.func309.trans (congrArg some kq)
  f279:=Tryz.func310.trans (congrArg some kq)
  f280:=Tryz.func311.trans (congrArg some kq)
  f281:=Tryz.func312.trans (congrArg some kq)
  f282:=Tryz.func313.trans (congrArg some kq)
  f283:=Tryz.func302.trans (congrArg some kq)
  f284:=Tryz.func303.trans (congrArg some kq)
  f285:=Tryz.func304.trans (congrArg some kq)
  f286:=Tryz.func305.trans (congrArg some kq)
  f287:=Tryz.func295.trans (congrArg some kq)
  f316:=Tryz.func327.trans (congrArg some kq)
  f317:=Tryz.func321.trans (congrArg some kq)
  f318:=Tryz.func323.trans (congrArg some kq)
  f319:=Tryz.func324.trans (congrArg some kq)
  f320:=Tryz.func325.trans (congrArg some kq)
  f321:=Tryz.func314.trans (congrArg some kq)
  f322:=Tryz.func315.trans (congrArg some kq)
  f337:=Tryz.func331.trans (congrArg some kq)
  f338:=Tryz.func332.trans (congrArg some kq)
  t0:=Tryz.underlying0
  a0:=Tryz.isAgg0
  z0:=Tryz.sizeOf0
  v0:=Tryz.zeroValue0
  t2:=Tryz.underlying2
  a2:=Tryz.isAgg2
  z2:=Tryz.sizeOf2
  v2:=Tryz.zeroValue2
  t3:=Tryz.underlying3
  a3:=Tryz.isAgg3
  z3:=Tryz.sizeOf3
  v3:=Tryz.zeroValue3
  t4:=Tryz.underlying4
  a4:=Tryz.isAgg4
  z4:=Tryz.sizeOf4
  v4:=Tryz.zeroValue4
  t5:=Tryz.underlying5
  a5:=Tryz.isAgg5
  z5:=Tryz.sizeOf5
  v5:=Tryz.zeroValue5
  t9:=Tryz.underlying9
  a9:=Tryz.isAgg9
  z9:=Tryz.sizeOf9
  v9:=Tryz.zeroValue9
  t20:=Tryz.underlying20
  a20:=Tryz.isAgg20
  z20:=Tryz.sizeOf20
  v20:=Tryz.zeroValue20
  t21:=Tryz.underlying21
  a21:=Tryz.isAgg21
  z21:=Tryz.sizeOf21
  v21:=Tryz.zeroValue21
  t37:=Tryz.underlying97
  a37:=Tryz.isAgg97
  z37:=Tryz.sizeOf97
  v37:=Tryz.zeroValue97
  t46:=Tryz.underlying236
  a46:=Tryz.isAgg236
  z46:=Tryz.sizeOf236
  v46:=Tryz.zeroValue236
  t51:=Tryz.underlying256
  a51:=Tryz.isAgg256
  z51:=Tryz.sizeOf256
  v51:=Tryz.zeroValue256
  t53:=Tryz.underlying106
  a53:=Tryz.isAgg106
  z53:=Tryz.sizeOf106
  v53:=Tryz.zeroValue106
  t75:=Tryz.underlying139
  a75:=Tryz.isAgg139
  z75:=Tryz.sizeOf139
  v75:=Tryz.zeroValue139
  t76:=Tryz.underlying140
  a76:=Tryz.isAgg140
  z76:=Tryz.sizeOf140
  v76:=Tryz.zeroValue140
  t85:=Tryz.underlying285
  a85:=Tryz.isAgg285
  z85:=Tryz.sizeOf285
  v85:=Tryz.zeroValue285
  t127:=Tryz.underlying199
  a127:=Tryz.isAgg199
  z127:=Tryz.sizeOf199
  v127:=Tryz.zeroValue199
  t143:=Tryz.underlying310
  a143:=Tryz.isAgg310
  z143:=Tryz.sizeOf310
  v143:=Tryz.zeroValue310
  t145:=Tryz.underlying312
  a145:=Tryz.isAgg312
  z145:=Tryz.sizeOf312
  v145:=Tryz.zeroValue312
  t167:=Tryz.underlying284
  a167:=Tryz.isAgg284
  z167:=Tryz.sizeOf284
  v167:=Tryz.zeroValue284
  t168:=Tryz.underlying287
  a168:=Tryz.isAgg287
  z168:=Tryz.sizeOf287
  v168:=Tryz.zeroValue287
  t171:=Tryz.underlying278
  a171:=Tryz.isAgg278
  z171:=Tryz.sizeOf278
  v171:=Tryz.zeroValue278
  t173:=Tryz.underlying280
  a173:=Tryz.isAgg280
  z173:=Tryz.sizeOf280
  v173:=Tryz.zeroValue280
  t175:=Tryz.underlying248
  a175:=Tryz.isAgg248
  z175:=Tryz.sizeOf248
  v175:=Tryz.zeroValue248
  t210:=Tryz.underlying300
  a210:=Tryz.isAgg300
  z210:=Tryz.sizeOf300
  v210:=Tryz.zeroValue300
  t212:=Tryz.underlying296
  a212:=Tryz.isAgg296
  z212:=Tryz.sizeOf296
  v212:=Tryz.zeroValue296
  t213:=Tryz.underlying297
  a213:=Tryz.isAgg297
  z213:=Tryz.sizeOf297
  t232:=Tryz.underlying316
  a232:=Tryz.isAgg316
  z232:=Tryz.sizeOf316
  v232:=Tryz.zeroValue316
  t233:=Tryz.underlying317
  a233:=Tryz.isAgg317
  z233:=Tryz.sizeOf317
  v233:=Tryz.zeroValue317
  g15:=kq
  g16:=kq
  g17:=kq
  g18:=kq
  g19:=kq
  t80:=Tryz.underlying142
  a80:=Tryz.isAgg142
  z80:=Tryz.sizeOf142
  v80:=Tryz.zeroValue142
  i0:=kq
  i2:=kq
  i3:=kq
  i4:=kq
  i5:=kq
  i9:=kq
  i20:=kq
  i21:=kq
  i37:=kq
  i46:=kq
  i51:=kq
  i53:=kq
  i75:=kq
  i76:=kq
  i80:=kq
  i85:=kq
  i127:=kq
  i143:=kq
  i145:=kq
  i167:=kq
  i168:=kq
  i171:=kq
  i173:=kq
  i175:=kq
  i210:=kq
  i212:=kq
  i232:=kq
  i233:=kq
  m15:=kq
  m16:=kq
  m17:=kq
  m18:=kq
  m19:=kq
  c0:=kq
  c2:=kq
  c3:=kq
  c4:=kq
  c5:=kq
  c9:=kq
  c20:=kq
  c21:=kq
  c37:=kq
  c46:=kq
  c51:=kq
  c53:=kq
  c75:=kq
  c76:=kq
  c80:=kq
  c85:=kq
  c127:=kq
  c143:=kq
  c145:=kq
  c167:=kq
  c168:=kq
  c171:=kq
  c173:=kq
  c175:=kq
  c210:=kq
  c212:=kq
  c213:=kq
  c232:=kq
  c233:=kq }
open Go.RowKit in
theorem Tryz.strconv_Atoi_ok (s : ByteArray) (hmax : s.size ≤ 9223372036854775806) (v : Int) (h : Lib.atoiAll s.data.toList = .ok v) (w : World) :
    Calls Tryz.prog 255 #[.string s] w fun e w'=>e = .returned (.tuple #[.int .i64 v,.nilIface]) ∧ (w' = w ∨ ∃ t,w' = Lib.bytesWorld w 5 t):=Any.strconv_Atoi_ok Tryz.laysC172 s hmax v h w
open Go.RowKit in
theorem Tryz.strconv_Atoi_syntax_var (s : ByteArray) (hlim : s.size ≤ 281474976710656) (h0 : (∀ v,Lib.atoiAll s.data.toList ≠ .ok v) ∧ Lib.atoiAll s.data.toList ≠ .range) (tp : TypeId) (p : Value) (w : World) (hvar : w.var? Tryz.prog "strconv.ErrSyntax" = some #[.iface tp p]) :
    Calls Tryz.prog 255 #[.string s] w fun e w'=>∃ N,e = .returned (.tuple #[.int .i64 0,.iface 287 (.pointer (some ⟨N,0,none⟩))]) ∧ w.heap.size ≤ N ∧ w'.heap[N]? = some (.cells #[.string ⟨#[65,116,111,105]⟩,.string s,.iface tp p] 300 (0,0)) ∧ Below w.heap.size w w':=Any.strconv_Atoi_syntax_var Tryz.laysC172 s hlim (by
      cases e : Lib.atoiAll s.data.toList <;> first | rfl | exact absurd e (h0.1 _) | exact absurd e h0.2) tp p w hvar
open Go.RowKit in
theorem Tryz.strconv_Atoi_range_var (s : ByteArray) (hlim : s.size ≤ 281474976710656) (h : Lib.atoiAll s.data.toList = .range) (tp : TypeId) (p : Value) (w : World) (hvar : w.var? Tryz.prog "strconv.ErrRange" = some #[.iface tp p]) :
    Calls Tryz.prog 255 #[.string s] w fun e w'=>∃ N,e = .returned (.tuple #[.int .i64 (Lib.atoiSat s.data.toList),.iface 287 (.pointer (some ⟨N,0,none⟩))]) ∧ w.heap.size ≤ N ∧ w'.heap[N]? = some (.cells #[.string ⟨#[65,116,111,105]⟩,.string s,.iface tp p] 300 (0,0)) ∧ Below w.heap.size w w':=Any.strconv_Atoi_range_var Tryz.laysC172 s hlim h tp p w hvar
def Tryz.lays145_ren : Go.Shelf.Ren:=⟨fun | 145=>79 | 220=>148 | 219=>150 | 217=>250 | 225=>251 | 224=>252 | 267=>253 | 266=>289 | 314=>290 | n=>n,fun | 9=>9 | 4=>4 | 59=>144 | 3=>3 | 5=>5 | 46=>236 | 146=>260 | 51=>256 | n=>n,fun | 1=>1 | n=>n⟩
theorem Tryz.lays145 : Go.Proofs.Lays.n145 Tryz.prog Tryz.lays145_ren:={
  mixed:=kq
  f145:=Tryz.func79.trans (congrArg some kq)
  f217:=Tryz.func250.trans (congrArg some kq)
  f219:=Tryz.func150.trans (congrArg some kq)
  f220:=Tryz.func148.trans (congrArg some kq)
  f224:=Tryz.func252.trans (congrArg some kq)
  f225:=Tryz.func251.trans (congrArg some kq)
  f266:=Tryz.func289.trans (congrArg some kq)
  f267:=Tryz.func253.trans (congrArg some kq)
  f314:=Tryz.func290.trans (congrArg some kq)
  t3:=Tryz.underlying3
  a3:=Tryz.isAgg3
  z3:=Tryz.sizeOf3
  v3:=Tryz.zeroValue3
  t4:=Tryz.underlying4
  a4:=Tryz.isAgg4
  z4:=Tryz.sizeOf4
  v4:=Tryz.zeroValue4
  t5:=Tryz.underlying5
  a5:=Tryz.isAgg5
  z5:=Tryz.sizeOf5
  v5:=Tryz.zeroValue5
  t9:=Tryz.underlying9
  a9:=Tryz.isAgg9
  z9:=Tryz.sizeOf9
  v9:=Tryz.zeroValue9
  t46:=Tryz.underlying236
  a46:=Tryz.isAgg236
  z46:=Tryz.sizeOf236
  v46:=Tryz.zeroValue236
  t51:=Tryz.underlying256
  a51:=Tryz.isAgg256
  z51:=Tryz.sizeOf256
  v51:=Tryz.zeroValue256
  t59:=Tryz.underlying144
  a59:=Tryz.isAgg144
  z59:=Tryz.sizeOf144
  v59:=Tryz.zeroValue144
  t146:=Tryz.underlying260
  a146:=Tryz.isAgg260
  z146:=Tryz.sizeOf260
  v146:=Tryz.zeroValue260
  g1:=kq }
open Go.RowKit Go.Lib in
theorem Tryz.strings_Cut (s sep : ByteArray) (m : Int) (w : World) (hs : s.size < 4294967281) (hm : w.cell? ⟨1,0,none⟩ = some (.int .i64 m)) :
    Calls Tryz.prog 79 #[.string s,.string sep] w fun e w'=>e = .returned (.tuple #[.string ⟨(Lib.cut s.data.toList sep.data.toList).1.toArray⟩,.string ⟨(Lib.cut s.data.toList sep.data.toList).2.1.toArray⟩,.bool (Lib.cut s.data.toList sep.data.toList).2.2]) ∧ ∃ n,w' = w.drewN n:=Any.strings_Cut Tryz.lays145 s sep m w hs hm
def Tryz.lays99_ren : Go.Shelf.Ren:=⟨fun | 99=>27 | 206=>68 | n=>n,fun | 9=>9 | 4=>4 | 3=>3 | n=>n,fun | n=>n⟩
def Tryz.lays101_ren : Go.Shelf.Ren:=⟨fun | 101=>254 | 208=>291 | 206=>68 | n=>n,fun | 9=>9 | 4=>4 | 3=>3 | n=>n,fun | n=>n⟩
theorem Tryz.lays101 : Go.Proofs.Lays.n101 Tryz.prog Tryz.lays101_ren:={
  mixed:=kq
  f101:=Tryz.func254.trans (congrArg some kq)
  f206:=Tryz.func68.trans (congrArg some kq)
  f208:=Tryz.func291.trans (congrArg some kq)
  t3:=Tryz.underlying3
  a3:=Tryz.isAgg3
  z3:=Tryz.sizeOf3
  v3:=Tryz.zeroValue3
  t4:=Tryz.underlying4
  a4:=Tryz.isAgg4
  z4:=Tryz.sizeOf4
  v4:=Tryz.zeroValue4
  t9:=Tryz.underlying9
  a9:=Tryz.isAgg9
  z9:=Tryz.sizeOf9
  v9:=Tryz.zeroValue9 }
open Go.RowKit Go.Lib in
theorem Tryz.strings_TrimPrefix (s p : ByteArray) (w : World) :
    Calls Tryz.prog 254 #[.string s,.string p] w fun e w'=>e = .returned (.string ⟨(Lib.trimPrefix s.data.toList p.data.toList).toArray⟩) ∧ w' = w:=Any.strings_TrimPrefix Tryz.lays101 s p w
def Tryz.lays146_ren : Go.Shelf.Ren:=⟨fun | 146=>128 | 221=>239 | 268=>286 | 138=>287 | 143=>84 | 195=>306 | 197=>307 | 218=>308 | 219=>150 | 260=>326 | 217=>250 | 225=>251 | 224=>252 | 267=>253 | 266=>289 | 314=>290 | n=>n,fun | 9=>9 | 31=>118 | 3=>3 | 4=>4 | 0=>0 | 105=>282 | 21=>21 | 5=>5 | 46=>236 | 119=>229 | 139=>309 | 138=>308 | 146=>260 | 51=>256 | n=>n,fun | 1=>1 | 3=>7 | 4=>8 | n=>n⟩
theorem Tryz.lays146 : Go.Proofs.Lays.n146 Tryz.prog Tryz.lays146_ren:={
  mixed:=kq
  f138:=Tryz.func287.trans (congrArg some kq)
  f143:=Tryz.func84.trans (congrArg some kq)
  f146:=Tryz.func128.trans (congrArg some kq)
  f195:=Tryz.func306.trans (congrArg some kq)
  f197:=Tryz.func307.trans (congrArg some kq)
  f217:=Tryz.func250.trans (congrArg some kq)
  f218:=Tryz.func308.trans (congrArg some kq)
  f219:=Tryz.func150.trans (congrArg some kq)
  f221:=Tryz.func239.trans (congrArg some kq)
  f224:=Tryz.func252.trans (congrArg some kq)
  f225:=Tryz.func251.trans (congrArg some kq)
  f260:=Tryz.func326.trans (congrArg some kq)
  f266:=Tryz.func289.trans (congrArg some kq)
  f267:=Tryz.func253.trans (congrArg some kq)
  f268:=Tryz.func286.trans (congrArg some kq)
  f314:=Tryz.func290.trans (congrArg some kq)
  t0:=Tryz.underlying0
  a0:=Tryz.isAgg0
  z0:=Tryz.sizeOf0
  v0:=Tryz.zeroValue0
  t3:=Tryz.underlying3
  a3:=Tryz.isAgg3
  z3:=Tryz.sizeOf3
  v3:=Tryz.zeroValue3
  t4:=Tryz.underlying4
  a4:=Tryz.isAgg4
  z4:=Tryz.sizeOf4
  v4:=Tryz.zeroValue4
  t5:=Tryz.underlying5
  a5:=Tryz.isAgg5
  z5:=Tryz.sizeOf5
  v5:=Tryz.zeroValue5
  t9:=Tryz.underlying9
  a9:=Tryz.isAgg9
  z9:=Tryz.sizeOf9
  v9:=Tryz.zeroValue9
  t21:=Tryz.underlying21
  a21:=Tryz.isAgg21
  z21:=Tryz.sizeOf21
  v21:=Tryz.zeroValue21
  t31:=Tryz.underlying118
  a31:=Tryz.isAgg118
  z31:=Tryz.sizeOf118
  v31:=Tryz.zeroValue118
  t46:=Tryz.underlying236
  a46:=Tryz.isAgg236
  z46:=Tryz.sizeOf236
  v46:=Tryz.zeroValue236
  t51:=Tryz.underlying256
  a51:=Tryz.isAgg256
  z51:=Tryz.sizeOf256
  v51:=Tryz.zeroValue256
  t105:=Tryz.underlying282
  a105:=Tryz.isAgg282
  z105:=Tryz.sizeOf282
  v105:=Tryz.zeroValue282
  t119:=Tryz.underlying229
  a119:=Tryz.isAgg229
  z119:=Tryz.sizeOf229
  t138:=Tryz.underlying308
  a138:=Tryz.isAgg308
  z138:=Tryz.sizeOf308
  v138:=Tryz.zeroValue308
  t139:=Tryz.underlying309
  a139:=Tryz.isAgg309
  z139:=Tryz.sizeOf309
  v139:=Tryz.zeroValue309
  t146:=Tryz.underlying260
  a146:=Tryz.isAgg260
  z146:=Tryz.sizeOf260
  v146:=Tryz.zeroValue260
  g1:=kq
  g3:=kq
  g4:=kq }
open Go.RowKit Go.Lib in
theorem Tryz.strings_Split (s sep : ByteArray) (m : Int) (w : World) (hs : s.size < 4294967281) (hm : w.cell? ⟨1,0,none⟩ = some (.int .i64 m)) (h1 : 1 ≤ sep.size) :
    Calls Tryz.prog 128 #[.string s,.string sep] w fun e w' =>
      e = .returned (.slice (some ⟨w.heap.size,0,none⟩) (Lib.countB s sep + 1) (Lib.countB s sep + 1)) ∧ w' = w.alloc (.cells ((Lib.splitB sep 0 (Lib.countB s sep) s).map Value.string).toArray 9):=Any.strings_Split Tryz.lays146 kq s sep m w hs hm h1
def Tryz.lays157_ren : Go.Shelf.Ren:=⟨fun | 157=>114 | 229=>233 | 199=>234 | 261=>283 | 311=>299 | 312=>300 | n=>n,fun | 9=>9 | 31=>118 | 3=>3 | 5=>5 | 4=>4 | 119=>229 | 0=>0 | 40=>231 | 152=>253 | 21=>21 | 154=>255 | 51=>256 | 141=>258 | 196=>269 | 193=>266 | 198=>272 | 49=>270 | 194=>267 | 201=>275 | 226=>293 | 46=>236 | 227=>294 | n=>n,fun | 0=>0 | 6=>2 | n=>n⟩
theorem Tryz.lays157 : Go.Proofs.Lays.n157 Tryz.prog Tryz.lays157_ren:={
  mixed:=kq
  f157:=Tryz.func114.trans (congrArg some kq)
  f199:=Tryz.func234.trans (congrArg some kq)
  f229:=Tryz.func233.trans (congrArg some kq)
  f261:=Tryz.func283.trans (congrArg some kq)
  f311:=Tryz.func299.trans (congrArg some kq)
  f312:=Tryz.func300.trans (congrArg some kq)
  t0:=Tryz.underlying0
  a0:=Tryz.isAgg0
  z0:=Tryz.sizeOf0
  v0:=Tryz.zeroValue0
  t3:=Tryz.underlying3
  a3:=Tryz.isAgg3
  z3:=Tryz.sizeOf3
  v3:=Tryz.zeroValue3
  t4:=Tryz.underlying4
  a4:=Tryz.isAgg4
  z4:=Tryz.sizeOf4
  v4:=Tryz.zeroValue4
  t5:=Tryz.underlying5
  a5:=Tryz.isAgg5
  z5:=Tryz.sizeOf5
  v5:=Tryz.zeroValue5
  t9:=Tryz.underlying9
  a9:=Tryz.isAgg9
  z9:=Tryz.sizeOf9
  v9:=Tryz.zeroValue9
  t21:=Tryz.underlying21
  a21:=Tryz.isAgg21
  z21:=Tryz.sizeOf21
  v21:=Tryz.zeroValue21
  t31:=Tryz.underlying118
  a31:=Tryz.isAgg118
  z31:=Tryz.sizeOf118
  v31:=Tryz.zeroValue118
  t40:=Tryz.underlying231
  a40:=Tryz.isAgg231
  z40:=Tryz.sizeOf231
  v40:=Tryz.zeroValue231
  t46:=Tryz.underlying236
  a46:=Tryz.isAgg236
  z46:=Tryz.sizeOf236
  v46:=Tryz.zeroValue236
  t49:=Tryz.underlying270
  a49:=Tryz.isAgg270
  z49:=Tryz.sizeOf270
  v49:=Tryz.zeroValue270
  t51:=Tryz.underlying256
  a51:=Tryz.isAgg256
  z51:=Tryz.sizeOf256
  v51:=Tryz.zeroValue256
  t119:=Tryz.underlying229
  a119:=Tryz.isAgg229
  z119:=Tryz.sizeOf229
  t141:=Tryz.underlying258
  a141:=Tryz.isAgg258
  z141:=Tryz.sizeOf258
  v141:=Tryz.zeroValue258
  t152:=Tryz.underlying253
  a152:=Tryz.isAgg253
  z152:=Tryz.sizeOf253
  v152:=Tryz.zeroValue253
  t154:=Tryz.underlying255
  a154:=Tryz.isAgg255
  z154:=Tryz.sizeOf255
  v154:=Tryz.zeroValue255
  t193:=Tryz.underlying266
  a193:=Tryz.isAgg266
  z193:=Tryz.sizeOf266
  v193:=Tryz.zeroValue266
  t194:=Tryz.underlying267
  a194:=Tryz.isAgg267
  z194:=Tryz.sizeOf267
  v194:=Tryz.zeroValue267
  t196:=Tryz.underlying269
  a196:=Tryz.isAgg269
  z196:=Tryz.sizeOf269
  v196:=Tryz.zeroValue269
  t198:=Tryz.underlying272
  a198:=Tryz.isAgg272
  z198:=Tryz.sizeOf272
  v198:=Tryz.zeroValue272
  t201:=Tryz.underlying275
  a201:=Tryz.isAgg275
  z201:=Tryz.sizeOf275
  v201:=Tryz.zeroValue275
  t226:=Tryz.underlying293
  a226:=Tryz.isAgg293
  z226:=Tryz.sizeOf293
  v226:=Tryz.zeroValue293
  t227:=Tryz.underlying294
  a227:=Tryz.isAgg294
  z227:=Tryz.sizeOf294
  v227:=Tryz.zeroValue294
  g0:=kq
  g6:=kq }
open Go.RowKit Go.Lib in
theorem Tryz.strings_Fields (s : ByteArray) (w : World) (hs : s.size < 4294967281) (hascii : ∀ (j : Nat) b,s.data.toList[j]? = some b → b.toNat < 128) (htab : Lib.TabIs Tryz.prog w "strings.asciiSpace" .u8 Lib.asciiSpaceTab) :
    Calls Tryz.prog 114 #[.string s] w fun e w' =>
      e = .returned (.slice (some ⟨w.heap.size,0,none⟩) (Lib.fields s.data.toList).length (Lib.fields s.data.toList).length) ∧ w' = w.alloc (.cells ((Lib.fields s.data.toList).map fun l=>Value.string ⟨l.toArray⟩).toArray 9):=Any.strings_Fields Tryz.lays157 kq kq s w hs hascii htab
def Tryz.laysNm225_ren : Go.Shelf.Ren:=⟨fun | 25=>137 | 31=>241 | 32=>242 | 37=>288 | n=>n,fun | 22=>27 | 3=>3 | 4=>4 | 40=>236 | 0=>0 | n=>n,fun | n=>n⟩
theorem Tryz.laysNm225 : Go.Proofs.Lays2.n25 Tryz.prog Tryz.laysNm225_ren:={
  mixed:=kq
  f25:=Tryz.func137.trans (congrArg some kq)
  f31:=Tryz.func241.trans (congrArg some kq)
  f32:=Tryz.func242.trans (congrArg some kq)
  f37:=Tryz.func288.trans (congrArg some kq)
  t0:=Tryz.underlying0
  a0:=Tryz.isAgg0
  z0:=Tryz.sizeOf0
  v0:=Tryz.zeroValue0
  t3:=Tryz.underlying3
  a3:=Tryz.isAgg3
  z3:=Tryz.sizeOf3
  v3:=Tryz.zeroValue3
  t4:=Tryz.underlying4
  a4:=Tryz.isAgg4
  z4:=Tryz.sizeOf4
  v4:=Tryz.zeroValue4
  t22:=Tryz.underlying27
  a22:=Tryz.isAgg27
  z22:=Tryz.sizeOf27
  v22:=Tryz.zeroValue27
  t40:=Tryz.underlying236
  a40:=Tryz.isAgg236
  z40:=Tryz.sizeOf236
  v40:=Tryz.zeroValue236 }
open Go.RowKit Go.Lib in
theorem Tryz.slices_BinarySearch_int (b off n c : Nat) (zs : List Int) (x : Int) (w : World) (hz : n ≤ zs.length) (hbig : n < 4611686018427387904) (hc : ∀ j,j < zs.length → w.cell? ⟨b,off + j,none⟩ = some (.int .i64 (zs.getD j 0))) (hs : (zs.take n).Pairwise (· ≤ ·)) :
    Calls Tryz.prog 137 #[.slice (some ⟨b,off,none⟩) n c,.int .i64 x] w fun e w'=>e = .returned (.tuple #[.int .i64 ((zs.take n).countP (· < x) : Nat),.bool ((zs.take n).contains x)]) ∧ ∃ q,w' = w.drewN q:=Any.slices_BinarySearch_int Tryz.laysNm225 b off n c zs x w hz hbig hc hs
end Go.Proofs
end
section
namespace Go.Proofs
open Go Go.RowKit
set_option maxHeartbeats 1000000 in
set_option maxRecDepth 100000 in
theorem copyCheck_used (b:Nat) (w:World) (h0:w.cell? ⟨b,0,none⟩=some (.pointer (some ⟨b,0,none⟩))) :
  Calls Tryz.prog 146 #[.pointer (some ⟨b,0,none⟩)] w fun e w'=>e=.returned (.tuple #[])∧w'=w:=by
 obtain ⟨j,hj⟩:∃ j,Tryz.prog.info? 137=some j:=Option.isSome_iff_exists.1 kq
 go_enter Tryz.func146,Tryz.ntmps146
 go_wp2
 rw [Lib.run_neq_ptr_same w _ Tryz.underlying135 hj]
 go_wp2
 go_end0
 exact ⟨rfl,rfl⟩
set_option maxHeartbeats 1000000 in
set_option maxRecDepth 100000 in
theorem copyCheck_new (b:Nat) (w:World) (v:Value) (h0:w.heap[b]?=some (.cells #[.pointer none,v] 137 (0,0))) :
  Calls Tryz.prog 146 #[.pointer (some ⟨b,0,none⟩)] w fun e w'=>e=.returned (.tuple #[])∧w'=w.setCell ⟨b,0,none⟩ (.pointer (some ⟨b,0,none⟩)):=by
 obtain ⟨j,hj⟩:∃ j,Tryz.prog.info? 137=some j:=Option.isSome_iff_exists.1 kq;have hjs:j.size=2:=by
  have:(Tryz.prog.info? 137).map (·.size)=some 2:=kq;rw [hj] at this; simpa using this
 have hc:w.cell? ⟨b,0,none⟩=some (.pointer none):=by rw [Lib.cell_of_heap h0]; rfl
 have hf:w.frozen? ⟨b,0,none⟩=false:=by simp [World.frozen?,h0]
 have hsh:w.shape? b=some (137,2):=by simp [World.shape?,h0]
 go_enter Tryz.func146,Tryz.ntmps146
 go_wp2
 rw [Lib.run_to_unsafe w ⟨b,0,none⟩ Tryz.underlying135 Tryz.underlying239 hj (by rw [hjs]; decide) hsh (Nat.zero_lt_succ 1)];simp only [Result.andThen];rw [Oper.upon_value]
 go_wp2
 rw [run_callFunc_extern Tryz.func249 kq kq kq (e:=Extern.AbiNoEscape.same) kq];rw [Lib.run_noEscape];simp only [Result.andThen];rw [Oper.upon_value]
 go_wp2
 rw [Lib.run_from_unsafe w ⟨b,0,none⟩ Tryz.underlying239 Tryz.underlying135 hj hsh kq];simp only [Result.andThen];rw [Oper.upon_value]
 go_wp2
 go_end0
 exact ⟨rfl,rfl⟩
set_option maxHeartbeats 2000000 in
set_option maxRecDepth 100000 in
theorem bldString (b g cap:Nat) (p:Value) (cur:Array Value) (l:List UInt8) (w:World) (h0:l≠[]) (hbk:w.heap[b]?=some (.cells #[p,.slice (some ⟨g,0,none⟩) l.length cap] 137 (0,0))) (hg:w.heap[g]?=some (.cells cur 5 (0,0)))
  (hle:l.length≤cur.size) (hcap:l.length≤cap) (hm:l.length≤140737488355328) (hcells:∀ j x,l[j]?=some x→w.cell? ⟨g,j,none⟩=some (.int .u8 x.toNat)) :
  Calls Tryz.prog 76 #[.pointer (some ⟨b,0,none⟩)] w fun e w'=>e=.returned (.string ⟨l.toArray⟩)∧w'=w.drew.freeze ⟨g,0,none⟩ l.length:=by
 have hl0:l.length≠0:=by simpa using h0
 have c1:w.drew.cell? ⟨b,1,none⟩=some (.slice (some ⟨g,0,none⟩) l.length cap):=by
  have:w.drew.heap[b]?=some (.cells #[p,.slice (some ⟨g,0,none⟩) l.length cap] 137 (0,0)):=hbk;rw [Lib.cell_of_heap this]; rfl
 have hSD:(Builtin.unsafeSliceData_ #[97] 199 #[.slice (some ⟨g,0,none⟩) l.length cap]).run Tryz.prog w.drew=.ok (.pointer (some ⟨g,0,none⟩)) w.drew :=
  Lib.run_unsafeSliceData_row _ _ _ _ _ _ (by omega)
 have hUS:(Builtin.unsafeString_ #[199,3] 9 #[.pointer (some ⟨g,0,none⟩),.int .i64 l.length]).run Tryz.prog w.drew=.ok (.string ⟨l.toArray⟩) (w.drew.freeze ⟨g,0,none⟩ l.length):=by
  refine Lib.run_unsafeString_row w.drew 199 3 9 5 Tryz.underlying199 kq g cur.size (by have hg':w.drew.heap[g]?=some (.cells cur 5 (0,0)):=hg; simp [World.shape?,hg']) l h0 (by omega) (by omega) (fun j x hx=>?_);have e:(⟨g,0,none⟩:Addr).add j=⟨g,j,none⟩:=by unfold Addr.add; split<;>simp_all
  rw [e]; exact hcells j x hx
 have mixed:Tryz.prog.follows .mixedOrders=true:=kq;clear hcells hle hcap hm hg hbk
 go_enter Tryz.func76,Tryz.ntmps76
 go_wp2
 go_region_o
 all_goals (go_wp2; go_ret; exact ⟨rfl,rfl⟩)
theorem unsafeString_none (W:World) (q:Option Addr):(Builtin.unsafeString_ #[199,3] 9 #[.pointer q,.int .i64 0]).run Tryz.prog W=.ok (.string .empty) W :=
 Lib.run_unsafeString_none W _ _ _ q
set_option maxHeartbeats 2000000 in
set_option maxRecDepth 100000 in
theorem bldString_nil (b:Nat) (p:Value) (w:World) (hbk:w.heap[b]?=some (.cells #[p,.slice none 0 0] 137 (0,0))) :
  Calls Tryz.prog 76 #[.pointer (some ⟨b,0,none⟩)] w fun e w'=>e=.returned (.string ⟨#[]⟩)∧w'=w.drew:=by
 have hUS:=unsafeString_none;have c1:w.drew.cell? ⟨b,1,none⟩=some (.slice none 0 0):=by
  have:w.drew.heap[b]?=some (.cells #[p,.slice none 0 0] 137 (0,0)):=hbk;rw [Lib.cell_of_heap this]; rfl
 have hSD:(Builtin.unsafeSliceData_ #[97] 199 #[.slice none 0 0]).run Tryz.prog w.drew=.ok (.pointer none) w.drew:=rfl;have mixed:Tryz.prog.follows .mixedOrders=true:=kq
 go_enter Tryz.func76,Tryz.ntmps76
 go_wp2
 go_region_o
 all_goals (go_wp2; go_ret; exact ⟨rfl,rfl⟩)
set_option maxHeartbeats 2000000 in
set_option maxRecDepth 100000 in
theorem bldString_noroom (b g:Nat) (p:Value) (cur:Array Value) (w:World) (hbk:w.heap[b]?=some (.cells #[p,.slice (some ⟨g,0,none⟩) 0 0] 137 (0,0))) (hg:w.heap[g]?=some (.cells cur 5 (0,0))) :
  Calls Tryz.prog 76 #[.pointer (some ⟨b,0,none⟩)] w fun e w'=>e=.returned (.string ⟨#[]⟩)∧w'=w.drew.alloc (.view ⟨g,0,none⟩ 5):=by
 have hUS:=unsafeString_none;have hlt:b<w.heap.size:=by
  rcases Nat.lt_or_ge b w.heap.size with h' | h'
  ·exact h'
  ·simp [Array.getElem?_eq_none h'] at hbk
 have c1:w.drew.cell? ⟨b,1,none⟩=some (.slice (some ⟨g,0,none⟩) 0 0):=by
  have:w.drew.heap[b]?=some (.cells #[p,.slice (some ⟨g,0,none⟩) 0 0] 137 (0,0)):=hbk;rw [Lib.cell_of_heap this]; rfl
 have hSD:(Builtin.unsafeSliceData_ #[97] 199 #[.slice (some ⟨g,0,none⟩) 0 0]).run Tryz.prog w.drew=.ok (.pointer (some ⟨w.drew.heap.size,0,none⟩)) (w.drew.alloc (.view ⟨g,0,none⟩ 5)) :=
  Lib.run_unsafeSliceData_zero w.drew _ _ 5 Tryz.underlying199 ⟨g,0,none⟩ 0 (5,cur.size) (by have hg':w.drew.heap[g]?=some (.cells cur 5 (0,0)):=hg; simp [World.shape?,hg'])
 have c2:(w.drew.alloc (.view ⟨g,0,none⟩ 5)).cell? ⟨b,1,none⟩=some (.slice (some ⟨g,0,none⟩) 0 0):=by
  have:(w.drew.alloc (.view ⟨g,0,none⟩ 5)).heap[b]?=_:=(Lib.alloc_old w.drew _ b hlt).trans hbk;rw [Lib.cell_of_heap this]; rfl
 have c3:(w.alloc (.view ⟨g,0,none⟩ 5)).drew.cell? ⟨b,1,none⟩=some (.slice (some ⟨g,0,none⟩) 0 0):=c2;have c0:w.cell? ⟨b,1,none⟩=some (.slice (some ⟨g,0,none⟩) 0 0):=c1;have mixed:Tryz.prog.follows .mixedOrders=true:=kq;clear hg hbk
 go_enter Tryz.func76,Tryz.ntmps76
 go_wp2
 go_region_o
 all_goals (go_wp2; go_ret; exact ⟨rfl,rfl⟩)
set_option maxHeartbeats 2000000 in
set_option maxRecDepth 100000 in
theorem bldString_room (b g cap:Nat) (p:Value) (w:World) (hc0:cap≠0) (hbk:w.heap[b]?=some (.cells #[p,.slice (some ⟨g,0,none⟩) 0 cap] 137 (0,0))) :
  Calls Tryz.prog 76 #[.pointer (some ⟨b,0,none⟩)] w fun e w'=>e=.returned (.string ⟨#[]⟩)∧w'=w.drew:=by
 have hUS:=unsafeString_none;have c1:w.drew.cell? ⟨b,1,none⟩=some (.slice (some ⟨g,0,none⟩) 0 cap):=by
  have:w.drew.heap[b]?=some (.cells #[p,.slice (some ⟨g,0,none⟩) 0 cap] 137 (0,0)):=hbk;rw [Lib.cell_of_heap this]; rfl
 have hSD:(Builtin.unsafeSliceData_ #[97] 199 #[.slice (some ⟨g,0,none⟩) 0 cap]).run Tryz.prog w.drew=.ok (.pointer (some ⟨g,0,none⟩)) w.drew :=
  Lib.run_unsafeSliceData_row _ _ _ _ _ _ hc0
 clear hc0;have mixed:Tryz.prog.follows .mixedOrders=true:=kq
 go_enter Tryz.func76,Tryz.ntmps76
 go_wp2
 go_region_o
 all_goals (go_wp2; go_ret; exact ⟨rfl,rfl⟩)
end Go.Proofs
end
section
namespace Go.SX
open Go
theorem CallsK.same {P:Program} {f:FuncId} {ys:List CV} {F:St} {v:RV} (ht:told F.next F.heap=true) (hp:F.pers=[]) (hv:v.wf F.W)
  (h:∀ ρ w,FSat ρ F w→Calls P f (ys.map (CV.den ρ)).toArray w (fun e w'=>e=.returned (v.den ρ)∧w'=w)):CallsK P f ys F (fun _:Unit=>True) (fun _=>v) (fun _=>F):=by
 intro ρ w hF;refine (h ρ w hF).mono ?_;rintro e w' ⟨rfl,rfl⟩;refine ⟨(),ρ,trivial,rfl,fun _ _=>rfl,Nat.le_refl _,fun b h1 h2=>absurd (Nat.lt_of_le_of_lt h1 h2) (Nat.lt_irrefl _),hF,fun b hb=>told_ok ht hb,hv,Chg.refl _ _,fun b blk _ h1 h2=>⟨blk,h1,h2⟩,fun r R hR k hk=>?_,fun q hq=>(by rw [hp] at hq; cases hq)⟩;cases ho:R.own with
 | true=>exact .inl ⟨rfl,.inr ⟨r,R,hR,ho,hk⟩⟩
 | false=>exact .inr (.inl ⟨rfl,r,R,hR,hk⟩)
end Go.SX
namespace Go.Proofs
open Go Go.SX
set_option maxRecDepth 10000
def bdX (x:SV) (l:List UInt8) (q:Option Addr) (cap:Nat):St :=
 { n:=0,slots:=[],gs:=[],heap:=[(0,⟨[x,.row 0 q l.length cap],137,true⟩)],next:=1,rows:=[(0,rowL bsv 0 l q cap 5 1 true)],nr:=1,pers:=[],wr:=false }
def bdF (l:List UInt8) (q:Option Addr) (cap:Nat):St:=bdX (.ptr 0 0) l q cap
def bdY (x y:SV):St:={ n:=0,slots:=[],gs:=[],heap:=[(0,⟨[x,y],137,true⟩)],next:=1,rows:=[],nr:=0,pers:=[],wr:=false }
def bdN:St:=bdY (.val (.pointer none)) (.val (.slice none 0 0))
def bdM:St:=bdY (.ptr 0 0) (.val (.slice none 0 0))
theorem cc_used (l:List UInt8) (q:Option Addr) (cap:Nat):CallsK Tryz.prog 146 [.one (.ptr 0 0)] (bdF l q cap) (fun _:Unit=>True) (fun _=>.tup []) (fun _=>bdF l q cap):=by
 refine CallsK.same rfl rfl (fun x hx=>(by cases hx)) (fun ρ w hF=>?_);obtain ⟨_,h2,_⟩:=hF.heap 0 _ rfl;exact copyCheck_used (ρ 0) w (by rw [Lib.cell_of_heap h2]; rfl)
theorem cc_new:CallsK Tryz.prog 146 [.one (.ptr 0 0)] bdN (fun _:Unit=>True) (fun _=>.tup []) (fun _=>bdM):=by
 intro ρ w hF;obtain ⟨_,h2,_⟩:=hF.heap 0 _ rfl;refine (copyCheck_new (ρ 0) w (.slice none 0 0) h2).mono ?_;rintro e w' ⟨rfl,rfl⟩;have hlt:=hF.lt 0 (Nat.zero_lt_succ 0);have hw:(w.setCell ⟨ρ 0,0,none⟩ (.pointer (some ⟨ρ 0,0,none⟩))).heap[ρ 0]?=some (.cells #[.pointer (some ⟨ρ 0,0,none⟩),.slice none 0 0] 137 (0,0)):=by
  have h2':w.heap[ρ 0]?=some (.cells #[.pointer none,.slice none 0 0] 137 (0,0)):=h2;simp [World.setCell,Array.getElem?_modify,h2']
 refine ⟨(),ρ,trivial,rfl,fun _ _=>rfl,Nat.le_refl _,fun b h1 h2=>absurd (Nat.lt_of_le_of_lt h1 h2) (Nat.lt_irrefl _),⟨?_,hF.inj,?_,?_,?_,?_⟩,fun b hb=>?_,fun x hx=>(by cases hx),⟨rfl,rfl,rfl,?_,?_⟩,fun b blk hb h1 h2=>?_,fun r R hR=>(by cases hR),fun q hq=>(by cases hq)⟩
 ·intro b blk hb;have hb0:b=0∧blk=⟨[.ptr 0 0,.val (.slice none 0 0)],137,true⟩:=by
   simp only [bdM,bdY,SX.look] at hb;split at hb
   ·rename_i e; cases hb; exact ⟨((beq_iff _ _).1 e).symm,rfl⟩
   ·cases hb
  obtain ⟨rfl,rfl⟩:=hb0;refine ⟨Nat.zero_lt_succ 0,hw,fun x hx=>?_⟩;rcases List.mem_cons.1 hx with rfl | hx
  ·exact Nat.zero_lt_succ 0
  ·rcases List.mem_cons.1 hx with rfl | hx
   ·trivial
   ·cases hx
 ·intro b hb;have:b=0:=by have:b<1:=hb; omega
  subst this;simp [World.setCell]; exact hlt
 ·intro r R hR; cases hR
 ·intro r r' R R' hR; cases hR
 ·intro p hp; cases hp
 ·have:b=0:=by have:b<1:=hb; omega
  subst this;exact ⟨_,rfl⟩
 ·simp [World.setCell]
 ·intro k hk hn;have hne:ρ 0≠k:=fun e=>hn (.inl ⟨0,_,rfl,rfl,e⟩);simp [World.setCell,Array.getElem?_modify,hne]
 ·have:b=0:=by have:b<1:=hb; omega
  subst this;exact ⟨_,rfl,rfl⟩
theorem wbyte_used (l:List UInt8) (q:Option Addr) (cap:Nat) (b:UInt8) (hl:l.length<140737488355328):CallsK Tryz.prog 256 [.one (.ptr 0 0),.one (.int .u8 b.toNat)] (bdF l q cap) (fun _:Option Addr×Nat=>True)
  (fun _=>.v (.one (.val .nilIface))) (fun x=>bdF (l++[b]) x.1 x.2):=by
 refine CallsK.m true Tryz.func256 (fun ρ w=>?_);refine V.q ?_;refine V.c [] (cc_used l q cap) (fun _ _=>?_);refine V.q ?_;refine V.push bsv 0 l b 1 q cap 5 1 [.int .u8 b.toNat] 1 kq (by omega) rfl (fun _ _=>kq) (fun q' cap'=>?_);refine V.q ?_;exact V.e (q',cap') [] trivial
theorem wbyte_new (b:UInt8):CallsK Tryz.prog 256 [.one (.ptr 0 0),.one (.int .u8 b.toNat)] bdN (fun _:Option Addr×Nat=>True)
  (fun _=>.v (.one (.val .nilIface))) (fun x=>bdF [b] x.1 x.2):=by
 refine CallsK.m true Tryz.func256 (fun ρ w=>?_);refine V.q ?_;refine V.c [] cc_new (fun _ _=>?_);refine V.nilB bsv 0 0 1 ⟨[.ptr 0 0,.val (.slice none 0 0)],137,true⟩ 5 1 kq rfl ?_;refine V.q ?_;refine V.push bsv 0 [] b 0 none 0 5 1 [.int .u8 b.toNat] 1 kq (by decide) rfl (fun _ _=>kq) (fun q' cap'=>?_);refine V.q ?_;exact V.e (q',cap') [] trivial
theorem wstr_used (l:List UInt8) (q:Option Addr) (cap:Nat) (t:List UInt8) (hl:l.length+t.length<140737488355328):CallsK Tryz.prog 75 [.one (.ptr 0 0),.one (.str t)] (bdF l q cap) (fun _:Option Addr×Nat=>True)
  (fun _=>.tup [.one (.int .i64 t.length),.one (.val .nilIface)]) (fun x=>bdF (l++t) x.1 x.2):=by
 refine CallsK.m true Tryz.func75 (fun ρ w=>?_);refine V.q ?_;refine V.c [] (cc_used l q cap) (fun _ _=>?_);refine V.q ?_;refine V.pushes bsv 0 l t 1 q cap 5 1 t.length (fun j=>[.int .u8 ((t.getD j 0).toNat:Int)]) 1 kq rfl (by omega) (fun _ _=>rfl) (fun _ _=>kq) (fun q' cap'=>?_);refine V.q ?_;exact V.e (q',cap') [] trivial
theorem wstr_new (t:List UInt8) (hl:t.length<140737488355328):CallsK Tryz.prog 75 [.one (.ptr 0 0),.one (.str t)] bdN (fun _:Option Addr×Nat=>True)
  (fun _=>.tup [.one (.int .i64 t.length),.one (.val .nilIface)]) (fun x=>bdF t x.1 x.2):=by
 refine CallsK.m true Tryz.func75 (fun ρ w=>?_);refine V.q ?_;refine V.c [] cc_new (fun _ _=>?_);refine V.nilB bsv 0 0 1 ⟨[.ptr 0 0,.val (.slice none 0 0)],137,true⟩ 5 1 kq rfl ?_;refine V.q ?_;refine V.pushes bsv 0 [] t 0 none 0 5 1 t.length (fun j=>[.int .u8 ((t.getD j 0).toNat:Int)]) 1 kq rfl (by simp; omega) (fun _ _=>rfl) (fun _ _=>kq) (fun q' cap'=>?_);refine V.q ?_;exact V.e (q',cap') [] trivial
theorem bdY_sat {ρ:Nat→Nat} {w:World} {x y:SV} (hx:x.wf (bdY x y).W) (hy:y.wf (bdY x y).W) (h:w.heap[ρ 0]?=some (.cells #[x.den ρ,y.den ρ] 137 (0,0))):FSat ρ (bdY x y) w:=by
 have h0:∀ b,b<(bdY x y).next→b=0:=fun b hb=>by have:b<1:=hb; omega
 refine ⟨?_,fun b c hb hc _=>by rw [h0 b hb,h0 c hc],fun b hb=>by rw [h0 b hb]; exact (Array.getElem?_eq_some_iff.1 h).1,fun r R hR=>(by cases hR),fun r r' R R' hR=>(by cases hR),fun p hp=>(by cases hp)⟩;intro b blk hb;have hb0:b=0∧blk=⟨[x,y],137,true⟩:=by
  simp only [bdY,SX.look] at hb;split at hb
  ·rename_i e; cases hb; exact ⟨((beq_iff _ _).1 e).symm,rfl⟩
  ·cases hb
 obtain ⟨rfl,rfl⟩:=hb0;refine ⟨Nat.zero_lt_succ 0,h,fun z hz=>?_⟩;rcases List.mem_cons.1 hz with rfl | hz
 ·exact hx
 ·rcases List.mem_cons.1 hz with rfl | hz
  ·exact hy
  ·cases hz
theorem bstr_used (l:List UInt8) (q:Option Addr) (cap:Nat) (hl:l.length≤140737488355328):CallsK Tryz.prog 76 [.one (.ptr 0 0)] (bdF l q cap) (fun _:Unit=>True) (fun _=>.v (.one (.str l)))
  (fun _=>bdY (.ptr 0 0) (.val (.slice q l.length cap))):=by
 intro ρ w hF;obtain ⟨_,h2,_⟩:=hF.heap 0 _ rfl;have h2':w.heap[ρ 0]?=some (.cells #[.pointer (some ⟨ρ 0,0,none⟩),.slice q l.length cap] 137 (0,0)):=h2;obtain ⟨_,hok,hus⟩:=hF.rows 0 _ rfl;have hend:∀ w',Chg (touch ρ (bdF l q cap)) w w'→w'.heap[ρ 0]?=w.heap[ρ 0]?→GivesK ρ (bdF l q cap) (fun _:Unit=>True) (fun _=>.v (.one (.str l))) (fun _=>bdY (.ptr 0 0) (.val (.slice q l.length cap))) w (.returned (.string ⟨l.toArray⟩)) w':=by
  intro w' hc h0;refine ⟨(),ρ,trivial,rfl,fun _ _=>rfl,Nat.le_refl _,fun b h1 h2=>absurd (Nat.lt_of_le_of_lt h1 h2) (Nat.lt_irrefl _),bdY_sat (Nat.zero_lt_succ 0) trivial (h0.trans h2'),fun b hb=>?_,trivial,hc,fun b blk hb h1 h2=>?_,fun r R hR=>(by cases hR),fun p hp=>(by cases hp)⟩
  ·have:b=0:=by have:b<1:=hb; omega
   subst this; exact ⟨_,rfl⟩
  ·have:b=0:=by have:b<1:=hb; omega
   subst this; exact ⟨_,rfl,rfl⟩
 have hdrew:∀ S,Chg S w w.drew:=fun S=>⟨rfl,rfl,rfl,Nat.le_refl _,fun _ _ _=>rfl⟩;have hown:=hok.own rfl rfl;rcases hown with ⟨_,⟨hv,hn⟩ | ⟨g,cap',cur,hv,_,hg,hcap,_,hsz,_⟩⟩
 ·simp only [rowL] at hv hn;injection hv with e1 e2 e3;subst e1 e3;have hl0:l=[]:=List.length_eq_zero_iff.1 hn;subst hl0;refine (bldString_nil (ρ 0) _ w h2').mono ?_;rintro e w' ⟨rfl,rfl⟩;exact hend _ (hdrew _) rfl
 ·simp only [rowL] at hv hcap hsz;injection hv with e1 e2 e3;subst e1 e3;have hgne:ρ 0≠g:=(hus g ⟨_,rfl,rfl,.inl rfl⟩).2 0 (Nat.zero_lt_succ 0);have htg:touch ρ (bdF l (some ⟨g,0,none⟩) cap) g:=.inr ⟨0,_,rfl,rfl,⟨_,rfl,rfl,.inl rfl⟩⟩;by_cases hl0:l=[]
  ·subst hl0;by_cases hc0:cap=0
   ·subst hc0;refine (bldString_noroom (ρ 0) g _ cur w h2' hg).mono ?_;rintro e w' ⟨rfl,rfl⟩;exact hend _ ((hdrew _).trans (Chg.alloc _ _ _) (fun _ h=>.inr h)) (Lib.alloc_old w.drew _ _ (hF.lt 0 (Nat.zero_lt_succ 0)))
   ·refine (bldString_room (ρ 0) g cap _ w hc0 h2').mono ?_;rintro e w' ⟨rfl,rfl⟩;exact hend _ (hdrew _) rfl
  ·have hsz':cur.size=cap:=by simpa using hsz
   refine (bldString (ρ 0) g cap _ cur l w hl0 h2' hg (by omega) hcap hl (fun j x hx=>?_)).mono ?_
   ·have hj:j<l.length:=(List.getElem?_eq_some_iff.1 hx).1;obtain ⟨b,off,hs,hcell⟩:=hok.addr (by show 0<l.length; omega);have hs':(some ⟨g,0,none⟩:Option Addr)=some ⟨b,off,none⟩:=hs;cases hs';have:=hcell j 0 (.int .u8 (x.toNat:Int)) hj (by simp [rowL,bsv,List.getD,hx]);simpa [rowL,SV.den0,SV.den] using this
   ·rintro e w' ⟨rfl,rfl⟩;refine hend _ ⟨?_,?_,?_,?_,fun k hk hn=>?_⟩ ?_
    ·unfold World.freeze; split<;>rfl
    ·unfold World.freeze; split<;>rfl
    ·unfold World.freeze; split<;>rfl
    ·unfold World.freeze; split<;>simp
    ·have hne:g≠k:=fun e=>hn (e▸htg);unfold World.freeze;split
     ·rfl
     ·simp [Array.getElem?_modify,hne]; rfl
    ·unfold World.freeze;split
     ·rfl
     ·simp [Array.getElem?_modify,Ne.symm hgne]; rfl
theorem bstr_new:CallsK Tryz.prog 76 [.one (.ptr 0 0)] bdN (fun _:Unit=>True) (fun _=>.v (.one (.str []))) (fun _=>bdN):=by
 intro ρ w hF;obtain ⟨_,h2,_⟩:=hF.heap 0 _ rfl;refine (bldString_nil (ρ 0) _ w h2).mono ?_;rintro e w' ⟨rfl,rfl⟩;refine ⟨(),ρ,trivial,rfl,fun _ _=>rfl,Nat.le_refl _,fun b h1 h2=>absurd (Nat.lt_of_le_of_lt h1 h2) (Nat.lt_irrefl _),bdY_sat trivial trivial h2,fun b hb=>?_,trivial,⟨rfl,rfl,rfl,Nat.le_refl _,fun _ _ _=>rfl⟩,fun b blk hb h1 h2=>?_,fun r R hR=>(by cases hR),fun p hp=>(by cases hp)⟩
 ·have:b=0:=by have:b<1:=hb; omega
  subst this; exact ⟨_,rfl⟩
 ·have:b=0:=by have:b<1:=hb; omega
  subst this; exact ⟨_,rfl,rfl⟩
end Go.Proofs
end
section
namespace Go.Proofs
open Go Go.SX
set_option maxRecDepth 10000
def groups:Nat→Nat→List UInt8
 | 0,z=>[UInt8.ofNat z]
 | k+1,z=>if z<128 then [UInt8.ofNat z] else UInt8.ofNat (z % 128+128)::groups k (z / 128)
def zz (n:Int):Nat:=(if 0≤n then 2*n else -2*n - 1).toNat
theorem groups_step {k z:Nat} (h:¬ z<128):groups (k+1) z=UInt8.ofNat (z % 128+128)::groups k (z / 128):=by simp [groups,h]
theorem groups_last {k z:Nat} (h:z<128):groups k z=[UInt8.ofNat z]:=by cases k<;>simp [groups,h]
structure WSt where
 bs:List UInt8
 q:Option Addr
 c:Nat
 rs:List (Int×Int)
 q2:Option Addr
 c2:Nat
def rlv (x:Int×Int):List SV:=[.int .i64 x.1,.int .i64 x.2]
def wrF (ps:List Pers) (b:WSt):St :=
 { n:=0,slots:=[],gs:=[],heap:=[(0,⟨[.row 0 b.q b.bs.length b.c,.row 1 b.q2 b.rs.length b.c2],99,true⟩)],next:=1,rows:=[(0,rowL bsv 0 b.bs b.q b.c 5 1 true),(1,rowL rlv (0,0) b.rs b.q2 b.c2 62 2 true)],nr:=2,pers:=ps,wr:=false }
structure WNumI where
 b:WSt
 z:Nat
 k:Nat
def wnumSt (i:WNumI):St:={ n:=35,slots:=[(0,.v (.one (.ptr 0 0))),(4,.v (.one (.int .u64 (i.z:Int))))],gs:=[],heap:=(wrF [] i.b).heap,next:=1,rows:=(wrF [] i.b).rows,nr:=2,pers:=[],wr:=true,fx:=1 }
def w0:WSt:=⟨[],none,0,[],none,0⟩
noncomputable def wnumT:List Item:=(SX.iter (let c:=(runs Tryz.prog 100 ⟨[.code (bodyOf Tryz.f54)],stF 35 [.one (.ptr 0 0),.one (.int .i64 0)] (wrF [] w0) true⟩).1; runs Tryz.prog 100 (afterD c c.st (.v (.one (.int .u64 0))))).1).todo
def wnumPre (n:Int) (b:WSt) (i:WNumI):Prop:=i.b.bs++groups i.k i.z=b.bs++groups 9 (zz n)∧i.z<128 ^ (i.k+1)∧i.k≤9∧i.b.rs=b.rs∧i.b.bs.length+i.k≤b.bs.length+9
def WrR (ps:List Pers) (b:WSt) (o:List UInt8) (r:List (Int×Int)) (ρ:Nat→Nat) (w:World):Ending→World→Prop :=
 GivesF ρ (wrF ps b) (fun b':WSt=>b'.bs=b.bs++o∧b'.rs=b.rs++r) (fun _=>.tup []) (wrF []) w
set_option maxHeartbeats 1000000 in
theorem wnum_loop (n:Int) (b:WSt) (hb:b.bs.length≤1000000000) (ρ:Nat→Nat) (w:World) (i:WNumI) (hi:wnumPre n b i):V ⟨Tryz.prog,54,WrR [] b (groups 9 (zz n)) [] ρ w,touch ρ (wrF [] b),w,ρ,none⟩ ⟨wnumT,wnumSt i⟩:=by
 refine V.loop (fun i:WNumI=>i.k) wnumSt (wnumPre n b) (fun i hi ih=>?_) i hi;obtain ⟨⟨bs,q,cap,rs,q2,c2⟩,z,k⟩:=i;obtain ⟨e1,e2,e3,e4,e7⟩:=hi;simp only at e1 e2 e3 e4 e7;subst e4;refine V.u ?_;refine V.branch 8 (decide ((z:Int)≥128)) kq (fun hb'=>?_) (fun hb'=>?_)
 ·have hz:¬ z<128:=by simp at hb'; omega
  cases k with
  | zero=>simp at e2; omega
  | succ k =>
   refine V.run 100 [(128:Int)≠0] kq (by simp [allP]) ?_;refine V.push bsv 0 bs (UInt8.ofNat (z % 128+128)) 0 q cap 5 1 [.int .u8 (IntKind.u8.wrap (IntKind.u8.wrap ((z:Int).tmod 128)+128))] 1 kq (by omega) ?_ (fun _ _=>kq) (fun q' cap'=>?_)
   ·have:(z:Int).tmod 128=((z % 128:Nat):Int):=rfl;rw [this];simp [bsv,IntKind.wrap,IntKind.bits,IntKind.signed]
   ·refine V.run 100 [(128:Int)≠0] kq (by simp [allP]) ?_;have hd:IntKind.u64.wrap ((z:Int).tdiv 128)=((z / 128:Nat):Int):=by
     have:(z:Int).tdiv 128=((z / 128:Nat):Int):=rfl;rw [this];simp [IntKind.wrap,IntKind.bits,IntKind.signed];have:z<128 ^ 10:=Nat.lt_of_lt_of_le e2 (Nat.pow_le_pow_right (by omega) (by omega));omega
    have p1:(bs++[UInt8.ofNat (z % 128+128)])++groups k (z / 128)=b.bs++groups 9 (zz n):=by rw [← e1,groups_step hz]; simp
    have p2:z / 128<128 ^ (k+1):=by
     rw [Nat.div_lt_iff_lt_mul (by decide),← Nat.pow_succ]; exact e2
    have key:=ih ⟨⟨bs++[UInt8.ofNat (z % 128+128)],q',cap',b.rs,q2,c2⟩,z / 128,k⟩ ⟨p1,p2,by simp only; omega,rfl,by simp only [List.length_append,List.length_singleton]; omega⟩ (Nat.lt_succ_self k);unfold wnumSt at key;simp only [← hd] at key;exact V.again [0,4] [0] [2,1] [] key kq kq
 ·have hz:z<128:=by simp at hb'; omega
  refine V.u ?_;refine V.push bsv 0 bs (UInt8.ofNat z) 0 q cap 5 1 [.int .u8 (IntKind.u8.wrap (z:Int))] 1 kq (by omega) ?_ (fun _ _=>kq) (fun q' cap'=>?_)
  ·simp [bsv,IntKind.wrap,IntKind.bits,IntKind.signed]
  ·refine V.u ?_;refine V.retF (⟨bs++[UInt8.ofNat z],q',cap',b.rs,q2,c2⟩:WSt) [2,1] (.tup []) kq kq kq kq kq kq kq ?_
   ·exact ⟨by rw [← e1,groups_last hz],by simp⟩
theorem zz_lt {n:Int} (h1:-2147483648≤n) (h2:n≤2147483647):zz n<4294967296:=by unfold zz; split<;>omega
theorem zigzag_calls (n:Int) (w:World) (h1:-2147483648≤n) (h2:n≤2147483647):Calls Tryz.prog 89 #[.int .i64 n] w (Gives (.int .u64 (zz n)) w):=by
 refine Calls.of_plain [.one (.int .i64 n)] true Tryz.func89 kq kq (by simp [CV.wf,SV.wf]) ?_;refine V.u ?_;refine V.bn 4 (decide (n≥0)) (fun hb=>?_) (fun hb=>?_)
 ·have hb':0≤n:=by simpa using hb
  refine V.u ?_;refine V.ret (.v (.one (.int .u64 (IntKind.u64.wrap (IntKind.u64.wrap n*2))))) kq kq ?_;intro ρ a w hS;have:IntKind.u64.wrap (IntKind.u64.wrap n*2)=zz n:=by simp [IntKind.wrap,IntKind.bits,IntKind.signed,zz,hb']; omega
  rw [this];exact ⟨rfl,hS.chg⟩
 ·have hb':¬ 0≤n:=by simpa using hb
  refine V.u ?_;refine V.ret (.v (.one (.int .u64 (IntKind.u64.wrap (IntKind.u64.wrap (IntKind.u64.wrap (IntKind.i64.wrap (0 - n))*2) - 1))))) kq kq ?_;intro ρ a w hS;have:IntKind.u64.wrap (IntKind.u64.wrap (IntKind.u64.wrap (IntKind.i64.wrap (0 - n))*2) - 1)=zz n:=by simp [IntKind.wrap,IntKind.bits,IntKind.signed,zz,hb']; omega
  rw [this];exact ⟨rfl,hS.chg⟩
set_option maxHeartbeats 1000000 in
theorem wnumber (n:Int) (b:WSt) (h1:-2147483648≤n) (h2:n≤2147483647) (hb:b.bs.length≤1000000000) (ρ:Nat→Nat) (w:World) (hF:FSat ρ (wrF [] b) w) :
  Calls Tryz.prog 54 (([.one (.ptr 0 0),.one (.int .i64 n)]:List CV).map (CV.den ρ)).toArray w (WrR [] b (groups 9 (zz n)) [] ρ w):=by
 have hz:=zz_lt h1 h2;have key:=wnum_loop n b hb ρ w ⟨b,zz n,9⟩ ⟨rfl,by simp only; omega,by simp,rfl,by simp⟩;unfold wnumSt at key;refine Calls.of_F hF [.one (.ptr 0 0),.one (.int .i64 n)] true Tryz.func54 kq kq (by simp [CV.wf,SV.wf,wrF,St.W]) ?_;refine V.u ?_;refine V.callP 89 [.one (.int .i64 n)] (.v (.one (.int .u64 (zz n)))) kq kq (fun _ _ w _=>zigzag_calls n w h1 h2) ?_;refine V.u ?_;exact V.again [0,4] [0] [0,1] [] key kq kq
def bitB (v:Bool):UInt8:=match v with
 | true=>1
 | false=>0
set_option maxHeartbeats 1000000 in
theorem wflag (v:Bool) (b:WSt) (hb:b.bs.length≤1000000000) (ρ:Nat→Nat) (w:World) (hF:FSat ρ (wrF [] b) w) :
  Calls Tryz.prog 206 (([.one (.ptr 0 0),.one (.sb v)]:List CV).map (CV.den ρ)).toArray w (WrR [] b [bitB v] [] ρ w):=by
 obtain ⟨bs,q,cap,rs,q2,c2⟩:=b;refine Calls.of_F hF [.one (.ptr 0 0),.one (.sb v)] true Tryz.func206 kq kq (by simp [CV.wf,SV.wf,wrF,St.W]) ?_;refine V.u ?_;refine V.bn 5 v (fun hv=>?_) (fun hv=>?_)
 ·subst hv;refine V.u ?_;refine V.push bsv 0 bs 1 0 q cap 5 1 [.int .u8 1] 1 kq (by simp only at hb; omega) kq (fun _ _=>kq) (fun q' cap'=>?_);refine V.u ?_;exact V.retF (⟨bs++[1],q',cap',rs,q2,c2⟩:WSt) [2,1] (.tup []) kq kq kq kq kq kq kq ⟨rfl,by simp⟩
 ·subst hv;refine V.u ?_;refine V.push bsv 0 bs 0 0 q cap 5 1 [.int .u8 0] 1 kq (by simp only at hb; omega) kq (fun _ _=>kq) (fun q' cap'=>?_);refine V.u ?_;exact V.retF (⟨bs++[0],q',cap',rs,q2,c2⟩:WSt) [2,1] (.tup []) kq kq kq kq kq kq kq ⟨rfl,by simp⟩
theorem groups_len:∀ (k z:Nat),(groups k z).length≤k+1
 | 0,z=>by simp [groups]
 | k+1,z=>by
  unfold groups;split
  ·simp
  ·have:=groups_len k (z / 128);simp only [List.length_cons];omega
set_option maxHeartbeats 1000000 in
theorem wstr (l:List UInt8) (b:WSt) (hl:l.length≤1000000000) (hb:b.bs.length≤900000000) (ρ:Nat→Nat) (w:World) (hF:FSat ρ (wrF [] b) w) :
  Calls Tryz.prog 180 (([.one (.ptr 0 0),.one (.str l)]:List CV).map (CV.den ρ)).toArray w (WrR [] b (groups 9 (zz l.length)++l) [] ρ w):=by
 refine Calls.of_F hF [.one (.ptr 0 0),.one (.str l)] true Tryz.func180 kq kq (by simp [CV.wf,SV.wf,wrF,St.W]) ?_;refine V.u ?_;refine V.callW 54 [.one (.ptr 0 0),.one (.int .i64 l.length)] [.one (.ptr 0 0),.one (.int .i64 l.length)] [0] [0,1] [] (wrF [] b) _ _ _ kq kq kq (fun _=>rfl) (fun _=>kq)
  (fun ρ w hF=>wnumber l.length b (by omega) (by omega) (by omega) ρ w hF) ?_
 rintro ⟨bs,q,cap,rs,q2,c2⟩ ⟨rfl,rfl⟩;refine V.u ?_;refine V.pushes bsv 0 (b.bs++groups 9 (zz l.length)) l 2 q cap 5 1 l.length (fun j=>[.int .u8 ((l.getD j 0).toNat:Int)]) 1 kq rfl ?_ (fun _ _=>rfl) (fun _ _=>kq) (fun q' cap'=>?_)
 ·have:=groups_len 9 (zz l.length);simp only [List.length_append];omega
 refine V.u ?_;exact V.retF (⟨(b.bs++groups 9 (zz l.length))++l,q',cap',b.rs++[],q2,c2⟩:WSt) [4,3] (.tup []) kq kq kq kq kq kq kq ⟨by simp,by simp⟩
structure Ty where
 k:Int
 p:Int
 q:Int
 v:Bool
 s:List UInt8
def Ty.cells (t:Ty):List SV:=[.int .i64 t.k,.int .i64 t.p,.int .i64 t.q,.sb t.v,.str t.s]
def num32 (n:Int):Prop:=-2147483648≤n∧n≤2147483647
def encN (n:Int):List UInt8:=groups 9 (zz n)
def encS (l:List UInt8):List UInt8:=encN l.length++l
def encTy (t:Ty):List UInt8:=encN t.k++(encN t.p++(encN t.q++([bitB t.v]++encS t.s)))
set_option maxHeartbeats 2000000 in
theorem wtyp (t:Ty) (b:WSt) (h1:num32 t.k) (h2:num32 t.p) (h3:num32 t.q) (hl:t.s.length≤50000000) (hb:b.bs.length≤800000000) (ρ:Nat→Nat) (w:World) (hF:FSat ρ (wrF [] b) w) :
  Calls Tryz.prog 170 (([.one (.ptr 0 0),.agg t.cells]:List CV).map (CV.den ρ)).toArray w (WrR [] b (encTy t) [] ρ w):=by
 obtain ⟨k,p,q,v,s⟩:=t;refine Calls.of_F hF [.one (.ptr 0 0),.agg [.int .i64 k,.int .i64 p,.int .i64 q,.sb v,.str s]] true Tryz.func170 kq kq (by simp [CV.wf,SV.wf,wrF,St.W]) ?_;refine V.u ?_;refine V.callW 54 [.one (.ptr 0 0),.one (.int .i64 k)] [.one (.ptr 0 0),.one (.int .i64 k)] [0] [0,1] [] (wrF [] b) _ _ _ kq kq kq (fun _=>rfl) (fun _=>kq) (fun ρ w hF=>wnumber _ b h1.1 h1.2 (by omega) ρ w hF) ?_;intro b1 e1;have l1:b1.bs.length≤b.bs.length+(10):=by rw [e1.1]; have:=groups_len 9 (zz (k)); simp only [List.length_append]; omega
 refine V.u ?_;refine V.callW 54 [.one (.ptr 0 0),.one (.int .i64 p)] [.one (.ptr 0 0),.one (.int .i64 p)] [0] [2,3] [] (wrF [] b1) _ _ _ kq kq kq (fun _=>rfl) (fun _=>kq) (fun ρ w hF=>wnumber _ b1 h2.1 h2.2 (by omega) ρ w hF) ?_;intro b2 e2;have l2:b2.bs.length≤b1.bs.length+(10):=by rw [e2.1]; have:=groups_len 9 (zz (p)); simp only [List.length_append]; omega
 refine V.u ?_;refine V.callW 54 [.one (.ptr 0 0),.one (.int .i64 q)] [.one (.ptr 0 0),.one (.int .i64 q)] [0] [4,5] [] (wrF [] b2) _ _ _ kq kq kq (fun _=>rfl) (fun _=>kq) (fun ρ w hF=>wnumber _ b2 h3.1 h3.2 (by omega) ρ w hF) ?_;intro b3 e3;have l3:b3.bs.length≤b2.bs.length+(10):=by rw [e3.1]; have:=groups_len 9 (zz (q)); simp only [List.length_append]; omega
 refine V.u ?_;refine V.callW 206 [.one (.ptr 0 0),.one (.sb v)] [.one (.ptr 0 0),.one (.sb v)] [0] [6,7] [] (wrF [] b3) _ _ _ kq kq kq (fun _=>rfl) (fun _=>kq) (fun ρ w hF=>wflag _ b3 (by omega) ρ w hF) ?_;intro b4 e4;have l4:b4.bs.length≤b3.bs.length+(1):=by rw [e4.1]; skip; simp only [List.length_append,List.length_singleton]; omega
 refine V.u ?_;refine V.callW 180 [.one (.ptr 0 0),.one (.str s)] [.one (.ptr 0 0),.one (.str s)] [0] [8,9] [] (wrF [] b4) _ _ _ kq kq kq (fun _=>rfl) (fun _=>kq) (fun ρ w hF=>wstr _ b4 (by simp only at hl; omega) (by omega) ρ w hF) ?_;intro b5 e5;have l5:b5.bs.length≤b4.bs.length+(10+(s).length):=by rw [e5.1]; have:=groups_len 9 (zz (s).length); simp only [List.length_append]; omega
 refine V.u ?_;refine V.retF (⟨b5.bs,b5.q,b5.c,b5.rs,b5.q2,b5.c2⟩:WSt) [10,11] (.tup []) kq kq kq kq kq kq kq ⟨?_,?_⟩
 ·simp only [e5.1,e4.1,e3.1,e2.1,e1.1,encN,encS,encTy,List.append_assoc]
 ·simp only [e5.2,e4.2,e3.2,e2.2,e1.2,List.append_nil]
end Go.Proofs
end
