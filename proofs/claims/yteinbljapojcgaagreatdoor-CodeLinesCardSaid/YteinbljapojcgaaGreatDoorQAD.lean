/- A symbolic run of the program that Lean checks, and what the functions of the program come to by it: part 4 of 12. -/
import Derived.Laws.IdiomStrings
import Derived.Lib.Walk
import Derived.Lib.Builder
import Derived.RangeFuncIn
import Derived.RangeFuncRecord
import Derived.RangeFuncLeaves
import Derived.Test.YteinbljapojcgaaGreatDoorQAC
set_option linter.unusedVariables false
section
namespace Go.SX
open Go
def SV.ptrLt (ρ:Nat→Nat) (w:World):SV→Prop
 | .ptr b _=>ρ b<w.heap.size
 | _=>True
structure Con (P:Program) where
 f:FuncId
 need:List Pers
 fn:List CV→Option (RV×List Prop)
 ok:∀ xs v ob,fn xs=some (v,ob)→(∀ p∈ob,p)→∀ (ρ:Nat→Nat) (w:World),PersOk need w→(∀ x∈xs,∀ y∈x.svs,y.ptrLt ρ w)→Calls P f (xs.map (CV.den ρ)).toArray w (Gives (v.den ρ) w)
structure Ent (P:Program) where
 sp:Con P
 is:List Nat
def findE {P:Program}:List (Ent P)→FuncId→Option (Ent P)
 | [],_=>none
 | e::T,f=>match Nat.beq e.sp.f f with
  | true=>some e
  | false=>findE T f
def callT {P:Program} (T:List (Ent P)) (n:Nat) (f:FuncId) (xs:List CV):Option (RV×List Prop) :=
 match findE T f with
 | some e=>match entersB P f,xs.all (wfC n) with
  | true,true=>match e.sp.fn xs with
   | some (v,ob)=>match wfR n v with
    | true=>some (v,ob)
    | false=>none
   | none=>none
  | _,_=>none
 | none=>none
def getE:List Nat→List Pers→List (Option Pers)
 | [],_=>[]
 | i::l,ps=>ps.reverse[i]?::getE l ps
def needT {P:Program}:List (Ent P)→List Pers→List (List (Option Pers))
 | [],_=>[]
 | e::T,ps=>getE e.is ps::needT T ps
def wantT {P:Program}:List (Ent P)→List (List (Option Pers))
 | []=>[]
 | e::T=>e.sp.need.map some::wantT T
theorem getE_mem:∀ {l:List Nat} {ps qs:List Pers},getE l ps=qs.map some→∀ q∈qs,q∈ps
 | [],ps,qs,h,q,hq=>by
  cases qs with
  | nil=>simp at hq
  | cons a l=>simp [getE] at h
 | i::l,ps,qs,h,q,hq=>by
  cases qs with
  | nil=>simp at hq
  | cons a qs =>
   simp only [getE,List.map_cons,List.cons.injEq] at h;rcases List.mem_cons.1 hq with rfl | hq
   ·exact List.mem_reverse.1 (List.mem_of_getElem? h.1)
   ·exact getE_mem h.2 q hq
theorem needT_ok {P:Program}:∀ {T:List (Ent P)} {ps:List Pers},needT T ps=wantT T→∀ e∈T,∀ q∈e.sp.need,q∈ps
 | [],ps,_,e,he=>by simp at he
 | e0::T,ps,h,e,he=>by
  simp only [needT,wantT,List.cons.injEq] at h;rcases List.mem_cons.1 he with rfl | he
  ·exact getE_mem h.1
  ·exact needT_ok h.2 e he
theorem findE_mem {P:Program}:∀ {T:List (Ent P)} {f:FuncId} {e:Ent P},findE T f=some e→e∈T∧e.sp.f=f
 | e0::T,f,e,h=>by
  simp only [findE] at h;split at h
  ·rename_i hf; cases h; exact ⟨List.mem_cons_self ..,(beq_iff _ _).1 hf⟩
  ·obtain ⟨h1,h2⟩:=findE_mem h; exact ⟨List.mem_cons_of_mem _ h1,h2⟩
def isStoreO:Op→Bool
 | .store _ _ _=>true
 | _=>false
def findL (ops:Array Oper):Nat→Nat→Nat
 | 0,_=>ops.size
 | n+1,i=>match ops[i]? with
  | some o=>match isStoreO o.op with
   | true=>match lastB ops i with
    | true=>i
    | false=>findL ops n (i+1)
   | false=>findL ops n (i+1)
  | none=>ops.size
def loopT (P:Program) (T:List (Ent P)) (ops:Array Oper) (k:List Item) (h0:List (Nat×Blk)) (r0:List (Nat×Row)) (L:Nat):Nat→DCfg→Option (Cfg×List Prop)
 | 0,_=>none
 | m+1,d=>match endD P ops L d with
  | some s1=>some (⟨k,s1⟩,[])
  | none=>match Region.ready .any ops d.listed,d.fuel with
   | [i],n+1=>match callD ops i d.st,ops[i]? with
    | some (none,f,xs),some o=>match callT T d.st.next f xs with
     | some (v,ob)=>match d.st.put o.dst v with
      | some s'=>match runDM P ops h0 r0 ops.size ⟨n,d.listed.setIfInBounds i true,s'⟩ with
       | (d',ob')=>match loopT P T ops k h0 r0 L m d' with
        | some (c',ob'')=>some (c',ob++(ob'++ob''))
        | none=>none
      | none=>none
     | none=>none
    | some (some (g,pol,b),f,xs),some o=>match callT T d.st.next f xs with
     | some (.v x,ob)=>match ({ d.st with gs:=addNat d.st.gs g }:St).put o.dst (.grd g pol b x) with
      | some s'=>match runDM P ops h0 r0 ops.size ⟨n,d.listed.setIfInBounds i true,s'⟩ with
       | (d',ob')=>match loopT P T ops k h0 r0 L m d' with
        | some (c',ob'')=>some (c',impAll b pol ob++(ob'++ob''))
        | none=>none
      | none=>none
     | _=>none
    | _,_=>none
   | _,_=>none
def drawB (P:Program) (T:List (Ent P)) (c:Cfg) (ops:Array Oper) (k:List Item) (L:Nat):Option (Cfg×List Prop) :=
 match P.follows .mixedOrders,Region.noSelect ops,lastB ops L||Nat.ble ops.size L with
 | true,true,true=>match runDM P ops c.st.heap c.st.rows ops.size ⟨ops.size,Array.replicate ops.size false,c.st⟩ with
  | (d,ob)=>match loopT P T ops k c.st.heap c.st.rows L 50 d with
   | some (c',ob')=>some (c',ob++ob')
   | none=>none
 | _,_,_=>none
def drawT (P:Program) (T:List (Ent P)) (c:Cfg):Option (Cfg×List Prop) :=
 match drawOf c with
 | some (ops,k)=>drawB P T c ops k (findL ops ops.size 0)
 | none=>none
def stepT (P:Program) (T:List (Ent P)) (c:Cfg):Option (Cfg×List Prop) :=
 match sstep P c with
 | some r=>some r
 | none=>match callOf c with
  | some (none,f,xs)=>match callT T c.st.next f xs with
   | some (v,ob)=>match afterOp c c.st v with
    | some c'=>some (c',ob)
    | none=>none
   | none=>none
  | some (some (g,pol,b),f,xs)=>match callT T c.st.next f xs with
   | some (.v x,ob)=>match afterOp c { c.st with gs:=addNat c.st.gs g } (.grd g pol b x) with
    | some c'=>some (c',impAll b pol ob)
    | none=>none
   | _=>none
  | none=>drawT P T c
def runT (P:Program) (T:List (Ent P)):Nat→Cfg→Cfg×List Prop
 | 0,c=>(c,[])
 | n+1,c=>match stepT P T c with
  | none=>(c,[])
  | some (c',[])=>runT P T n c'
  | some (c',ob)=>match runT P T n c' with
   | (c'',ob')=>(c'',ob++ob')
section
theorem put_pers {s s':St} {d:Option Nat} {v:RV} (h:s.put d v=some s'):s'.pers=s.pers:=by
 unfold St.put at h;split at h
 ·cases h; rfl
 ·split at h
  ·cases h
  ·split at h
   ·cases h
   ·cases h; rfl
theorem opMem_pers {P:Program} {s s':St} {gc:Option (Nat×Bool)} {v:RV} {op:Op} (h:opMem P s gc op=some (v,s')):s'.pers=s.pers:=by
 unfold opMem at h
 repeat' split at h
 all_goals first | (cases h; rfl) | cases h
theorem opStore_pers {P:Program} {s s':St} {gc:Option (Nat×Bool)} {op:Op} (h:opStore P s gc op=some s'):s'.pers=s.pers:=by
 unfold opStore at h
 repeat' split at h
 all_goals first | (cases h; rfl) | cases h
theorem stepO_pers {P:Program} {ops:Array Oper} {o:Oper} {s s':St} {ob:List Prop} (h:stepO P ops o s=some (s',ob)):s'.pers=s.pers:=by
 unfold stepO at h;split at h
 ·split at h
  ·split at h
   ·rename_i hp; cases h; exact put_pers hp
   ·cases h
  ·split at h
   ·rename_i hm;split at h
    ·rename_i hp; cases h; exact (put_pers hp).trans (opMem_pers hm)
    ·cases h
   ·split at h
    ·rename_i hs;split at h
     ·cases h; exact opStore_pers hs
     ·cases h
    ·cases h
 ·split at h
  ·rename_i hp; cases h; exact put_pers hp
  ·cases h
 ·split at h
  ·split at h
   ·rename_i hp; cases h; exact (put_pers hp).trans rfl
   ·cases h
  ·cases h
 ·cases h
theorem sstep_pers {P:Program} {c c':Cfg} {ob:List Prop} (h:sstep P c=some (c',ob)):c'.st.pers=c.st.pers:=by
 unfold sstep at h;split at h
 all_goals first
  | (cases h; done)
  | (cases h; rfl)
  | (split at h<;>first | (cases h; done) | (cases h; rfl) | skip)
 all_goals
  split at h
  ·rename_i hs; cases h; exact stepO_pers hs
  ·cases h
theorem afterOp_pers {c c':Cfg} {s:St} {v:RV} (h:afterOp c s v=some c'):c'.st.pers=s.pers:=by
 unfold afterOp at h;split at h
 ·split at h
  ·split at h
   ·rename_i hp; cases h; exact put_pers hp
   ·cases h
  ·cases h
 ·cases h
theorem stepPure_pers {P:Program} {ops:Array Oper} {h0:List (Nat×Blk)} {r0:List (Nat×Row)} {o:Oper} {s s':St} {ob:List Prop} (h:stepPure P ops h0 r0 o s=some (s',ob)):s'.pers=s.pers:=by
 unfold stepPure at h;split at h
 ·split at h
  ·split at h
   ·rename_i hp; cases h; exact put_pers hp
   ·cases h
  ·cases h
 ·split at h
  ·rename_i hp; cases h; exact put_pers hp
  ·cases h
 ·split at h
  ·split at h
   ·rename_i hp; cases h; exact (put_pers hp).trans rfl
   ·cases h
  ·cases h
 ·cases h
theorem stepDM_pers {P:Program} {ops:Array Oper} {h0:List (Nat×Blk)} {r0:List (Nat×Row)} {d d':DCfg} {ob:List Prop} (h:stepDM P ops h0 r0 d=some (d',ob)):d'.st.pers=d.st.pers:=by
 unfold stepDM at h;split at h
 ·cases h
 ·split at h
  ·rename_i ht;cases h;obtain ⟨_,o,_,_,hs⟩:=takeD_spec ht;exact stepPure_pers hs
  ·split at h
   ·split at h
    ·split at h
     ·split at h
      ·rename_i hm;split at h
       ·rename_i hp; cases h; exact (put_pers hp).trans (opMem_pers hm)
       ·cases h
      ·cases h
     ·cases h
    ·cases h
   ·cases h
theorem runDM_pers {P:Program} {ops:Array Oper} {h0:List (Nat×Blk)} {r0:List (Nat×Row)}:∀ (m:Nat) (d:DCfg),(runDM P ops h0 r0 m d).1.st.pers=d.st.pers
 | 0,_=>rfl
 | m+1,d=>by
  unfold runDM;split
  ·rfl
  ·rename_i d' ob hs;exact (runDM_pers m d').trans (stepDM_pers hs)
theorem endD_pers {P:Program} {ops:Array Oper} {L:Nat} {d:DCfg} {s:St} (h:endD P ops L d=some s):s.pers=d.st.pers:=by
 unfold endD at h;split at h
 ·cases h; rfl
 ·split at h
  ·split at h
   ·rename_i hs _ _; cases h; exact opStore_pers hs
   ·cases h
  ·cases h
 ·cases h
theorem loopT_pers {P:Program} {T:List (Ent P)} {ops:Array Oper} {k:List Item} {h0:List (Nat×Blk)} {r0:List (Nat×Row)} {L:Nat}:∀ {m:Nat} {d:DCfg} {c':Cfg} {ob:List Prop},loopT P T ops k h0 r0 L m d=some (c',ob)→c'.st.pers=d.st.pers
 | 0,_,_,_,h=>by cases h
 | m+1,d,c',ob,h=>by
  unfold loopT at h;split at h
  ·rename_i hs; cases h; exact endD_pers hs
  ·split at h
   ·split at h
    ·split at h
     ·split at h
      ·rename_i hp;split at h;rename_i d' ob' hrun;split at h
       ·rename_i hl;cases h;have hpp:=put_pers hp;exact ((loopT_pers hl).trans (by
         have h1:=congrArg (fun x=>x.1.st.pers) hrun;simp only [runDM_pers] at h1;exact h1.symm)).trans hpp
       ·cases h
      ·cases h
     ·cases h
    ·split at h
     ·split at h
      ·rename_i hp;split at h;rename_i d' ob' hrun;split at h
       ·rename_i hl;cases h;have hpp:=put_pers hp;exact ((loopT_pers hl).trans (by
         have h1:=congrArg (fun x=>x.1.st.pers) hrun;simp only [runDM_pers] at h1;exact h1.symm)).trans hpp
       ·cases h
      ·cases h
     ·cases h
    ·cases h
   ·cases h
theorem drawT_pers {P:Program} {T:List (Ent P)} {c c':Cfg} {ob:List Prop} (h:drawT P T c=some (c',ob)):c'.st.pers=c.st.pers:=by
 unfold drawT at h;split at h
 ·unfold drawB at h;split at h
  ·split at h;rename_i d ob' hrun;split at h
   ·rename_i hl;cases h;exact (loopT_pers hl).trans (by
     have h1:=congrArg (fun x=>x.1.st.pers) hrun;simp only [runDM_pers] at h1;exact h1.symm)
   ·cases h
  ·cases h
 ·cases h
theorem stepT_pers {P:Program} {T:List (Ent P)} {c c':Cfg} {ob:List Prop} (h:stepT P T c=some (c',ob)):c'.st.pers=c.st.pers:=by
 unfold stepT at h;split at h
 ·rename_i hs; cases h; exact sstep_pers hs
 ·split at h
  ·split at h
   ·split at h
    ·rename_i ha; cases h; exact afterOp_pers ha
    ·cases h
   ·cases h
  ·split at h
   ·split at h
    ·rename_i ha; cases h; exact (afterOp_pers ha).trans rfl
    ·cases h
   ·cases h
  ·exact drawT_pers h
end
section
variable {C:Ctx}
theorem callT_ok {T:List (Ent C.P)} {s:St} {f:FuncId} {xs:List CV} {v:RV} {ob:List Prop} (hc:callT T s.next f xs=some (v,ob)) (hob:∀ p∈ob,p) (hn:∀ e∈T,∀ q∈e.sp.need,q∈s.pers) :
  entersB C.P f=true∧wfR s.next v=true∧∀ ρ a w,Sat C ρ s a w→Calls C.P f (xs.map (CV.den ρ)).toArray w (Gives (v.den ρ) w):=by
 unfold callT at hc;split at hc
 ·rename_i e he;obtain ⟨hm,rfl⟩:=findE_mem he;split at hc
  ·rename_i h1 h2;split at hc
   ·rename_i v' ob' hfn;split at hc
    ·rename_i h3;cases hc;refine ⟨h1,h3,fun ρ a w hS=>e.sp.ok xs v ob hfn hob ρ w (fun q hq=>?_) (fun x hx y hy=>?_)⟩
     ·obtain ⟨p1,p2,p3⟩:=hS.pers q (hn e hm q hq);exact ⟨p1,p2,fun k hk=>(p3 k hk).1⟩
     ·have hwx:=List.all_eq_true.1 h2 x hx;cases y with
      | ptr b off =>
       refine hS.lt b ?_;cases x with
       | one z=>rcases List.mem_singleton.1 hy with rfl; exact Nat.blt_eq.mp hwx
       | agg zs=>exact Nat.blt_eq.mp (List.all_eq_true.1 hwx _ hy)
      | _=>trivial
    ·cases hc
   ·cases hc
  ·cases hc
 ·cases hc
theorem callT_grd {P:Program} {T:List (Ent P)} {n:Nat} {f:FuncId} {xs:List CV} {x:CV} {ob:List Prop} (hct:callT T n f xs=some (.v x,ob)):entersB P f=true∧wfR n (.v x)=true:=by
 unfold callT at hct;split at hct
 ·rename_i e he;obtain ⟨hm,rfl⟩:=findE_mem he;split at hct
  ·rename_i h1 h2;split at hct
   ·split at hct
    ·rename_i h3; cases hct; exact ⟨h1,h3⟩
    ·cases hct
   ·cases hct
  ·cases hct
 ·cases hct
theorem loopT_sound {T:List (Ent C.P)} {D:Held} {ops:Array Oper} {k:List Item} {L:Nat} (hD:D.ok) (e3:D.L=L) (hL:LastOp ops L∨ops.size≤L) (hsel:Region.noSelect ops=true) :
  ∀ {m:Nat} {d:DCfg} {c':Cfg} {ob:List Prop},loopT C.P T ops k D.h0 D.r0 L m d=some (c',ob)→(∀ p∈ob,p)→(∀ e∈T,∀ q∈e.sp.need,q∈d.st.pers)→D.rows d.st→V C c'→VD C D ops k d
 | 0,_,_,_,h,_,_,_,_=>by cases h
 | m+1,d,c',ob,h,hob,hn,hrw,hV=>by
  unfold loopT at h;split at h
  ·rename_i s1 hs;cases h;exact VD.fin (by rw [e3]; exact hs) hV
  ·split at h
   ·rename_i i n hr hf;split at h
    ·rename_i f xs o hc ho;split at h
     ·rename_i v ob1 hct;split at h
      ·rename_i s' hput;split at h;rename_i d' ob2 hrun;split at h
       ·rename_i c2 ob3 hl;cases h;obtain ⟨b1,b2,b3⟩:=callT_ok (C:=C) hct (fun p hp=>hob p (List.mem_append_left _ hp)) hn;obtain ⟨w1,w2⟩:=wfR_ok (W:=d.st.W) b2 rfl;refine VD.call i f xs v hr hf ho hc (enters b1) hput w1 w2 b3 ?_;have hW:=put_W hput;have hrw2:D.rows s':=⟨fun r R hR=>by rw [show s'.rows=d.st.rows from congrArg WF.rows hW]; exact hrw.1 r R hR,by rw [hW]; exact hrw.2⟩;refine VD.runM hD (by rw [e3]; exact hL) hsel ops.size _ (by rw [hrun]; exact fun p hp=>hob p (List.mem_append_right _ (List.mem_append_left _ hp))) hrw2 (fun hrw3=>?_);have hp1:=runDM_pers (P:=C.P) (ops:=ops) (h0:=D.h0) (r0:=D.r0) ops.size ⟨n,d.listed.setIfInBounds i true,s'⟩;rw [hrun] at hrw3 hp1 ⊢;refine loopT_sound hD e3 hL hsel hl (fun p hp=>hob p (List.mem_append_right _ (List.mem_append_right _ hp))) (fun e he q hq=>?_) hrw3 hV;rw [hp1,put_pers hput];exact hn e he q hq
       ·cases h
      ·cases h
     ·cases h
    ·rename_i g pol b f xs o hc ho;split at h
     ·rename_i x ob1 hct;split at h
      ·rename_i s' hput;split at h;rename_i d' ob2 hrun;split at h
       ·rename_i c2 ob3 hl;cases h;have hW:=put_W hput;have hrw2:D.rows s':=⟨fun r R hR=>by rw [show s'.rows=d.st.rows from congrArg WF.rows hW]; exact hrw.1 r R hR,by rw [hW]; exact hrw.2⟩;obtain ⟨b1,b2⟩:=callT_grd hct;refine VD.callG i g pol b f xs x hr hf ho hc (enters b1) hput (wfC_ok (W:=d.st.W) b2 rfl) (fun hb=>(callT_ok (C:=C) hct (impAll_mem (fun p hp=>hob p (List.mem_append_left _ hp)) hb) hn).2.2) ?_;refine VD.runM hD (by rw [e3]; exact hL) hsel ops.size _ (by rw [hrun]; exact fun p hp=>hob p (List.mem_append_right _ (List.mem_append_left _ hp))) hrw2 (fun hrw3=>?_);have hp1:=runDM_pers (P:=C.P) (ops:=ops) (h0:=D.h0) (r0:=D.r0) ops.size ⟨n,d.listed.setIfInBounds i true,s'⟩;rw [hrun] at hrw3 hp1 ⊢;refine loopT_sound hD e3 hL hsel hl (fun p hp=>hob p (List.mem_append_right _ (List.mem_append_right _ hp))) (fun e he q hq=>?_) hrw3 hV;have hpp:=put_pers hput;rw [hp1,show s'.pers=d.st.pers from hpp];exact hn e he q hq
       ·cases h
      ·cases h
     ·cases h
    ·cases h
   ·cases h
theorem drawT_sound {T:List (Ent C.P)} {c c':Cfg} {ob:List Prop} (h:drawT C.P T c=some (c',ob)) (hob:∀ p∈ob,p) (hn:∀ e∈T,∀ q∈e.sp.need,q∈c.st.pers) (hV:V C c'):V C c:=by
 unfold drawT at h;split at h
 ·rename_i ops k hc;generalize findL ops ops.size 0=L at h;unfold drawB at h;split at h
  ·rename_i hm hsel hL;split at h;rename_i d ob1 hrun;split at h
   ·rename_i c2 ob2 hl;cases h;have hL':LastOp ops L∨ops.size≤L:=by
     rw [Bool.or_eq_true] at hL;rcases hL with hL | hL
     ·exact .inl (lastB_ok hL)
     ·exact .inr (Nat.le_of_ble_eq_true hL)
    refine V.draw [] [] L ops k hc hm (fun D hD h1 h2 h3 h4 _ hrw _ _=>?_) (by simp);rw [heldOf_nil] at h1 h3;refine VD.runM hD (by rw [h4]; exact hL') hsel ops.size _ (by rw [h1,h3,hrun]; exact fun p hp=>hob p (List.mem_append_left _ hp)) hrw (fun hrw2=>?_);have hp1:=runDM_pers (P:=C.P) (ops:=ops) (h0:=c.st.heap) (r0:=c.st.rows) ops.size ⟨ops.size,Array.replicate ops.size false,c.st⟩;rw [h1,h3,hrun] at hrw2 ⊢;rw [hrun] at hp1;refine loopT_sound hD h4 hL' hsel (by rw [h1,h3]; exact hl) (fun p hp=>hob p (List.mem_append_right _ hp)) (fun e he q hq=>?_) hrw2 hV;rw [hp1];exact hn e he q hq
   ·cases h
  ·cases h
 ·cases h
theorem stepT_sound {T:List (Ent C.P)} {c c':Cfg} {ob:List Prop} (h:stepT C.P T c=some (c',ob)) (hob:∀ p∈ob,p) (hn:∀ e∈T,∀ q∈e.sp.need,q∈c.st.pers) (hV:V C c'):V C c:=by
 unfold stepT at h;split at h
 ·rename_i r hs; cases h; exact sstep_sound hs hob hV
 ·split at h
  ·rename_i f xs hc;split at h
   ·rename_i v ob1 hct;split at h
    ·rename_i c2 ha;cases h;obtain ⟨b1,b2,b3⟩:=callT_ok (C:=C) hct hob hn;obtain ⟨w1,w2⟩:=wfR_ok (W:=c.st.W) b2 rfl;refine V.callD f xs v hc (enters b1) (by rw [ha]; rfl) w1 w2 b3 ?_;have:afterD c c.st v=c':=by unfold afterD; rw [ha]; rfl
     rw [this]; exact hV
    ·cases h
   ·cases h
  ·rename_i g pol b f xs hc;split at h
   ·rename_i x ob1 hct;split at h
    ·rename_i c2 ha;cases h;have:afterD c { c.st with gs:=addNat c.st.gs g } (.grd g pol b x)=c':=by unfold afterD; rw [ha]; rfl
     obtain ⟨b1,b2⟩:entersB C.P f=true∧wfR c.st.next (.v x)=true:=by
      unfold callT at hct;split at hct
      ·rename_i e he;obtain ⟨hm,rfl⟩:=findE_mem he;split at hct
       ·rename_i h1 h2;split at hct
        ·split at hct
         ·rename_i h3; cases hct; exact ⟨h1,h3⟩
         ·cases hct
        ·cases hct
       ·cases hct
      ·cases hct
     refine V.callAD g pol b f xs x hc (enters b1) (by rw [ha]; rfl) (wfC_ok (W:=c.st.W) b2 rfl) (fun hb ρ a w hS=>?_) (by rw [this]; exact hV);exact (callT_ok (C:=C) hct (impAll_mem hob hb) hn).2.2 ρ a w hS
    ·cases h
   ·cases h
  ·exact drawT_sound h hob hn hV
theorem runT_sound {T:List (Ent C.P)}:∀ (n:Nat) (c:Cfg),(∀ p∈(runT C.P T n c).2,p)→(∀ e∈T,∀ q∈e.sp.need,q∈c.st.pers)→V C (runT C.P T n c).1→V C c
 | 0,c,_,_,h=>h
 | n+1,c,hob,hn,h=>by
  unfold runT at hob h;split at hob
  ·rename_i hs; rw [hs] at h; exact h
  ·rename_i c' hs;rw [hs] at h;exact stepT_sound hs (by simp) hn (runT_sound n c' hob (fun e he q hq=>by rw [stepT_pers hs]; exact hn e he q hq) h)
  ·rename_i c' ob hne hs;rw [hs] at h;have h':V C (runT C.P T n c').1:=by
    revert h;split
    ·rename_i heq; cases heq
    ·rename_i c3 heq; cases heq; exact (hne rfl).elim
    ·rename_i c3 ob3 _ heq; cases heq; exact id
   exact stepT_sound hs (fun p hp=>hob p (List.mem_append_left _ hp)) hn (runT_sound n c' (fun p hp=>hob p (List.mem_append_right _ hp)) (fun e he q hq=>by rw [stepT_pers hs]; exact hn e he q hq) h')
theorem V.runT (T:List (Ent C.P)) (ob:List Prop) {c:Cfg} (hr:(SX.runT C.P T 1000 c).2=ob) (hn:needT T c.st.pers=wantT T) (ho:allP ob) (h:V C (SX.runT C.P T 1000 c).1):V C c :=
 runT_sound 1000 c (hr▸allP_mem ho) (needT_ok hn) h
end
theorem V.q {C:Ctx} {c:Cfg} (h:V C (SX.runT C.P [] 1000 c).1) (hr:(SX.runT C.P [] 1000 c).2=[]:=by kernel_rfl) (hn:needT ([]:List (Ent C.P)) c.st.pers=wantT ([]:List (Ent C.P)):=by kernel_rfl):V C c:=V.runT [] [] hr hn trivial h
theorem V.t {C:Ctx} (T:List (Ent C.P)) (ob:List Prop) {c:Cfg} (ho:allP ob) (h:V C (SX.runT C.P T 1000 c).1) (hr:(SX.runT C.P T 1000 c).2=ob:=by kernel_rfl) (hn:needT T c.st.pers=wantT T:=by kernel_rfl):V C c:=V.runT T ob hr hn ho h
end Go.SX
end
section
namespace Go.SX
open Go
def svsSlots (sl:List (Nat×RV)):List Nat→List SV
 | []=>[]
 | k::l=>match look sl k with
  | some v=>appendL v.svs (svsSlots sl l)
  | none=>svsSlots sl l
def headK (ks:List Nat) (pm:List Bool) (c:Cfg):Option St :=
 match canon c.st.heap (upto c.st.fx 0) (svsSlots c.st.slots ks) with
 | (hs,rs)=>pickSt ks hs rs pm c.st
section
variable {C:Ctx}
theorem V.loopK (ks:List Nat) (pm:List Bool) {ι:Type} (μ : ι→Nat) (st:ι→St) (pre:ι→Prop) (i:ι) {c:Cfg}
  (hp:headK ks pm c=some (st i)) (hi:pre i)
  (hstep:∀ i,pre i→(∀ j,pre j → μ j < μ i→V C ⟨(SX.iter c).todo,st j⟩)→V C ⟨(SX.iter c).todo,st i⟩):V C c:=by
 unfold headK at hp;split at hp;exact V.loopAt ks _ _ pm μ st pre i hp hi hstep
theorem V.againK (ks:List Nat) (pm:List Bool) {T:List Item} {s':St} {c:Cfg} (h:V C ⟨T,s'⟩) (hT:(SX.iter c).todo=T)
  (hp:headK ks pm c=some s'):V C c:=by
 unfold headK at hp;split at hp;exact V.again ks _ _ pm h hT hp
theorem V.backK (ks:List Nat) (pm:List Bool) {T:List Item} {s':St} {c:Cfg} (h:V C ⟨T,s'⟩) (hT:c.todo=T) (hp:headK ks pm c=some s'):V C c:=by
 unfold headK at hp;split at hp;exact V.back ks _ _ pm h hT hp
def SV.froze (r:Nat):SV→SV
 | .row r' s n cap=>match Nat.beq r r' with
  | true=>.val (.slice s n cap)
  | false=>.row r' s n cap
 | x=>x
def CV.froze (r:Nat):CV→CV
 | .one x=>.one (x.froze r)
 | .agg xs=>.agg (xs.map (SV.froze r))
def RV.froze (r:Nat):RV→RV
 | .v x=>.v (x.froze r)
 | .tup xs=>.tup (xs.map (CV.froze r))
 | .grd g pol c x=>.grd g pol c (x.froze r)
def mapK {α:Type} (f:α→α):List (Nat×α)→List (Nat×α)
 | []=>[]
 | (k,v)::l=>(k,f v)::mapK f l
def Row.lent (R:Row):Row:={ R with own:=false }
def St.froze (s:St) (r:Nat) (p:Pers):St :=
 { s with slots:=mapK (RV.froze r) s.slots,heap:=mapK (fun b=>⟨b.cells.map (SV.froze r),b.elem,b.rw⟩) s.heap,rows:=eraseK r s.rows,pers:=p::s.pers }
theorem look_mapK {α:Type} (f:α→α):∀ (l:List (Nat×α)) (i:Nat),look (mapK f l) i=(look l i).map f
 | [],i=>rfl
 | (k,v)::l,i=>by
  simp only [mapK,look];split
  ·rfl
  ·exact look_mapK f l i
theorem SV.froze_den {r:Nat} {ρ:Nat→Nat} (x:SV):(x.froze r).den ρ=x.den ρ:=by
 cases x with
 | row r' s n cap=>simp only [SV.froze]; split<;>rfl
 | _=>rfl
theorem CV.froze_den {r:Nat} {ρ:Nat→Nat} (x:CV):(x.froze r).den ρ=x.den ρ:=by
 cases x with
 | one x=>exact SV.froze_den x
 | agg xs=>simp only [CV.froze,CV.den,List.map_map]; congr 2; exact List.map_congr_left fun x _=>SV.froze_den x
theorem RV.froze_den {r:Nat} {ρ:Nat→Nat} (x:RV):(x.froze r).den ρ=x.den ρ:=by
 cases x with
 | v x=>exact CV.froze_den x
 | tup xs=>simp only [RV.froze,RV.den,List.map_map]; congr 2; exact List.map_congr_left fun x _=>CV.froze_den x
 | grd g pol c x=>simp only [RV.froze,RV.den,CV.froze_den]
theorem SV.froze_wf {r:Nat} {W W':WF} (hW:W.le W') (x:SV) (h:x.wf W):(x.froze r).wf W':=by
 cases x with
 | row r' s n cap =>
  simp only [SV.froze];split
  ·trivial
  ·exact SV.wf_mono hW _ h
 | _=>exact SV.wf_mono hW _ h
theorem CV.froze_wf {r:Nat} {W W':WF} (hW:W.le W') (x:CV) (h:x.wf W):(x.froze r).wf W':=by
 cases x with
 | one x=>exact SV.froze_wf hW x h
 | agg xs=>intro y hy; obtain ⟨z,hz,rfl⟩:=List.mem_map.1 hy; exact SV.froze_wf hW z (h z hz)
theorem RV.froze_wf {r:Nat} {W W':WF} (hW:W.le W') (x:RV) (h:x.wf W):(x.froze r).wf W':=by
 cases x with
 | v x=>exact CV.froze_wf hW x h
 | tup xs=>intro y hy; obtain ⟨z,hz,rfl⟩:=List.mem_map.1 hy; exact CV.froze_wf hW z (h z hz)
 | grd g pol c x=>exact fun hc=>CV.froze_wf hW x (h hc)
theorem V.freeze (r:Nat) (R:Row) {c:Cfg} (hR:look c.st.rows r=some R) (ho:(R.own&&R.obj.isNone)=true)
  (h:V C ⟨c.todo,c.st.froze r (newP C.w0.heap.size C.S (rowP R.lent))⟩):V C c:=by
 intro ρ a w hS;rw [Bool.and_eq_true] at ho;obtain ⟨ho,hob⟩:=ho;have hob:R.obj=none:=by simpa using hob
 obtain ⟨r1,r2,r3⟩:=hS.rows r R hR;have huse:∀ k,R.lent.uses k→R.uses k:=by
  rintro k ⟨ad,h1,h2,h3⟩;refine ⟨ad,h1,h2,.inl ho⟩
 have hok:R.lent.ok w:=⟨r2.len,r2.addr,(fun e=>by cases e),(fun o e=>by rw [show R.lent.obj=R.obj from rfl,hob] at e; cases e)⟩;have hle:c.st.W.le (c.st.froze r (newP C.w0.heap.size C.S (rowP R.lent))).W:=⟨Nat.le_refl _,Nat.le_refl _,fun q _ Q hQ=>(look_eraseK hQ).2⟩;refine h ρ a w ⟨hS.n,?_,?_,?_,hS.inj,hS.lt,hS.defers,hS.chg,?_,?_,?_,hS.fix⟩
 ·intro i v hv;simp only [St.froze,look_mapK] at hv;obtain ⟨u,hu,rfl⟩:=Option.map_eq_some_iff.1 hv;obtain ⟨k1,k2⟩:=hS.slots i u hu;exact ⟨by rw [RV.froze_den]; exact k1,RV.froze_wf hle u k2⟩
 ·intro i g pol b x hv;simp only [St.froze,look_mapK] at hv ⊢;obtain ⟨u,hu,hu'⟩:=Option.map_eq_some_iff.1 hv;cases u with
  | grd g' pol' b' x' =>
   simp only [RV.froze,RV.grd.injEq] at hu';obtain ⟨rfl,rfl,rfl,rfl⟩:=hu';obtain ⟨k1,k2⟩:=hS.grds i _ _ _ _ hu;exact ⟨k1,by rw [k2]; rfl⟩
  | v x=>cases hu'
  | tup x=>cases hu'
 ·intro b blk hb;simp only [St.froze,look_mapK] at hb;obtain ⟨u,hu,rfl⟩:=Option.map_eq_some_iff.1 hb;obtain ⟨k1,k2,k3,k4⟩:=hS.heap b u hu;refine ⟨k1,?_,?_,k4⟩
  ·have:(u.cells.map (SV.froze r)).map (SV.den ρ)=u.cells.map (SV.den ρ):=by rw [List.map_map]; exact List.map_congr_left fun x _=>SV.froze_den x
   simp only [this]; exact k2
  ·intro x hx; obtain ⟨y,hy,rfl⟩:=List.mem_map.1 hx; exact SV.froze_wf hle y (k3 y hy)
 ·intro q Q hQ;obtain ⟨_,h2⟩:=look_eraseK hQ;exact hS.rows q Q h2
 ·intro q q' Q Q' h1 h2;exact hS.rowsD q q' Q Q' (look_eraseK h1).2 (look_eraseK h2).2
 ·intro p hp;rcases List.mem_cons.1 hp with rfl | hp
  ·have hpure:∀ k,(rowP R.lent).D k→C.w0.heap.size≤k∨C.S k:=fun k hk=>(r3 k (huse k hk)).2.2 ho;refine ⟨⟨hok,hpure⟩,fun w2 hw2=>⟨hok.congr hw2,hpure⟩,fun k hk=>?_⟩;obtain ⟨q1,q2,q3⟩:=r3 k (huse k hk);refine ⟨q1,q2,fun q Q hQ hQo hu=>?_⟩;obtain ⟨hne,h2⟩:=look_eraseK hQ;exact hS.rowsD r q R Q hR h2 (fun e=>hne e.symm) ho k (huse k hk) hu
  ·obtain ⟨p1,p2,p3⟩:=hS.pers p hp;exact ⟨p1,p2,fun k hk=>⟨(p3 k hk).1,(p3 k hk).2.1,fun q Q hQ=>(p3 k hk).2.2 q Q (look_eraseK hQ).2⟩⟩
theorem pers_base {ρ:Nat→Nat} {a:Act} {w:World} {s:St} {pi:List (Nat×Bool)} {qs:List Pers} (hS:Sat C ρ s a w) (hq:getP pi s.pers=some (askP C.w0.heap.size C.S pi qs)) :
  ∀ q∈qs,q.φ w∧(∀ w',(∀ k,q.D k→w'.heap[k]?=w.heap[k]?)→q.φ w') ∧
   ∀ k,q.D k→k<w.heap.size∧(∀ b,b<s.next→ρ b≠k)∧∀ r R,look s.rows r=some R→R.own=true→¬ R.uses k:=by
 intro q hq';rcases askP_mem (n0:=C.w0.heap.size) (S:=C.S) (l:=pi) q hq' with h1 | h1
 ·exact hS.pers q (getP_mem hq q h1)
 ·obtain ⟨p1,p2,p3⟩:=hS.pers _ (getP_mem hq _ h1);exact ⟨p1.1,fun w' hw'=>(p2 w' hw').1,p3⟩
theorem V.persAs (pi:List (Nat×Bool)) (qs:List Pers) (p:Pers) {c:Cfg} (hq:getP pi c.st.pers=some (askP C.w0.heap.size C.S pi qs)) (hD:∀ k,p.D k→∃ q∈qs,q.D k) (hφ:∀ w,(∀ q∈qs,q.φ w)→p.φ w)
  (hst:∀ w w',(∀ k,p.D k→w'.heap[k]?=w.heap[k]?)→p.φ w→p.φ w')
  (h:V C ⟨c.todo,{ c.st with pers:=p::c.st.pers }⟩):V C c:=by
 intro ρ a w hS;have hbase:=pers_base hS hq;refine h ρ a w ⟨hS.n,hS.slots,hS.grds,hS.heap,hS.inj,hS.lt,hS.defers,hS.chg,hS.rows,hS.rowsD,?_,hS.fix⟩;intro p' hp';rcases List.mem_cons.1 hp' with rfl | hp'
 ·have h0:=hφ w (fun q hq'=>(hbase q hq').1);refine ⟨h0,fun w' hw'=>hst w w' hw' h0,fun k hk=>?_⟩;obtain ⟨q,hq',hk'⟩:=hD k hk;exact (hbase q hq').2.2 k hk'
 ·exact hS.pers p' hp'
def allNew:List (Nat×Bool)→Bool
 | []=>true
 | (_,b)::l=>match b with
  | true=>allNew l
  | false=>false
theorem askP_new {n0:Nat} {S:Nat→Prop}:∀ {l:List (Nat×Bool)} {qs:List Pers},allNew l=true→qs.length≤l.length→∀ q∈qs,newP n0 S q∈askP n0 S l qs
 | [],qs,_,hl,q,hq=>by have:qs=[]:=List.eq_nil_of_length_eq_zero (by simpa using hl); subst this; simp at hq
 | (_,true)::l,[],_,_,q,hq=>by simp at hq
 | (_,true)::l,q0::qs,h,hl,q,hq=>by
  rcases List.mem_cons.1 hq with rfl | hq
  ·exact List.mem_cons_self ..
  ·exact List.mem_cons_of_mem _ (askP_new (l:=l) (by simpa [allNew] using h) (by simpa using hl) q hq)
 | (_,false)::l,_,h,_,_,_=>by cases h
theorem V.persNew (pi:List (Nat×Bool)) (qs:List Pers) (p:Pers) {c:Cfg} (hq:getP pi c.st.pers=some (askP C.w0.heap.size C.S pi qs)) (hb:(allNew pi&&Nat.ble qs.length pi.length)=true)
  (hD:∀ k,p.D k→∃ q∈qs,q.D k) (hφ:∀ w,(∀ q∈qs,q.φ w)→p.φ w)
  (hst:∀ w w',(∀ k,p.D k→w'.heap[k]?=w.heap[k]?)→p.φ w→p.φ w')
  (h:V C ⟨c.todo,{ c.st with pers:=newP C.w0.heap.size C.S p::c.st.pers }⟩):V C c:=by
 intro ρ a w hS;rw [Bool.and_eq_true] at hb;have hbase:=pers_base hS hq;refine h ρ a w ⟨hS.n,hS.slots,hS.grds,hS.heap,hS.inj,hS.lt,hS.defers,hS.chg,hS.rows,hS.rowsD,?_,hS.fix⟩;intro p' hp';rcases List.mem_cons.1 hp' with rfl | hp'
 ·have h0:=hφ w (fun q hq'=>(hbase q hq').1);have hpure:∀ k,p.D k→C.w0.heap.size≤k∨C.S k:=by
   intro k hk;obtain ⟨q,hq',hk'⟩:=hD k hk;have hm:=getP_mem hq _ (askP_new hb.1 (Nat.le_of_ble_eq_true hb.2) q hq');exact (hS.pers _ hm).1.2 k hk'
  refine ⟨⟨h0,hpure⟩,fun w' hw'=>⟨hst w w' hw' h0,hpure⟩,fun k hk=>?_⟩;obtain ⟨q,hq',hk'⟩:=hD k hk;exact (hbase q hq').2.2 k hk'
 ·exact hS.pers p' hp'
theorem rowP_stable (R:Row):∀ w w':World,(∀ k,(rowP R).D k→w'.heap[k]?=w.heap[k]?)→(rowP R).φ w→(rowP R).φ w':=fun _ _ hw h=>Row.ok.congr h hw
end
end Go.SX
end
section
namespace Go.SX
open Go
def mergeS (b:Bool):SV→SV→Option SV
 | .int k m,.int k' n=>match kindEq k k' with
  | true=>some (.int k (cond b m n))
  | false=>none
 | .str l,.str m=>some (.str (cond b l m))
 | .val v,.val w=>some (.val (cond b v w))
 | x,y=>match bOf x,bOf y with
  | some p,some q=>some (.sb (cond b p q))
  | _,_=>none
def mergeL (b:Bool):List SV→List SV→Option (List SV)
 | [],[]=>some []
 | x::l,y::m=>match mergeS b x y,mergeL b l m with
  | some z,some r=>some (z::r)
  | _,_=>none
 | _,_=>none
def mergeC (b:Bool):CV→CV→Option CV
 | .one x,.one y=>match mergeS b x y with
  | some z=>some (.one z)
  | none=>none
 | .agg l,.agg m=>match mergeL b l m with
  | some r=>some (.agg r)
  | none=>none
 | _,_=>none
def mergeCs (b:Bool):List CV→List CV→Option (List CV)
 | [],[]=>some []
 | x::l,y::m=>match mergeC b x y,mergeCs b l m with
  | some z,some r=>some (z::r)
  | _,_=>none
 | _,_=>none
def mergeR (b:Bool):RV→RV→Option RV
 | .v x,.v y=>match mergeC b x y with
  | some z=>some (.v z)
  | none=>none
 | .tup l,.tup m=>match mergeCs b l m with
  | some r=>some (.tup r)
  | none=>none
 | _,_=>none
theorem mergeS_ok {b:Bool} {x y z:SV} (h:mergeS b x y=some z) (ρ:Nat→Nat):z.den ρ=cond b (x.den ρ) (y.den ρ):=by
 unfold mergeS at h;split at h
 ·split at h
  ·rename_i hk; have:=kindEq_iff hk; subst this; cases h; cases b<;>rfl
  ·cases h
 ·cases h; cases b<;>rfl
 ·cases h; cases b<;>rfl
 ·split at h
  ·rename_i hp hq; cases h; rw [bOf_den hp,bOf_den hq]; cases b<;>rfl
  ·cases h
theorem mergeL_ok {b:Bool} (ρ:Nat→Nat):∀ {l m r:List SV},mergeL b l m=some r→r.map (SV.den ρ)=cond b (l.map (SV.den ρ)) (m.map (SV.den ρ))
 | [],[],r,h=>by simp only [mergeL,Option.some.injEq] at h; subst h; cases b<;>rfl
 | x::l,y::m,r,h=>by
  simp only [mergeL] at h;split at h
  ·rename_i z r' hz hr;cases h;simp only [List.map_cons,mergeS_ok hz ρ,mergeL_ok ρ hr];cases b<;>rfl
  ·cases h
 | [],_::_,_,h=>by cases h
 | _::_,[],_,h=>by cases h
theorem mergeC_ok {b:Bool} {x y z:CV} (h:mergeC b x y=some z) (ρ:Nat→Nat):z.den ρ=cond b (x.den ρ) (y.den ρ):=by
 unfold mergeC at h;split at h
 ·split at h
  ·rename_i hz; cases h; exact mergeS_ok hz ρ
  ·cases h
 ·split at h
  ·rename_i hz; cases h; simp only [CV.den,mergeL_ok ρ hz]; cases b<;>rfl
  ·cases h
 ·cases h
theorem mergeCs_ok {b:Bool} (ρ:Nat→Nat):∀ {l m r:List CV},mergeCs b l m=some r→r.map (CV.den ρ)=cond b (l.map (CV.den ρ)) (m.map (CV.den ρ))
 | [],[],r,h=>by simp only [mergeCs,Option.some.injEq] at h; subst h; cases b<;>rfl
 | x::l,y::m,r,h=>by
  simp only [mergeCs] at h;split at h
  ·rename_i z r' hz hr;cases h;simp only [List.map_cons,mergeC_ok hz ρ,mergeCs_ok ρ hr];cases b<;>rfl
  ·cases h
 | [],_::_,_,h=>by cases h
 | _::_,[],_,h=>by cases h
theorem mergeR_ok {b:Bool} {x y z:RV} (h:mergeR b x y=some z) (ρ:Nat→Nat):z.den ρ=cond b (x.den ρ) (y.den ρ):=by
 unfold mergeR at h;split at h
 ·split at h
  ·rename_i hz; cases h; exact mergeC_ok hz ρ
  ·cases h
 ·split at h
  ·rename_i hz; cases h; simp only [RV.den,mergeCs_ok ρ hz]; cases b<;>rfl
  ·cases h
 ·cases h
def whenP (c pol:Bool):List Prop→List Prop
 | []=>[]
 | p::l=>(c=pol→p)::whenP c pol l
theorem whenP_mem {c pol:Bool}:∀ {l:List Prop},(∀ p∈whenP c pol l,p)→c=pol→∀ p∈l,p
 | [],_,_,p,hp=>by simp at hp
 | q::l,h,e,p,hp=>by
  rcases List.mem_cons.1 hp with rfl | hp
  ·exact h _ (List.mem_cons_self ..) e
  ·exact whenP_mem (fun p hp=>h p (List.mem_cons_of_mem _ hp)) e p hp
def isLoop (c:Cfg):Bool :=
 match c.todo with
 | .inLoop _::_=>true
 | .code (.loop _)::_=>true
 | _=>false
def evalT (P:Program) (f:FuncId) (T:List (Ent P)):Nat→Cfg→Option (RV×List Prop)
 | 0,_=>none
 | n+1,c=>match runT P T 1000 c with
  | (c',ob)=>match isEnd c'.todo with
   | true=>match resOf P f c'.st with
    | some v=>some (v,ob)
    | none=>none
   | false=>match condOf c' with
    | some (g,b)=>match evalT P f T n (c'.know g true),evalT P f T n (c'.know g false) with
     | some (v1,o1),some (v2,o2)=>match mergeR b v1 v2 with
      | some v=>some (v,ob++(whenP b true o1++whenP b false o2))
      | none=>none
     | _,_=>none
    | none=>match isLoop c' with
     | true=>match evalT P f T n (iter c') with
      | some (v,o1)=>some (v,ob++o1)
      | none=>none
     | false=>none
theorem runT_pers {P:Program} {T:List (Ent P)}:∀ (n:Nat) (c:Cfg),(runT P T n c).1.st.pers=c.st.pers
 | 0,_=>rfl
 | n+1,c=>by
  unfold runT;split
  ·rfl
  ·rename_i c' hs; exact (runT_pers n c').trans (stepT_pers hs)
  ·rename_i c' ob _ hs; exact (runT_pers n c').trans (stepT_pers hs)
section
variable {C:Ctx}
theorem evalT_sound {T:List (Ent C.P)}:∀ {n:Nat} {c:Cfg} {v:RV} {ob:List Prop},evalT C.P C.f T n c=some (v,ob)→(∀ p∈ob,p)→(∀ e∈T,∀ q∈e.sp.need,q∈c.st.pers) →
  (∀ ρ w,Chg C.S C.w0 w→C.R (.returned (v.den ρ)) w)→C.round=none→V C c
 | 0,_,_,_,h,_,_,_,_=>by cases h
 | n+1,c,v,ob,h,hob,hn,hR,hrd=>by
  unfold evalT at h;split at h;rename_i c' ob1 hrun;have hc1:(runT C.P T 1000 c).1=c':=by rw [hrun]
  have ho1:(runT C.P T 1000 c).2=ob1:=by rw [hrun]
  have hp:c'.st.pers=c.st.pers:=by rw [← hc1]; exact runT_pers 1000 c
  have hn':∀ e∈T,∀ q∈e.sp.need,q∈c'.st.pers:=fun e he q hq=>by rw [hp]; exact hn e he q hq
  have key:(∀ p∈ob1,p)→V C c'→V C c:=fun ho hV=>runT_sound 1000 c (by rw [ho1]; exact ho) hn (by rw [hc1]; exact hV);split at h
  ·rename_i he;split at h
   ·rename_i u hu;cases h;exact key hob (V.ret v (by unfold endR; rw [hrd]; exact hu) he (fun ρ a w hS=>hR ρ w hS.chg))
   ·cases h
  ·split at h
   ·rename_i g b hcond;split at h
    ·rename_i v1 o1 v2 o2 h1 h2;split at h
     ·rename_i u hm;cases h;refine key (fun p hp=>hob p (List.mem_append_left _ hp)) (V.branch g b hcond (fun hb=>?_) (fun hb=>?_))
      ·refine evalT_sound h1 (whenP_mem (fun p hp=>hob p (List.mem_append_right _ (List.mem_append_left _ hp))) hb) hn' (fun ρ w hc=>?_) hrd;have:=mergeR_ok hm ρ;rw [hb] at this;rw [show v1.den ρ=v.den ρ from this.symm];exact hR ρ w hc
      ·refine evalT_sound h2 (whenP_mem (fun p hp=>hob p (List.mem_append_right _ (List.mem_append_right _ hp))) hb) hn' (fun ρ w hc=>?_) hrd;have:=mergeR_ok hm ρ;rw [hb] at this;rw [show v2.den ρ=v.den ρ from this.symm];exact hR ρ w hc
     ·cases h
    ·cases h
   ·split at h
    ·rename_i hl;split at h
     ·rename_i u o1 h1;cases h;refine key (fun p hp=>hob p (List.mem_append_left _ hp)) (V.iter ?_);exact evalT_sound h1 (fun p hp=>hob p (List.mem_append_right _ hp)) (fun e he q hq=>by rw [iter_st]; exact hn' e he q hq) hR hrd
     ·cases h
    ·cases h
end
def cfgP (fn:Func) (xs:List CV) (wr:Bool) (ps:List Pers):Cfg:=⟨[.code (bodyOf fn)],st0 fn.ntmps xs [] 0 [] 0 ps wr⟩
theorem plainS_den {x:SV} (h:plainB x=true) (ρ ρ':Nat→Nat):x.den ρ=x.den ρ':=by cases x<;>first | rfl | cases h
theorem plainL_den {l:List SV} (h:l.all plainB=true) (ρ ρ':Nat→Nat):l.map (SV.den ρ)=l.map (SV.den ρ'):=List.map_congr_left fun x hx=>plainS_den (List.all_eq_true.1 h x hx) ρ ρ'
theorem plainC_den {x:CV} (h:plainC x=true) (ρ ρ':Nat→Nat):x.den ρ=x.den ρ':=by
 cases x with
 | one x=>exact plainS_den h ρ ρ'
 | agg l=>simp only [CV.den]; rw [plainL_den h ρ ρ']
theorem plainCs_den {l:List CV} (h:l.all plainC=true) (ρ ρ':Nat→Nat):l.map (CV.den ρ)=l.map (CV.den ρ'):=List.map_congr_left fun x hx=>plainC_den (List.all_eq_true.1 h x hx) ρ ρ'
theorem plainR_den {x:RV} (h:plainR x=true) (ρ ρ':Nat→Nat):x.den ρ=x.den ρ':=by
 cases x with
 | v x=>exact plainC_den h ρ ρ'
 | tup l=>simp only [RV.den]; rw [plainCs_den h ρ ρ']
 | grd=>cases h
theorem plainC_wfC {x:CV} (h:plainC x=true):wfC 0 x=true:=by
 have hs:∀ y,plainB y=true→wfS 0 y=true:=fun y hy=>by cases y<;>first | rfl | cases hy
 cases x with
 | one x=>exact hs x h
 | agg l=>exact List.all_eq_true.2 fun y hy=>hs y (List.all_eq_true.1 h y hy)
def Con.auto {P:Program} {f:FuncId} {fn:Func} (hf:P.funcs[f]?=some fn) (wr:Bool) (T:List (Ent P)) (need:List Pers) (hb:fn.body.isSome=true) (hn:needT T need=wantT T):Con P where
 f:=f
 need:=need
 fn:=fun xs=>match xs.all plainC,Nat.ble xs.length fn.ntmps with
  | true,true=>match evalT P f T 60 (cfgP fn xs wr need) with
   | some (v,ob)=>match plainR v with
    | true=>some (v,ob)
    | false=>none
   | none=>none
  | _,_=>none
 ok:=by
  intro xs v ob h hob ρ w hps _;split at h
  ·rename_i h1 h2;split at h
   ·rename_i v' ob' he;split at h
    ·rename_i hpl;cases h;rw [plainCs_den h1 ρ (fun _=>0)];refine Calls.of_P need hps xs wr hf hb h2 (List.all_eq_true.2 fun x hx=>plainC_wfC (List.all_eq_true.1 h1 x hx)) ?_;exact evalT_sound (C:=⟨P,f,Gives (v.den ρ) w,fun _=>False,w,fun _=>0,none⟩) he hob (needT_ok hn) (fun ρ' w' hc=>by rw [plainR_den hpl ρ' ρ]; exact ⟨rfl,hc⟩) rfl
    ·cases h
   ·cases h
  ·cases h
def Con.inst {P:Program} (f:FuncId) (need:List Pers) (ys:List CV) (v:RV) (h:∀ ρ w,PersOk need w→Calls P f (ys.map (CV.den ρ)).toArray w (Gives (v.den ρ) w)):Con P where
 f:=f
 need:=need
 fn:=fun xs=>some (v,[xs=ys])
 ok:=by
  intro xs v' ob h1 hob ρ w hps _;simp only [Option.some.injEq,Prod.mk.injEq] at h1;obtain ⟨rfl,rfl⟩:=h1;rw [hob (xs=ys) (List.mem_singleton.2 rfl)];exact h ρ w hps
def Con.e {P:Program} (s:Con P):Ent P:=⟨s,[]⟩
end Go.SX
end
section
namespace Go.SX
open Go
def strOf (P:Program) (c:Cfg):Option (TypeId×List UInt8) :=
 match headOp c with
 | some (.convert src dst x)=>match P.underlying src,P.underlying dst,ev c.st none x with
  | some .string,some (.slice e),some (.one (.str l))=>match P.underlying e with
   | some (.int .u8)=>some (e,l)
   | _=>none
  | _,_,_=>none
 | _=>none
def bytesR (l:List UInt8) (g cap:Nat) (e:TypeId):Row:=rowL bsv 0 l (some ⟨g,0,none⟩) cap e 1 false
section
variable {C:Ctx}
theorem V.toBytes (e:TypeId) (l:List UInt8) {c:Cfg} (hc:strOf C.P c=some (e,l))
  (haf:∀ g cap,(afterOp c (c.st.more [bytesR l g cap e] []) (.v (.one (.row c.st.nr (some ⟨g,0,none⟩) l.length cap)))).isSome=true)
  (k:∀ g cap,V C (afterD c (c.st.more [bytesR l g cap e] []) (.v (.one (.row c.st.nr (some ⟨g,0,none⟩) l.length cap))))):V C c:=by
 unfold strOf at hc;split at hc
 ·rename_i src dst x hop;split at hc
  ·rename_i e' l' hs hd hx;split at hc
   ·rename_i he;cases hc;refine V.opM hop (fun ρ a w o ho hS=>?_);obtain ⟨e1,_⟩:=ev_sound hS.toP (GcOk.none c.st) hx;have hrun:=run_bytes_of_string w src dst e ⟨l.toArray⟩ hs hd he;have hsz:(⟨l.toArray⟩:ByteArray).size=l.length:=by simp [ByteArray.size]
    rw [hsz] at hrun
    let cap:=grownCap w l.length 0 e
    let o':Obj:=.cells (bytesRow ⟨l.toArray⟩ cap) e ((bytesRow ⟨l.toArray⟩ cap).size,(bytesRow ⟨l.toArray⟩ cap).size+1)
    have hd0:Chg (fun _=>False) w w.drew:=⟨rfl,rfl,rfl,Nat.le_refl _,fun _ _ _=>rfl⟩;have hch:Chg (fun _=>False) w (w.drew.alloc o'):=Chg.trans (S:=fun _=>False) (T:=fun _=>False) hd0 (Chg.alloc _ _ _) (fun _ hi=>hi.elim);have hblk:(w.drew.alloc o').heap[w.heap.size]?=some o':=by
     show (w.heap.push o')[w.heap.size]?=some o';simp
    have hcell:∀ i x,l[i]?=some x→(w.drew.alloc o').cell? ⟨w.heap.size,i,none⟩=some (.int .u8 x.toNat):=by
     intro i x hi;rw [Lib.cell_of_heap hblk];have hil:=(List.getElem?_eq_some_iff.1 hi).1;rw [bytesRow,Array.getElem?_append_left (by simpa using hil)];simp [hi]
    have hR:(bytesR l w.heap.size cap e).ok (w.drew.alloc o'):=by
     refine ⟨fun i hi=>⟨rfl,fun y hy=>?_⟩,fun hn=>⟨w.heap.size,0,rfl,fun i j y hi hy=>?_⟩,(fun h=>by cases h),(fun o h=>by cases h)⟩
     ·simp only [bytesR,rowL,bsv,List.mem_singleton] at hy; subst hy; trivial
     ·have hi':i<l.length:=hi;cases j with
      | zero =>
       simp only [bytesR,rowL,bsv,List.getElem?_cons_zero,Option.some.injEq] at hy;subst hy;show (w.drew.alloc o').cell? ⟨w.heap.size,0+(i*1+0),none⟩=_;rw [show 0+(i*1+0)=i by omega,hcell i l[i] (by simp [hi'])];simp [SV.den0,SV.den,List.getD,List.getElem?_eq_getElem hi']
      | succ j=>simp [bytesR,rowL,bsv] at hy
    have hfresh:Fresh w (w.drew.alloc o') (numbered c.st.nr [bytesR l w.heap.size cap e]) []:=by
     refine ⟨fun r R hr=>?_,fun r r' R R' h1 h2 hne ho=>?_,fun p hp=>by cases hp⟩
     ·simp only [numbered,look] at hr;split at hr
      ·cases hr;refine ⟨hR,?_⟩;rintro k ⟨ad,hs',rfl,_⟩;cases hs';exact ⟨Nat.le_refl _,by show w.heap.size<(w.heap.push o').size; simp⟩
      ·cases hr
     ·simp only [numbered,look] at h1;split at h1
      ·cases h1; cases ho
      ·cases h1
    refine ⟨ρ,.v (.one (.row c.st.nr (some ⟨w.heap.size,0,none⟩) l.length cap)),_,c.st.more [bytesR l w.heap.size cap e] [],?_,hS.more hch hfresh,?_,by simp,_,afterD_some (haf _ _),k _ _⟩
    ·unfold execOp;rw [ho];refine execVal2 ?_;rw [e1];exact hrun
    ·refine ⟨by show c.st.nr<c.st.nr+1; omega,fun R hR'=>?_⟩;have:look (c.st.more [bytesR l w.heap.size cap e] []).W.rows c.st.nr=some (bytesR l w.heap.size cap e):=by
      show look (appendL (numbered c.st.nr [bytesR l w.heap.size cap e]) c.st.rows) c.st.nr=_;simp [numbered,appendL,look,Nat.beq_refl]
     rw [this] at hR';cases hR';exact ⟨rfl,rfl,rfl⟩
   ·cases hc
  ·cases hc
 ·cases hc
end
end Go.SX
end
section
namespace Go.SX
open Go
def Yields (P:Program) (l:Nat) (args:Array Value) (w:World) (R:Value→World→Prop):Prop :=
 ∃ f tmps assign body,(Instr.yield l args).run P w=.ok (.round l f tmps assign body) w ∧
  ∀ c cs,∃ v w',R v w'∧Steps P (lone (Frame.round l f tmps assign body .normal) (c::cs) w) (lone (c.finish v) cs w')
theorem Ok.op_yield {C:Ctx} {a:Act} {w:World} {ops:Array Oper} {i:Nat} {r:List Nat} {k:List Item} {o:Oper} (ho:ops[i]?=some o) (hw:Region.wanted o (yielded ops a.tmps)=true)
  {l:Nat} {f:FuncId} {tmps:Array Value} {assign body:Code} (hr:(execOp a.eval o).run C.P w=.ok (.round l f tmps assign body) w) {R:Value→World→Prop}
  (hst:∀ c cs,∃ v w',R v w'∧Steps C.P (lone (Frame.round l f tmps assign body .normal) (c::cs) w) (lone (c.finish v) cs w'))
  (h:∀ v w',R v w'→Ok C (.inRegion ops r::k) (a.put o.dst v) w'):Ok C (.inRegion ops (i::r)::k) a w:=by
 intro b hb hk hro cs hcs;have hg:=stepGR_op (P:=C.P) (b:=b) (k:=k) (cs:=cs) (w:=w) (rest:=r) ho hw;rw [Oper.semAt_eq _ _ _ (no_defer hr (by simp))] at hg;obtain ⟨v,w2,hR,hsteps⟩:=hst (b.atR a (.inRegion ops (i::r)::k)) cs;have henter:Go.step C.P (lone (b.atR a (.inRegion ops (i::r)::k)) cs w)=.next (lone (Frame.round l f tmps assign body .normal) (b.atR a (.inRegion ops (i::r)::k)::cs) w) :=
  step_lone_go (by rw [hg]; simp [stepG.apply,hr,Frame.atR])
 obtain ⟨e,w3,h1,h2⟩:=h v w2 hR b hb hk hro cs hcs;have hfin:(b.atR a (.inRegion ops (i::r)::k)).finish v=b.atR (a.put o.dst v) (.inRegion ops r::k):=by rw [Frame.finish_atR,ho]; rfl
 rw [hfin] at hsteps;exact ⟨e,w3,h1,h2.of_steps (.head henter hsteps)⟩
structure Yd (P:Program) (l n:Nat) (enc:Nat→Array Value) (w0:World) where
 J:Nat→(Nat→Prop)→(Nat→Prop)→World→Prop
 Jx:(Nat→Prop)→(Nat→Prop)→World→Prop
 st:∀ i O Ow W W',J i O Ow W→(∀ k,O k→W'.heap[k]?=W.heap[k]?)→J i O Ow W'
 stx:∀ O Ow W W',Jx O Ow W→(∀ k,O k→W'.heap[k]?=W.heap[k]?)→Jx O Ow W'
 lt:∀ i O Ow W,J i O Ow W→∀ k,O k→k<W.heap.size
 ltx:∀ O Ow W,Jx O Ow W→∀ k,O k→k<W.heap.size
 own:∀ i O Ow W,J i O Ow W→∀ k,Ow k→O k
 y:∀ i O Ow W,i<n→J i O Ow W→W.os=w0.os→W.tape=w0.tape→W.output=w0.output→Yields P l (enc i) W fun v W'=>∃ O' Ow',Chg Ow W W'∧(∀ k,O' k→O k∨W.heap.size≤k)∧(∀ k,Ow' k→Ow k∨W.heap.size≤k) ∧
  ((v=.bool true∧J (i+1) O' Ow' W')∨(v=.bool false∧Jx O' Ow' W'))
def jP {P:Program} {l n:Nat} {enc:Nat→Array Value} {w0:World} (Y:Yd P l n enc w0) (i:Nat) (O Ow:Nat→Prop) (ps:List Pers):Pers :=
 ⟨O,fun W=>Y.J i O Ow W∧∀ p∈ps,∀ k,p.D k→¬ Ow k⟩
def jX {P:Program} {l n:Nat} {enc:Nat→Array Value} {w0:World} (Y:Yd P l n enc w0) (O Ow:Nat→Prop):Pers:=⟨O,fun W=>Y.Jx O Ow W⟩
def yieldOf (c:Cfg):Option (Nat×List CV) :=
 match c.todo with
 | .inRegion ops (i::_)::_=>match ops[i]? with
  | some o=>match o.op with
   | .call cl=>match grdOf c.st ops o.guard,cl.callee with
    | .yes,.value x=>match ev c.st none x,evs c.st none cl.args.toList with
     | some (.one (.val (.func (.yield l) fs cs))),some xs=>match fs.toList,cs.toList with
      | [],[]=>some (l,xs)
      | _,_=>none
     | _,_=>none
    | _,_=>none
   | _=>none
  | none=>none
 | _=>none
section
variable {C:Ctx}
theorem V.yield {l n:Nat} {enc:Nat→Array Value} (Y:Yd C.P l n enc C.w0) (i:Nat) (O Ow:Nat→Prop) (ps:List Pers) (xs:List CV) {c:Cfg} (hc:yieldOf c=some (l,xs)) (hS:∀ k,C.S k)
  (hp:c.st.pers=jP Y i O Ow ps::ps) (hrows:ownAll c.st.rows=true) (hi:i<n) (hx:∀ ρ,(xs.map (CV.den ρ)).toArray=enc i)
  (haf:((afterOp c c.st (.v (.one (.bool true)))).isSome&&(afterOp c c.st (.v (.one (.bool false)))).isSome)=true)
  (k1:∀ O' Ow',V C (afterD c { c.st with pers:=jP Y (i+1) O' Ow' ps::ps } (.v (.one (.bool true)))))
  (k2:∀ O' Ow',V C (afterD c { c.st with pers:=jX Y O' Ow'::ps } (.v (.one (.bool false))))):V C c:=by
 intro ρ a w hS0;rw [Bool.and_eq_true] at haf;obtain ⟨todo,st⟩:=c;unfold yieldOf at hc;simp only at hc hp hrows haf k1 k2 hS0 ⊢;split at hc
 case h_2=>cases hc
 rename_i ops idx r k;split at hc
 case h_2=>cases hc
 rename_i o ho;split at hc
 case h_2=>cases hc
 rename_i cl hop;split at hc
 case h_2=>cases hc
 rename_i x hg hcal;split at hc
 case h_2=>cases hc
 rename_i l' fs cs xs' hx1 hx2;split at hc
 case h_2=>cases hc
 rename_i hfs hcs;cases hc;obtain ⟨e1,_⟩:=ev_sound hS0.toP (GcOk.none st) hx1;have hargs:cl.args.map a.eval=(xs.map (CV.den ρ)).toArray:=by
  have:=(evs_sound hS0.toP (GcOk.none st) hx2).1;apply Array.ext';simpa using this
 rw [hx ρ] at hargs;have hfs':fs=#[]:=by apply Array.ext'; simpa using hfs
 have hcs':cs=#[]:=by apply Array.ext'; simpa using hcs
 subst hfs' hcs';obtain ⟨⟨p1,p2⟩,_,p3⟩:=hS0.pers (jP Y i O Ow ps) (by rw [hp]; exact List.mem_cons_self ..);obtain ⟨f,tmps,assign,body,hy,hst⟩:=Y.y i O Ow w hi p1 hS0.chg.os hS0.chg.tape hS0.chg.output;have hr:(execOp a.eval o).run C.P w=.ok (.round l f tmps assign body) w:=by
  obtain ⟨callee,args,argTypes⟩:=cl;simp only at hcal hargs;subst hcal;unfold execOp;rw [hop];simp only [resolve,e1,CV.den,SV.den,Deferred.ofValue,Sem.run_bind,Sem.run_pure,Result.andThen_ok,invoke,hargs];simpa using hy
 refine Ok.op_yield ho (grd_yes hS0 hg) hr hst (fun v W' hR=>?_);obtain ⟨O',Ow',hch,hO,hOw,hcase⟩:=hR
 -- what the function that is ranged over knows is as it was
 have hnt:∀ b,b<st.next→¬ Ow (ρ b):=fun b hb hk=>(p3 _ (Y.own i O Ow w p1 _ hk)).2.1 b hb rfl;have hsame:∀ k,k<w.heap.size→¬ Ow k→W'.heap[k]?=w.heap[k]?:=fun k hk hn=>hch.block k hk hn;have hrow:∀ q R,look st.rows q=some R→∀ k,R.uses k→¬ Ow k:=fun q R hR k hk ho' =>
  (p3 k (Y.own i O Ow w p1 k ho')).2.2 q R hR (ownAll_ok hrows hR) hk
 have hS1:∀ p':Pers,(p'.φ W')→(∀ w2,(∀ k,p'.D k→w2.heap[k]?=W'.heap[k]?)→p'.φ w2)→(∀ k,p'.D k→k<W'.heap.size)→(∀ k,p'.D k→O' k) →
   ∀ qs,(∀ q∈qs,q∈ps)→Sat C ρ { st with pers:=p'::qs } a W':=by
  intro p' q1 q2 q3 q4 qs hqs;refine ⟨hS0.n,hS0.slots,hS0.grds,?_,hS0.inj,fun b hb=>Nat.lt_of_lt_of_le (hS0.lt b hb) hch.size,hS0.defers,hS0.chg.trans hch (fun k _=>.inr (hS k)),?_,hS0.rowsD,?_,hS0.fix⟩
  ·intro b blk hb;obtain ⟨k1,k2,k3,k4⟩:=hS0.heap b blk hb;exact ⟨k1,(hsame _ (hS0.lt b k1) (hnt b k1)).trans k2,k3,k4⟩
  ·intro q R hR;obtain ⟨k0,k1,k2⟩:=hS0.rows q R hR;exact ⟨k0,k1.congr (fun k hk=>hsame k (k2 k hk).1 (hrow q R hR k hk)),fun k hk=>⟨Nat.lt_of_lt_of_le (k2 k hk).1 hch.size,(k2 k hk).2⟩⟩
  ·intro p hpm;rcases List.mem_cons.1 hpm with rfl | hpm
   ·refine ⟨q1,q2,fun k hD=>⟨q3 k hD,fun b hb e=>?_,fun q R hR ho' hu=>?_⟩⟩
    ·rcases hO k (q4 k hD) with h | h
     ·exact (p3 k h).2.1 b hb e
     ·have:=hS0.lt b hb; omega
    ·rcases hO k (q4 k hD) with h | h
     ·exact (p3 k h).2.2 q R hR ho' hu
     ·have:=((hS0.rows q R hR).2.2 k hu).1; omega
   ·have hpm':=hqs p hpm;obtain ⟨r1,r2,r3⟩:=hS0.pers p (by rw [hp]; exact List.mem_cons_of_mem _ hpm');have hk:∀ k,p.D k→W'.heap[k]?=w.heap[k]?:=fun k hD=>hsame k (r3 k hD).1 (p2 p hpm' k hD);exact ⟨r2 _ hk,fun w2 hw2=>r2 w2 (fun k hD=>(hw2 k hD).trans (hk k hD)),fun k hD=>⟨Nat.lt_of_lt_of_le (r3 k hD).1 hch.size,(r3 k hD).2⟩⟩
 have hdone:∀ (b:Bool) (s1:St),Sat C ρ s1 a W'→s1.n=st.n→s1.gs=st.gs→s1.slots=st.slots→v=.bool b→(afterOp ⟨.inRegion ops (idx::r)::k,st⟩ st (.v (.one (.bool b)))).isSome=true →
   V C (afterD ⟨.inRegion ops (idx::r)::k,st⟩ s1 (.v (.one (.bool b))))→Ok C (.inRegion ops r::k) (a.put o.dst v) W':=by
  intro b s1 h1 hn hgs hsl hv haf1 hV;subst hv;unfold afterD at hV;simp only [afterOp,ho] at haf1 hV;have hput:(s1.put o.dst (.v (.one (.bool b)))).isSome=(st.put o.dst (.v (.one (.bool b)))).isSome:=by
   unfold St.put;rw [hn,hgs];split
   ·rfl
   ·split
    ·rfl
    ·split<;>rfl
  cases hs1:s1.put o.dst (.v (.one (.bool b))) with
  | none =>
   rw [hs1] at hput;cases hs2:st.put o.dst (.v (.one (.bool b))) with
   | none=>rw [hs2] at haf1; cases haf1
   | some s2=>rw [hs2] at hput; cases hput
  | some s2 =>
   rw [hs1] at hV;exact hV ρ _ _ (h1.put hs1 trivial (fun g pol b x e=>by cases e))
 rcases hcase with ⟨hv,hJ⟩ | ⟨hv,hJ⟩
 ·refine hdone true _ (hS1 (jP Y (i+1) O' Ow' ps) ⟨hJ,fun p hpm k hD ho'=>?_⟩ (fun w2 hw2=>⟨Y.st _ _ _ _ _ hJ hw2,fun p hpm k hD ho'=>?_⟩) (Y.lt _ _ _ _ hJ) (fun k h=>h) ps (fun q h=>h)) rfl rfl rfl hv haf.1 (k1 O' Ow')
  all_goals
   rcases hOw k ho' with h | h
   ·exact p2 p hpm k hD h
   ·have:=((hS0.pers p (by rw [hp]; exact List.mem_cons_of_mem _ hpm)).2.2 k hD).1; omega
 ·exact hdone false _ (hS1 (jX Y O' Ow') hJ (fun w2 hw2=>Y.stx _ _ _ _ hJ hw2) (Y.ltx _ _ _ hJ) (fun k h=>h) ps (fun q h=>h)) rfl rfl rfl hv haf.2 (k2 O' Ow')
def IterR {P:Program} {l n:Nat} {enc:Nat→Array Value} {w:World} (Y:Yd P l n enc w) (e:Ending) (w':World):Prop :=
 (∃ v,e=.returned v)∧w'.os=w.os∧w'.tape=w.tape∧w'.output=w.output∧∃ O Ow,Y.J n O Ow w'∨Y.Jx O Ow w'
def Iter (P:Program) (g:FuncId) (ys:List CV) (F:St) (n:Nat) (enc:Nat→Array Value):Prop :=
 ∀ (ρ:Nat→Nat) (w:World) (l:Nat) (Y:Yd P l n enc w) (O Ow:Nat→Prop),FSat ρ F w→Y.J 0 O Ow w →
  (∀ k,O k→(∀ b,b<F.next→ρ b≠k)∧∀ r R,look F.rows r=some R→R.own=true→¬ R.uses k)→(∀ p∈F.pers,∀ k,p.D k→¬ Ow k) →
  Calls P g (#[Value.func (.yield l) #[] #[]]++(ys.map (CV.den ρ)).toArray) w (IterR Y)
def stI (n:Nat) (xs:List CV) (F:St) (p:Pers) (wr:Bool):St :=
 { n:=n,slots:=enum xs 0,gs:=[],heap:=F.heap,next:=F.next,rows:=F.rows,nr:=F.nr,pers:=p::F.pers,wr:=wr,fx:=F.next }
theorem Iter.mk {P:Program} {g:FuncId} {fn:Func} {ys:List CV} {F:St} {n:Nat} {enc:Nat→Array Value} (wr:Bool) (hf:P.funcs[g]?=some fn)
  (hb:(fn.body.isSome&&Nat.ble (ys.length+1) fn.ntmps)=true) (hw:fixA F ys=some ys)
  (h:∀ ρ w l (Y:Yd P l n enc w) O Ow,V ⟨P,g,IterR Y,fun _=>True,w,ρ,none⟩ ⟨[.code (bodyOf fn)],stI fn.ntmps (.one (.val (.func (.yield l) #[] #[]))::ys) F (jP Y 0 O Ow F.pers) wr⟩):Iter P g ys F n enc:=by
 intro ρ w l Y O Ow hF hJ hO hOw;rw [Bool.and_eq_true] at hb;have hargs:(#[Value.func (.yield l) #[] #[]]++(ys.map (CV.den ρ)).toArray)=((.one (.val (.func (.yield l) #[] #[]))::ys:List CV).map (CV.den ρ)).toArray:=by
  apply Array.ext'; simp [CV.den,SV.den]
 rw [hargs];refine Calls.of_V (fun _=>True) ρ ρ _ (stI fn.ntmps (.one (.val (.func (.yield l) #[] #[]))::ys) F (jP Y 0 O Ow F.pers) wr) hf hb.1 (by simpa using hb.2) (fun a h1 h2 h3=>?_) (h ρ w l Y O Ow);have hwf:∀ x∈(.one (.val (.func (.yield l) #[] #[]))::ys:List CV),x.wf F.W:=by
  intro x hx;rcases List.mem_cons.1 hx with rfl | hx
  ·trivial
  ·exact fixA_wf hw x hx
 refine ⟨h1,?_,?_,?_,hF.inj,hF.lt,h2,Chg.refl _ _,?_,hF.rowsD,?_,fun b hb=>⟨hb,rfl⟩⟩
 ·intro i v hv;obtain ⟨x,rfl,_,hx⟩:=look_enum _ 0 i v hv;exact ⟨h3 i x (by simpa using hx),hwf x (List.mem_of_getElem? hx)⟩
 ·intro i g pol c x hv;obtain ⟨y,e,_⟩:=look_enum _ 0 i _ hv;cases e
 ·intro b blk hb;obtain ⟨k1,k2,k3⟩:=hF.heap b blk hb;exact ⟨k1,k2,k3,fun _=>.inr trivial⟩
 ·intro r R hR;obtain ⟨k1,k2,k3⟩:=hF.rows r R hR;exact ⟨k1,k2,fun k hk=>⟨(k3 k hk).1,(k3 k hk).2,fun _=>.inr trivial⟩⟩
 ·intro p hp;rcases List.mem_cons.1 hp with rfl | hp
  ·exact ⟨⟨hJ,hOw⟩,fun w2 hw2=>⟨Y.st _ _ _ _ _ hJ hw2,hOw⟩,fun k hD=>⟨Y.lt _ _ _ _ hJ k hD,(hO k hD).1,(hO k hD).2⟩⟩
  ·exact hF.pers p hp
theorem V.iterEnd {P:Program} {g:FuncId} {l n:Nat} {enc:Nat→Array Value} {w:World} {base:Nat→Nat} (Y:Yd P l n enc w) (i:Nat) (hi:i=n) (O Ow:Nat→Prop) (ps:List Pers) (v:RV) {c:Cfg} (hr:resOf P g c.st=some v) (he:isEnd c.todo=true)
  (hp:c.st.pers=jP Y i O Ow ps::ps):V ⟨P,g,IterR Y,fun _=>True,w,base,none⟩ c:=by
 subst hi;refine V.ret v hr he (fun ρ a w' hS=>?_);obtain ⟨⟨p1,_⟩,_⟩:=hS.pers (jP Y i O Ow ps) (by rw [hp]; exact List.mem_cons_self ..);exact ⟨⟨_,rfl⟩,hS.chg.os,hS.chg.tape,hS.chg.output,O,Ow,.inl p1⟩
theorem V.iterOff {P:Program} {g:FuncId} {l n:Nat} {enc:Nat→Array Value} {w:World} {base:Nat→Nat} (Y:Yd P l n enc w) (O Ow:Nat→Prop) (ps:List Pers) (v:RV) {c:Cfg} (hr:resOf P g c.st=some v) (he:isEnd c.todo=true)
  (hp:c.st.pers=jX Y O Ow::ps):V ⟨P,g,IterR Y,fun _=>True,w,base,none⟩ c:=by
 refine V.ret v hr he (fun ρ a w' hS=>?_);obtain ⟨p1,_⟩:=hS.pers (jX Y O Ow) (by rw [hp]; exact List.mem_cons_self ..);exact ⟨⟨_,rfl⟩,hS.chg.os,hS.chg.tape,hS.chg.output,O,Ow,.inr p1⟩
end
end Go.SX
end
section
namespace Go.SX
open Go
section
variable {P:Program}
def Con.i1 (f:FuncId) (need:List Pers) (g:Int→RV×List Prop) (ok:∀ n ρ w,(∀ p∈(g n).2,p)→PersOk need w→Calls P f #[.int .i64 n] w (Gives ((g n).1.den ρ) w)):Con P where
 f:=f
 need:=need
 fn:=fun xs=>match xs with
  | [.one (.int .i64 n)]=>some (g n)
  | _=>none
 ok:=by
  intro xs v ob h hob ρ w hp hlt0; clear hlt0;split at h
  ·rename_i n;have e:=Option.some.inj h;have:=ok n ρ w (by rw [e]; exact hob) hp;rw [e] at this;exact this
  ·cases h
def Con.s1 (f:FuncId) (need:List Pers) (g:List UInt8→RV×List Prop) (ok:∀ s ρ w,(∀ p∈(g s).2,p)→PersOk need w→Calls P f #[.string ⟨s.toArray⟩] w (Gives ((g s).1.den ρ) w)):Con P where
 f:=f
 need:=need
 fn:=fun xs=>match xs with
  | [.one (.str s)]=>some (g s)
  | _=>none
 ok:=by
  intro xs v ob h hob ρ w hp hlt0; clear hlt0;split at h
  ·rename_i s;have e:=Option.some.inj h;have:=ok s ρ w (by rw [e]; exact hob) hp;rw [e] at this;exact this
  ·cases h
def Con.s2 (f:FuncId) (need:List Pers) (g:List UInt8→List UInt8→RV×List Prop) (ok:∀ s t ρ w,(∀ p∈(g s t).2,p)→PersOk need w→Calls P f #[.string ⟨s.toArray⟩,.string ⟨t.toArray⟩] w (Gives ((g s t).1.den ρ) w)):Con P where
 f:=f
 need:=need
 fn:=fun xs=>match xs with
  | [.one (.str s),.one (.str t)]=>some (g s t)
  | _=>none
 ok:=by
  intro xs v ob h hob ρ w hp hlt0; clear hlt0;split at h
  ·rename_i s t;have e:=Option.some.inj h;have:=ok s t ρ w (by rw [e]; exact hob) hp;rw [e] at this;exact this
  ·cases h
def Con.as (c:Con P) (g:List CV→Option (RV×List Prop)) (h:∀ xs v ob,g xs=some (v,ob)→(∀ p∈ob,p)→∃ v' ob',c.fn xs=some (v',ob')∧(∀ p∈ob',p)∧∀ ρ,v'.den ρ=v.den ρ):Con P where
 f:=c.f
 need:=c.need
 fn:=g
 ok:=by
  intro xs v ob hg hob ρ w hp hlt;obtain ⟨v',ob',h1,h2,h3⟩:=h xs v ob hg hob;have:=c.ok xs v' ob' h1 h2 ρ w hp hlt;rw [h3 ρ] at this;exact this
end
end Go.SX
end
section
namespace Go.SX
open Go
def domS (ρ:Nat→Nat) (s:St) (k:Nat):Prop:=(∃ b,b<s.next∧ρ b=k)∨(∃ r R,look s.rows r=some R∧R.uses k)∨∃ p∈s.pers,p.D k
def asW (w0 W:World):World:={ w0 with heap:=W.heap }
section
variable {C:Ctx} {ρ:Nat→Nat} {s:St} {a:Act} {w w':World}
theorem lt_of_same {w w':World} {k:Nat} (hk:k<w.heap.size) (h:w'.heap[k]?=w.heap[k]?):k<w'.heap.size:=by
 rcases Nat.lt_or_ge k w'.heap.size with h1 | h1
 ·exact h1
 ·rw [Array.getElem?_eq_none h1,Array.getElem?_eq_getElem hk] at h; cases h
theorem Sat.move (h:Sat C ρ s a w) (hO:∀ k,(domS ρ s k∨(k<C.w0.heap.size∧¬ C.S k))→w'.heap[k]?=w.heap[k]?) (hsz:C.w0.heap.size≤w'.heap.size)
  (h1:w'.os=C.w0.os) (h2:w'.tape=C.w0.tape) (h3:w'.output=C.w0.output):Sat C ρ s a w':=by
 have hb:∀ b,b<s.next→w'.heap[ρ b]?=w.heap[ρ b]?:=fun b hb=>hO _ (.inl (.inl ⟨b,hb,rfl⟩));have hr:∀ r R,look s.rows r=some R→∀ k,R.uses k→w'.heap[k]?=w.heap[k]?:=fun r R hR k hk=>hO _ (.inl (.inr (.inl ⟨r,R,hR,hk⟩)));have hp:∀ p∈s.pers,∀ k,p.D k→w'.heap[k]?=w.heap[k]?:=fun p hp k hk=>hO _ (.inl (.inr (.inr ⟨p,hp,hk⟩)));refine ⟨h.n,h.slots,h.grds,?_,h.inj,fun b hb'=>lt_of_same (h.lt b hb') (hb b hb'),h.defers,⟨h1,h2,h3,hsz,fun k hk hn=>(hO k (.inr ⟨hk,hn⟩)).trans (h.chg.block k hk hn)⟩,?_,h.rowsD,?_,h.fix⟩
 ·intro b blk hbl;obtain ⟨k1,k2,k3,k4⟩:=h.heap b blk hbl;exact ⟨k1,(hb b k1).trans k2,k3,k4⟩
 ·intro r R hR;obtain ⟨k0,k1,k2⟩:=h.rows r R hR;exact ⟨k0,k1.congr (hr r R hR),fun k hk=>⟨lt_of_same (k2 k hk).1 (hr r R hR k hk),(k2 k hk).2⟩⟩
 ·intro p hpm;obtain ⟨q1,q2,q3⟩:=h.pers p hpm;exact ⟨q2 _ (hp p hpm),fun w2 hw2=>q2 w2 (fun k hD=>(hw2 k hD).trans (hp p hpm k hD)),fun k hD=>⟨lt_of_same (q3 k hD).1 (hp p hpm k hD),(q3 k hD).2⟩⟩
theorem Sat.toAs (h:Sat C ρ s a w):Sat C ρ s a (asW C.w0 w):=h.move (fun _ _=>rfl) h.chg.size rfl rfl rfl
end
def recOf (q:Loop) (jump:Option Code):Loop:={ q with state:=if jump.isNone then .ready else .done,pending:=jump }
def objL (l:Nat) (q:Loop):Row:=objRow l (.loop q)
def objD (r:Nat):Row:=objRow r (.deferred (some []))
def withL (s:St) (l r:Nat) (q:Loop):St:={ s with rows:=appendL s.rows [(s.nr,objD r),(s.nr+1,objL l q)],nr:=s.nr+2 }
def jumpPre {ι:Type} (pre:Nat→ι→Prop) (prex:Code→ι→Prop) (i:Nat):Option Code→ι→Prop
 | none,x=>pre (i+1) x
 | some c,x=>prex c x
def RoundR {ι:Type} (sx:ι→St) (pre:Nat→ι→Prop) (prex:Code→ι→Prop) (l r:Nat) (q:Loop) (i:Nat) (s:St) (ρ:Nat→Nat) (W:World) (e:Ending) (W':World):Prop :=
 ∃ (jump:Option Code) (x:ι) (ρ':Nat→Nat),e=.returned (.bool jump.isNone)∧jumpPre pre prex i jump x ∧
  FSat ρ' (withL (sx x) l r (recOf q jump)) W'∧(∀ b,b<s.next→ρ' b=ρ b)∧(∀ j v,look (sx x).slots j=some v→v.wf (withL (sx x) l r (recOf q jump)).W)∧Chg (touch ρ s) W W' ∧
  (∀ k,domS ρ' (withL (sx x) l r (recOf q jump)) k→(domS ρ s k∨touch ρ s k)∨W.heap.size≤k) ∧
  (∀ k,touch ρ' (withL (sx x) l r (recOf q jump)) k→touch ρ s k∨W.heap.size≤k)
def setPs:List (Tmp×CV)→List (Nat×RV)→List (Nat×RV)
 | [],sl=>sl
 | (t,v)::l,sl=>setPs l (upd sl t (.v v))
def psOk (n:Nat):List (Tmp×CV)→Bool
 | []=>true
 | (t,v)::l=>match Nat.blt t n,plainC v with
  | true,true=>psOk n l
  | _,_=>false
def roundSt (s:St) (ps:List (Tmp×CV)):St:={ s with slots:=setPs ps s.slots,fx:=s.next }
section
variable {C:Ctx}
theorem touch_dom {ρ:Nat→Nat} {s:St} {a:Act} {w:World} (h:Sat C ρ s a w) {k:Nat} (hk:touch ρ s k):domS ρ s k:=by
 rcases hk with ⟨b,blk,h1,_,h3⟩ | ⟨r,R,h1,_,h3⟩
 ·exact .inl ⟨b,(h.heap b blk h1).1,h3⟩
 ·exact .inr (.inl ⟨r,R,h1,h3⟩)
theorem dom_lt {ρ:Nat→Nat} {s:St} {a:Act} {w:World} (h:Sat C ρ s a w) {k:Nat} (hk:domS ρ s k):k<w.heap.size:=by
 rcases hk with ⟨b,h1,rfl⟩ | ⟨r,R,h1,h2⟩ | ⟨p,h1,h2⟩
 ·exact h.lt b h1
 ·exact ((h.rows r R h1).2.2 k h2).1
 ·exact ((h.pers p h1).2.2 k h2).1
theorem touch_new {ρ:Nat→Nat} {s:St} {a:Act} {w:World} (h:Sat C ρ s a w) {k:Nat} (hk:touch ρ s k):C.w0.heap.size≤k∨C.S k:=by
 rcases hk with ⟨b,blk,h1,h2,rfl⟩ | ⟨r,R,h1,h2,h3⟩
 ·exact (h.heap b blk h1).2.2.2 h2
 ·exact ((h.rows r R h1).2.2 k h3).2.2 h2
theorem roundSt_slots {ρ:Nat→Nat} (n:Nat) (W:WF):∀ (ps:List (Tmp×CV)) (sl:List (Nat×RV)) (tmps:Array Value),psOk n ps=true→tmps.size=n →
  (∀ i v,look sl i=some v→tmps[i]?=some (v.den ρ)∧v.wf W) →
  ∀ i v,look (setPs ps sl) i=some v→(ps.foldl (fun tm (t,x)=>tm.setIfInBounds t (x.den ρ)) tmps)[i]?=some (v.den ρ)∧v.wf W
 | [],sl,tmps,_,_,h,i,v,hv=>h i v hv
 | (t,x)::ps,sl,tmps,hok,hsz,h,i,v,hv=>by
  simp only [psOk] at hok;split at hok
  ·rename_i h1 h2;refine roundSt_slots n W ps (upd sl t (.v x)) (tmps.setIfInBounds t (x.den ρ)) hok (by simpa using hsz) (fun j u hu=>?_) i v hv;rw [look_upd] at hu;have ht:t<tmps.size:=by rw [hsz]; exact blt_lt h1
   by_cases e:t=j
   ·subst e;rw [if_pos rfl] at hu;cases hu;exact ⟨by simp [ht]; rfl,plainC_wf h2 W⟩
   ·rw [if_neg e] at hu;obtain ⟨k1,k2⟩:=h j u hu;exact ⟨by rw [Array.getElem?_setIfInBounds_ne e]; exact k1,k2⟩
  ·cases hok
theorem setPs_grd {g:Nat} {pol c:Bool} {x:CV}:∀ (ps:List (Tmp×CV)) (sl:List (Nat×RV)) (i:Nat),look (setPs ps sl) i=some (.grd g pol c x)→look sl i=some (.grd g pol c x)
 | [],sl,i,h=>h
 | (t,v)::ps,sl,i,h=>by
  have:=setPs_grd ps _ i h;rw [look_upd] at this;split at this
  ·cases this
  ·exact this
theorem roundSat {ρ:Nat→Nat} {s:St} {a:Act} {w0 W:World} (hS:Sat C ρ s a w0) (hh:W.heap=w0.heap) (hg:s.gs=[]) (hd:s.defs=[]) (ps:List (Tmp×CV)) (hps:psOk s.n ps=true) (R:Ending→World→Prop) (l:Nat)
  {tmps:Array Value} (ht:tmps=ps.foldl (fun tm (t,x)=>tm.setIfInBounds t (x.den ρ)) a.tmps) :
  Sat ⟨C.P,C.f,R,touch ρ s,W,ρ,some l⟩ ρ (roundSt s ps) ⟨tmps,[]⟩ W:=by
 have hsl:=roundSt_slots (ρ:=ρ) s.n s.W ps s.slots a.tmps hps hS.n hS.slots;have hsize:∀ (l:List (Tmp×CV)) (t:Array Value),(l.foldl (fun tm (t,x)=>tm.setIfInBounds t (x.den ρ)) t).size=t.size:=by
  intro l
  induction l with
  | nil=>intro t; rfl
  | cons p l ih=>intro t; simp only [List.foldl_cons]; rw [ih]; simp
 have hfs:=hS.toF;refine ⟨?_,?_,?_,?_,hS.inj,fun b hb=>by rw [hh]; exact hS.lt b hb,?_,Chg.refl _ _,?_,hS.rowsD,?_,fun b hb=>⟨hb,rfl⟩⟩
 ·show tmps.size=s.n;rw [ht,hsize]; exact hS.n
 ·intro i v hv;subst ht;exact hsl i v hv
 ·intro i g pol c x hv;have:=setPs_grd ps s.slots i hv;have:=(hS.grds i g pol c x this).1;rw [hg] at this; cases this
 ·intro b blk hb;obtain ⟨k1,k2,k3,_⟩:=hS.heap b blk hb;exact ⟨k1,by rw [hh]; exact k2,k3,fun hrw=>.inr (.inl ⟨b,blk,hb,hrw,rfl⟩)⟩
 ·exact hd.symm
 ·intro r R' hR;obtain ⟨k0,k1,k2⟩:=hS.rows r R' hR;exact ⟨k0,k1.congr (fun k _=>by rw [hh]),fun k hk=>⟨by rw [hh]; exact (k2 k hk).1,(k2 k hk).2.1,fun ho=>.inr (.inr ⟨r,R',hR,ho,hk⟩)⟩⟩
 ·intro p hp;obtain ⟨q1,q2,q3⟩:=hS.pers p hp;exact ⟨q2 _ (fun k _=>by rw [hh]),fun w2 hw2=>q2 w2 (fun k hD=>by rw [hw2 k hD,hh]),fun k hD=>⟨by rw [hh]; exact (q3 k hD).1,(q3 k hD).2⟩⟩
theorem Sat.rowsEq {ρ:Nat→Nat} {s:St} {a:Act} {w:World} (h:Sat C ρ s a w) (rows:List (Nat×Row)) (he:∀ r,look rows r=look s.rows r):Sat C ρ { s with rows:=rows } a w:=by
 have hle:s.W.le ({ s with rows:=rows }:St).W:=⟨Nat.le_refl _,Nat.le_refl _,fun r _ R hR=>by
  have hR':look rows r=some R:=hR;rw [he r] at hR'; exact hR'⟩
 refine ⟨h.n,fun i v hv=>⟨(h.slots i v hv).1,RV.wf_mono hle v (h.slots i v hv).2⟩,h.grds,?_,h.inj,h.lt,h.defers,h.chg,?_,?_,?_,h.fix⟩
 ·intro b blk hb;obtain ⟨k1,k2,k3,k4⟩:=h.heap b blk hb;exact ⟨k1,k2,fun x hx=>SV.wf_mono hle x (k3 x hx),k4⟩
 ·intro r R hR;have hR':look rows r=some R:=hR;rw [he r] at hR';exact h.rows r R hR'
 ·intro r r' R R' h1 h2;have h1':look rows r=some R:=h1;have h2':look rows r'=some R':=h2;rw [he r] at h1';rw [he r'] at h2';exact h.rowsD r r' R R' h1' h2'
 ·intro p hp;obtain ⟨q1,q2,q3⟩:=h.pers p hp;refine ⟨q1,q2,fun k hk=>⟨(q3 k hk).1,(q3 k hk).2.1,fun r R hR=>?_⟩⟩;have hR':look rows r=some R:=hR;rw [he r] at hR';exact (q3 k hk).2.2 r R hR'
theorem Sat.setDefs {ρ:Nat→Nat} {s:St} {a:Act} {w:World} (h:Sat C ρ s a w) (ds:List Deferred):Sat C ρ { s with defs:=ds } { a with defers:=ds } w :=
 ⟨h.n,h.slots,h.grds,h.heap,h.inj,h.lt,rfl,h.chg,h.rows,h.rowsD,h.pers,h.fix⟩
theorem look_none {α:Type}:∀ {l:List (Nat×α)} {i:Nat},(∀ v,look l i≠some v)→look l i=none
 | l,i,h=>by cases e:look l i with
  | none=>rfl
  | some v=>exact absurd e (h v)
theorem look_app {α:Type}:∀ (l m:List (Nat×α)) (i:Nat),look (appendL l m) i=match look l i with | some v=>some v | none=>look m i
 | [],m,i=>rfl
 | (k,v)::l,m,i=>by
  simp only [appendL,look];split
  ·rfl
  ·exact look_app l m i
theorem withL_rows {s:St} (hlt:∀ i R,look s.rows i=some R→i<s.nr) (l r:Nat) (q:Loop) :
  (∀ i,look (withL s l r q).rows i=look ((s.addObj r (.deferred (some []))).addObj l (.loop q)).rows i)∧look (withL s l r q).rows s.nr=some (objD r)∧look (withL s l r q).rows (s.nr+1)=some (objL l q):=by
 have h0:look s.rows s.nr=none:=look_none (fun v hv=>by have:=hlt _ _ hv; omega);have h1:look s.rows (s.nr+1)=none:=look_none (fun v hv=>by have:=hlt _ _ hv; omega);have e1:Nat.beq (s.nr+1) s.nr=false:=by cases e:Nat.beq (s.nr+1) s.nr with | true=>have:=(beq_iff _ _).1 e; omega | false=>rfl
 have e2:Nat.beq s.nr (s.nr+1)=false:=by cases e:Nat.beq s.nr (s.nr+1) with | true=>have:=(beq_iff _ _).1 e; omega | false=>rfl
 refine ⟨fun i=>?_,?_,?_⟩
 ·simp only [withL,look_app,St.addObj,look];cases hi:look s.rows i with
  | some R =>
   have:=hlt i R hi;have f1:Nat.beq (s.nr+1) i=false:=by cases e:Nat.beq (s.nr+1) i with | true=>have:=(beq_iff _ _).1 e; omega | false=>rfl
   have f2:Nat.beq s.nr i=false:=by cases e:Nat.beq s.nr i with | true=>have:=(beq_iff _ _).1 e; omega | false=>rfl
   rw [f1,f2]
  | none =>
   cases f2:Nat.beq s.nr i with
   | true =>
    have:=(beq_iff _ _).1 f2;subst this;rw [e1]; rfl
   | false=>rfl
 ·simp only [withL,look_app,h0,look,Nat.beq_refl]
 ·simp only [withL,look_app,h1,look,e2,Nat.beq_refl]
theorem Sat.putL {ρ:Nat→Nat} {s:St} {fx:Nat} {a:Act} {w:World} (hlt:∀ i R,look s.rows i=some R→i<s.nr) {l r:Nat} {q:Loop} (h:Sat C ρ { withL s l r q with fx:=fx } a w) (q':Loop) :
  Sat C ρ { withL s l r q' with fx:=fx } a (w.putObj l (.loop q')):=by
 obtain ⟨_,k2,k3⟩:=withL_rows hlt l r q;obtain ⟨_,k2',k3'⟩:=withL_rows hlt l r q';have h1:=h.setObj k3 (.loop q');have h2:=h1.rowsEq (withL s l r q').rows (fun i=>?_)
 ·exact h2
 ·simp only [St.setObj,look_upd];by_cases e:s.nr+1=i
  ·subst e; rw [if_pos rfl,k3']; rfl
  ·rw [if_neg e];simp only [withL,look_app];cases look s.rows i with
   | some R=>rfl
   | none =>
    simp only [look];cases f2:Nat.beq s.nr i with
    | true=>rfl
    | false =>
     cases f1:Nat.beq (s.nr+1) i with
     | true=>have:=(beq_iff _ _).1 f1; exact absurd this e
     | false=>rfl
theorem V.beginRound (i l:Nat) (q:Loop) {c:Cfg} {k:List Item} (ht:c.todo=.beginRound::k) (hr:C.round=some l) (hi:look c.st.rows i=some (objL l q)) (hq:q.state=.ready)
  (h:V C ⟨k,c.st.setObj i l (.loop { q with state:=.busy })⟩):V C c:=by
 intro ρ a w hS;rw [ht];obtain ⟨_,hok,_⟩:=hS.rows i _ hi;have hw:w.heap[l]?=some (.loop q):=by
  obtain ⟨g,h1,h2⟩:=hok.obj _ rfl;cases h1;exact h2
 refine Ok.of_step (fun b cs hro _=>stepR_beginRound (hro.trans hr) (run_beginRound hw hq)) ?_;exact h ρ a _ (hS.setObj hi _)
def jumpOf:List Item→Option (Option Code)
 | []=>some none
 | .code .ret::_=>some (some .ret)
 | .code (.exit id)::k=>match exitTo id k with
  | none=>some (some (.exit id))
  | some _=>none
 | _=>none
def keysLt (n:Nat):List (Nat×Row)→Bool
 | []=>true
 | (k,_)::l=>match Nat.blt k n with
  | true=>keysLt n l
  | false=>false
theorem keysLt_ok {n:Nat}:∀ {l:List (Nat×Row)},keysLt n l=true→∀ i R,look l i=some R→i<n
 | (k,Q)::l,h,i,R,hl=>by
  simp only [keysLt] at h;simp only [look] at hl;split at h
  ·rename_i hk;split at hl
   ·rename_i e;have:=(beq_iff _ _).1 e;subst this;exact blt_lt hk
   ·exact keysLt_ok h i R hl
  ·cases h
def headR (ks:List Nat) (m:Nat) (pm:List Bool) (c:Cfg):Option St :=
 match canon c.st.heap (upto c.st.fx 0) (svsSlots c.st.slots ks) with
 | (hs,rs)=>pickSt ks hs (appendL rs [m,m+1]) pm c.st
theorem V.roundEnd {P:Program} {f:FuncId} {ι:Type} {sx:ι→St} {pre:Nat→ι→Prop} {prex:Code→ι→Prop} {l r i:Nat} {q:Loop} {s:St} {ρ0:Nat→Nat} {W:World}
  (ks:List Nat) (pm:List Bool) (jump:Option Code) (x:ι) {c:Cfg} (ht:jumpOf c.todo=some jump)
  (hp:headR ks (sx x).nr pm c=some { withL (sx x) l r { q with state:=.busy,pending:=none } with fx:=s.next })
  (hr:(ownAll (sx x).rows&&keysLt (sx x).nr (sx x).rows)=true) (hn:(sx x).next=s.next) (hps:(sx x).pers=s.pers)
  (hpre:jumpPre pre prex i jump x) :
  V ⟨P,f,RoundR sx pre prex l r q i s ρ0 W,touch ρ0 s,W,ρ0,some l⟩ c:=by
 intro ρ a w hS;rw [Bool.and_eq_true] at hr;obtain ⟨hown,hkeys⟩:=hr;have hlt:=keysLt_ok hkeys;unfold headR at hp;split at hp;have hS1:=hS.pick hp;generalize (fun i=>ρ (List.getD _ i 0))=ρ' at hS1;have hS2:=hS1.putL (q:={ q with state:=.busy,pending:=none }) hlt (recOf q jump);have hw:w.heap[l]?=some (.loop { q with state:=.busy,pending:=none }):=by
  obtain ⟨_,hok,_⟩:=hS1.rows _ _ (withL_rows hlt l r _).2.2;obtain ⟨g,h1,h2⟩:=hok.obj _ rfl;cases h1;exact h2
 have hend:=run_endRound (P:=P) jump hw;have hR:RoundR sx pre prex l r q i s ρ0 W (.returned (.bool jump.isNone)) (w.putObj l (.loop (recOf q jump))):=by
  have hF:=hS2.toF;refine ⟨jump,x,ρ',rfl,hpre,⟨hF.heap,hF.inj,hF.lt,hF.rows,hF.rowsD,hF.pers⟩,fun b hb=>(hS2.fix b hb).2,fun j v hv=>(hS2.slots j v hv).2,hS2.chg,?_,?_⟩
  ·rintro k (⟨b,h1,h2⟩ | ⟨q',R,h1,h2⟩ | ⟨p,h1,h2⟩)
   ·have hb:b<s.next:=by rw [← hn]; exact h1
    exact .inl (.inl (.inl ⟨b,hb,by rw [← h2]; exact ((hS2.fix b hb).2).symm⟩))
   ·have ho:R.own=true:=by
     simp only [withL,look_app] at h1;cases e:look (sx x).rows q' with
     | some R'=>rw [e] at h1; cases h1; exact ownAll_ok hown e
     | none =>
      rw [e] at h1;simp only [look] at h1;split at h1
      ·cases h1; rfl
      ·split at h1
       ·cases h1; rfl
       ·cases h1
    rcases ((hS2.rows q' R h1).2.2 k h2).2.2 ho with h | h
    ·exact .inr h
    ·exact .inl (.inr h)
   ·exact .inl (.inl (.inr (.inr ⟨p,by rw [← hps]; exact h1,h2⟩)))
  ·rintro k (⟨b,blk,h1,h2,rfl⟩ | ⟨q',R,h1,h2,h3⟩)
   ·exact ((hS2.heap b blk h1).2.2.2 h2).symm
   ·exact (((hS2.rows q' R h1).2.2 k h3).2.2 h2).symm
 obtain ⟨todo,st⟩:=c;intro b hb hk hro cs hcs;cases cs with
 | nil=>exact absurd rfl (hcs rfl)
 | cons c0 cs =>
  refine ⟨_,_,hR,c0,cs,_,rfl,rfl,.one ?_⟩;simp only at ht ⊢;unfold jumpOf at ht;split at ht
  ·cases ht; exact stepR_round_end hro hk hend
  ·cases ht; exact stepR_round_ret hro hk hend
  ·rename_i id k _;cases he:exitTo id k with
   | none=>rw [he] at ht; cases ht; exact stepR_round_exit hro hk he hend
   | some k'=>rw [he] at ht; cases ht
  ·cases ht
theorem Steps.tail {P:Program} {m m1 m':Machine} (h:Steps P m m') (h1:Go.step P m=.next m1) (hne:m≠m'):Steps P m1 m':=by
 obtain ⟨n,hn⟩:=h;cases n with
 | zero=>simp [runN] at hn; exact absurd hn hne
 | succ n=>simp [runN,h1] at hn; exact ⟨n,hn⟩
theorem V.retD (i r:Nat) {c:Cfg} (he:isEnd c.todo=true) (hr:C.round=none) (hno:∀ e w,C.R e w→∃ v,e=.returned v) (hd:c.st.defs=[⟨.collected r,#[]⟩]) (hi:look c.st.rows i=some (objD r))
  (h:V C ⟨c.todo,{ c.st.setObj i r (.deferred none) with defs:=[] }⟩):V C c:=by
 intro ρ a w hS b hb hk hro cs hcs;have hw:w.heap[r]?=some (.deferred (some [])):=by
  obtain ⟨_,hok,_⟩:=hS.rows i _ hi;obtain ⟨g,h1,h2⟩:=hok.obj _ rfl;cases h1;exact h2
 have hS1:=(hS.setObj hi (.deferred none)).setDefs [];obtain ⟨e,w',h1,h2⟩:=h ρ _ _ hS1 b hb hk hro cs hcs;obtain ⟨v,rfl⟩:=hno _ _ h1;refine ⟨_,w',h1,?_⟩;unfold Fin at h2 ⊢;rw [hr] at h2 ⊢;obtain ⟨fr,k1,k2,k3⟩:=h2;refine ⟨fr,?_,k2,k3⟩;have hro':b.roundOf=none:=hro.trans hr;obtain ⟨todo,st⟩:=c;have hst:∀ a w,Go.step C.P (lone (b.atR a todo) cs w)=.next (lone { b.atR a todo with mode:=.returning } cs w):=by
  intro a w;simp only at he;unfold isEnd at he;split at he
  ·exact stepR_end hro'
  ·exact stepR_ret hro'
  ·cases he
 have k1':Steps C.P _ _:=Steps.tail k1 (hst _ _) (fun e=>by
  have h0:=k3.1;have h2:(b.atR { a with defers:=[] } todo)=fr:=by simp [lone] at e; exact e.2
  rw [← h2] at h0;cases h0)
 have s2:=step_collected (P:=C.P) (fr:={ b.atR a todo with mode:=.returning }) (cs:=cs) (w:=w) (d:=⟨.collected r,#[]⟩) (ds:=[]) (by simp) (by show a.defers=_; rw [hS.defers]; exact hd) rfl (run_takeDeferred hw);exact Steps.trans (.one (hst a w)) (Steps.trans (.one s2) k1')
end
end Go.SX
end
section
namespace Go.SX
open Go
structure Shape {ι:Type} (sx:ι→St) (sl:List (Nat×RV)) (n nx fx:Nat) (ps:List Pers):Prop where
 slots:∀ x,(sx x).slots=sl
 n:∀ x,(sx x).n=n
 next:∀ x,(sx x).next=nx
 fx:∀ x,(sx x).fx=fx
 pers:∀ x,(sx x).pers=ps
 gs:∀ x,(sx x).gs=[]
 defs:∀ x,(sx x).defs=[]
 keys:∀ x,keysLt (sx x).nr (sx x).rows=true
def iterOf (c:Cfg) (g:Operand):Option (FuncId×List CV×(List (Nat×Blk)×Nat×List (Nat×Row)×Nat)) :=
 match calleeS c.st none (.value g) with
 | some (f,caps)=>match canon c.st.heap [] (svsOf caps) with
  | (hs,rs)=>match renC hs rs caps,pickSt [] hs rs [] c.st with
   | some ys,some s'=>some (f,ys,fragOf s')
   | _,_=>none
 | none=>none
def meets (l:List Nat):List Nat→Bool
 | []=>false
 | b::m=>match hasNat l b with
  | true=>true
  | false=>meets l m
theorem meets_no {l m:List Nat} (h:meets l m=false):∀ b∈m,b ∉ l:=by
 induction m with
 | nil=>intro b hb; simp at hb
 | cons c m ih =>
  intro b hb hl;simp only [meets] at h;split at h
  ·cases h
  ·rename_i hn;rcases List.mem_cons.1 hb with rfl | hb
   ·rw [(hasNat_mem l b).2 hl] at hn; cases hn
   ·exact ih h b hb hl
def apart (ks:List Nat) (c:Cfg) (g:Operand):Bool :=
 match calleeS c.st none (.value g) with
 | some (_,caps)=>match meets (canon c.st.heap [] (svsOf caps)).1 (canon c.st.heap (upto c.st.fx 0) (svsSlots c.st.slots ks)).1 with
  | true=>false
  | false=>true
 | none=>false
def leftSt (s:St) (l r:Nat) (q:Loop):St:={ withL s l r q with defs:=[⟨.collected r,#[]⟩] }
section
variable {C:Ctx}
theorem RoundR.out {ι:Type} {sx:ι→St} {sl:List (Nat×RV)} {n nx fx:Nat} {ps:List Pers} (hsh:Shape sx sl n nx fx ps) {x x':ι} {l r:Nat} {q:Loop} {jump:Option Code} {ρ ρ':Nat→Nat} {a:Act} {W W':World}
  (hS:Sat C ρ (withL (sx x) l r (recOf q none)) a (asW C.w0 W)) (hF:FSat ρ' (withL (sx x') l r (recOf q jump)) W') (hρ:∀ b,b<(withL (sx x) l r (recOf q none)).next→ρ' b=ρ b)
  (hwf:∀ j v,look (sx x').slots j=some v→v.wf (withL (sx x') l r (recOf q jump)).W) (hch:Chg (touch ρ (withL (sx x) l r (recOf q none))) W W')
  (ht:∀ k,touch ρ' (withL (sx x') l r (recOf q jump)) k→touch ρ (withL (sx x) l r (recOf q none)) k∨W.heap.size≤k):Sat C ρ' (withL (sx x') l r (recOf q jump)) a (asW C.w0 W'):=by
 have hnew:∀ k,touch ρ' (withL (sx x') l r (recOf q jump)) k→C.w0.heap.size≤k∨C.S k:=by
  intro k hk;rcases ht k hk with h | h
  ·exact touch_new hS h
  ·have:C.w0.heap.size≤W.heap.size:=hS.chg.size;exact .inl (Nat.le_trans this h)
 have hn1:∀ x,(withL (sx x) l r (recOf q none)).next=nx:=fun x=>hsh.next x;have hn2:∀ x,(withL (sx x) l r (recOf q jump)).next=nx:=fun x=>hsh.next x;have hslot:∀ i v,look (sx x').slots i=some v→look (withL (sx x) l r (recOf q none)).slots i=some v:=fun i v hv=>by
  show look (sx x).slots i=some v;rw [hsh.slots] at hv ⊢; exact hv
 refine ⟨hS.n.trans ((hsh.n x).trans (hsh.n x').symm),?_,?_,?_,hF.inj,hF.lt,?_,⟨rfl,rfl,rfl,Nat.le_trans hS.chg.size hch.size,?_⟩,?_,hF.rowsD,fun p hp=>⟨(hF.pers p hp).2.1 _ (fun _ _=>rfl),(hF.pers p hp).2⟩,?_⟩
 ·intro i v hv;obtain ⟨k1,k2⟩:=hS.slots i v (hslot i v hv);refine ⟨?_,hwf i v hv⟩;rw [RV.den_congr (W:=(withL (sx x) l r (recOf q none)).W) (ρ:=ρ) (ρ':=ρ') hρ v k2];exact k1
 ·intro i g pol b y hv;have h1:=(hS.grds i g pol b y (hslot i _ hv)).1;rw [show (withL (sx x) l r (recOf q none)).gs=[] from hsh.gs x] at h1;cases h1
 ·intro b blk hb;obtain ⟨k1,k2,k3⟩:=hF.heap b blk hb;exact ⟨k1,k2,k3,fun hrw=>hnew _ (.inl ⟨b,blk,hb,hrw,rfl⟩)⟩
 ·exact hS.defers.trans ((hsh.defs x).trans (hsh.defs x').symm)
 ·intro k hk hnS;have h1:W'.heap[k]?=W.heap[k]?:=hch.block k (Nat.lt_of_lt_of_le hk hS.chg.size) (fun htk=>(touch_new hS htk).elim (fun h=>by omega) hnS);show W'.heap[k]?=_;rw [h1];exact hS.chg.block k hk hnS
 ·intro r' R hR;obtain ⟨k1,k2,k3⟩:=hF.rows r' R hR;exact ⟨k1,k2.congr (fun _ _=>rfl),fun k hk=>⟨(k3 k hk).1,(k3 k hk).2,fun ho=>hnew _ (.inr ⟨r',R,hR,ho,hk⟩)⟩⟩
 ·intro b hb;have hb':b<(withL (sx x) l r (recOf q none)).fx:=by
   show b<(sx x).fx;rw [hsh.fx];have:b<(sx x').fx:=hb;rw [hsh.fx] at this; exact this
  obtain ⟨h1,h2⟩:=hS.fix b hb';refine ⟨?_,(hρ b h1).trans h2⟩;rw [hn2];rw [hn1] at h1;exact h1
theorem objAt {s:St} (hk:keysLt s.nr s.rows=true) {l r:Nat} {q:Loop} {ρ:Nat→Nat} {a:Act} {W:World} (hS:Sat C ρ (withL s l r q) a (asW C.w0 W)):W.heap[l]?=some (.loop q):=by
 obtain ⟨_,hok,_⟩:=hS.rows _ _ (withL_rows (keysLt_ok hk) l r q).2.2;obtain ⟨g,h1,h2⟩:=hok.obj _ rfl;cases h1;exact h2
theorem sizeL {s:St} (hk:keysLt s.nr s.rows=true) {l r:Nat} {q:Loop} {ρ:Nat→Nat} {a:Act} {W W':World} (hS:Sat C ρ (withL s l r q) a (asW C.w0 W)) (hl:C.w0.heap.size≤l)
  (hO:∀ k,(domS ρ (withL s l r q) k∨(k<C.w0.heap.size∧¬ C.S k))→W'.heap[k]?=W.heap[k]?):C.w0.heap.size≤W'.heap.size:=by
 have h1:=hO l (.inl (.inr (.inl ⟨_,_,(withL_rows (keysLt_ok hk) l r q).2.2,objRow_uses.2 rfl⟩)));have h2:=objAt hk hS;rw [h2] at h1;have:=(Array.getElem?_eq_some_iff.1 h1).1;omega
def ydOf {ι:Type} (C:Ctx) (sx:ι→St) (sl:List (Nat×RV)) (n nx fx:Nat) (ps:List Pers) (hsh:Shape sx sl n nx fx ps) (pre:Nat→ι→Prop) (prex:Code→ι→Prop) (N:Nat) (enc:Nat→List CV) (encV:Nat→Array Value)
  (henc:∀ i ρ,((enc i).map (CV.den ρ)).toArray=encV i) (psT:Array Tmp) (hsz:∀ i,(enc i).length=psT.size) (hpl:∀ i,psOk n (psT.toList.zip (enc i))=true) (a:Act) (l r:Nat) (q:Loop) (hq:q.fn=C.f∧q.params=psT∧q.tmps=a.tmps) (hl:C.w0.heap.size≤l) (w1:World)
  (hround:∀ i x ρ W,i<N→pre i x→V ⟨C.P,C.f,RoundR sx pre prex l r q i (withL (sx x) l r (recOf q none)) ρ W,touch ρ (withL (sx x) l r (recOf q none)),W,ρ,some l⟩
   ⟨[.code q.assign,.beginRound,.code q.body],roundSt (withL (sx x) l r (recOf q none)) (psT.toList.zip (enc i))⟩):Yd C.P l N encV w1 where
 J:=fun i O Ow W=>∃ x ρ,pre i x∧Sat C ρ (withL (sx x) l r (recOf q none)) a (asW C.w0 W)∧(∀ k,O k↔(domS ρ (withL (sx x) l r (recOf q none)) k∨(k<C.w0.heap.size∧¬ C.S k)))∧∀ k,Ow k↔touch ρ (withL (sx x) l r (recOf q none)) k
 Jx:=fun O Ow W=>∃ cd x ρ,prex cd x∧Sat C ρ (withL (sx x) l r (recOf q (some cd))) a (asW C.w0 W)∧(∀ k,O k↔(domS ρ (withL (sx x) l r (recOf q (some cd))) k∨(k<C.w0.heap.size∧¬ C.S k)))∧∀ k,Ow k↔touch ρ (withL (sx x) l r (recOf q (some cd))) k
 st:=by
  rintro i O Ow W W' ⟨x,ρ,h1,h2,h3,h4⟩ hO;exact ⟨x,ρ,h1,h2.move (fun k hk=>hO k ((h3 k).2 hk)) (sizeL (hsh.keys x) h2 hl (fun k hk=>hO k ((h3 k).2 hk))) rfl rfl rfl,h3,h4⟩
 stx:=by
  rintro O Ow W W' ⟨cd,x,ρ,h1,h2,h3,h4⟩ hO;exact ⟨cd,x,ρ,h1,h2.move (fun k hk=>hO k ((h3 k).2 hk)) (sizeL (hsh.keys x) h2 hl (fun k hk=>hO k ((h3 k).2 hk))) rfl rfl rfl,h3,h4⟩
 lt:=by
  rintro i O Ow W ⟨x,ρ,h1,h2,h3,h4⟩ k hk;rcases (h3 k).1 hk with h | h
  ·exact dom_lt h2 h
  ·exact Nat.lt_of_lt_of_le h.1 h2.chg.size
 ltx:=by
  rintro O Ow W ⟨cd,x,ρ,h1,h2,h3,h4⟩ k hk;rcases (h3 k).1 hk with h | h
  ·exact dom_lt h2 h
  ·exact Nat.lt_of_lt_of_le h.1 h2.chg.size
 own:=by
  rintro i O Ow W ⟨x,ρ,h1,h2,h3,h4⟩ k hk;exact (h3 k).2 (.inl (touch_dom h2 ((h4 k).1 hk)))
 y:=by
  rintro i O Ow W hi ⟨x,ρ,h1,h2,h3,h4⟩ _ _ _;obtain ⟨hq1,hq2,hq3⟩:=hq;have hw:W.heap[l]?=some (.loop (recOf q none)):=objAt (hsh.keys x) h2;have hgs:(withL (sx x) l r (recOf q none)).gs=[]:=hsh.gs x;have hds:(withL (sx x) l r (recOf q none)).defs=[]:=hsh.defs x;refine ⟨C.f,((psT.zip (encV i)).foldl (fun tmps (t,a)=>tmps.setIfInBounds t a) a.tmps),q.assign,q.body,?_,fun c cs=>?_⟩
  ·have:=run_yield (P:=C.P) (args:=encV i) hw (by show _=q.params.size; rw [← henc i id,hq2,← hsz i]; simp);rw [this];show Result.ok (Next.round l q.fn ((q.params.zip (encV i)).foldl _ q.tmps) q.assign q.body) W=_;rw [hq1,hq2,hq3]
  ·have hS:=roundSat (W:=W) h2 rfl hgs hds (psT.toList.zip (enc i)) (by show psOk (sx x).n _=true; rw [hsh.n]; exact hpl i)
    (RoundR sx pre prex l r q i (withL (sx x) l r (recOf q none)) ρ W) l (tmps:=(psT.zip (encV i)).foldl (fun tmps (t,a)=>tmps.setIfInBounds t a) a.tmps) (by
     rw [← henc i ρ,← Array.foldl_toList,Array.toList_zip,List.zip_map_right,List.foldl_map]; rfl)
   obtain ⟨e,W',hR,c',cs',v,hcs,he,hst⟩:=hround i x ρ W hi h1 ρ _ _ hS { (default:Frame) with fn:=C.f,kind:=.normal,roundOf:=some l } rfl rfl rfl (c::cs) (by simp);obtain ⟨jump,x',ρ',he',hpre,hF,hρ,hwf,hch,hdom,htc⟩:=hR;cases hcs;have hv:v=.bool jump.isNone:=by rw [he] at he'; injection he'
   have hS':=RoundR.out hsh h2 hF hρ hwf hch htc;refine ⟨v,W',⟨fun k=>domS ρ' (withL (sx x') l r (recOf q jump)) k∨(k<C.w0.heap.size∧¬ C.S k),touch ρ' (withL (sx x') l r (recOf q jump)),⟨hch.os,hch.tape,hch.output,hch.size,fun k hk hn=>hch.block k hk (fun h=>hn ((h4 k).2 h))⟩,?_,?_,?_⟩,?_⟩
   ·rintro k (h | h)
    ·rcases hdom k h with (h | h) | h
     ·exact .inl ((h3 k).2 (.inl h))
     ·exact .inl ((h3 k).2 (.inl (touch_dom h2 h)))
     ·exact .inr h
    ·exact .inl ((h3 k).2 (.inr h))
   ·intro k h;rcases htc k h with h | h
    ·exact .inl ((h4 k).2 h)
    ·exact .inr h
   ·cases jump with
    | none=>exact .inl ⟨hv,x',ρ',hpre,hS',fun k=>Iff.rfl,fun k=>Iff.rfl⟩
    | some cd=>exact .inr ⟨hv,cd,x',ρ',hpre,hS',fun k=>Iff.rfl,fun k=>Iff.rfl⟩
   ·have hfr:Frame.round l C.f ((psT.zip (encV i)).foldl (fun tmps (t,a)=>tmps.setIfInBounds t a) a.tmps) q.assign q.body .normal =
      ({ (default:Frame) with fn:=C.f,kind:=.normal,roundOf:=some l }:Frame).atR ⟨(psT.zip (encV i)).foldl (fun tmps (t,a)=>tmps.setIfInBounds t a) a.tmps,[]⟩ [.code q.assign,.beginRound,.code q.body]:=by
     simp [Frame.round,Frame.atR]
    rw [hfr];exact hst
theorem pick_look {s s':St} {ks hs rs:List Nat} {pm:List Bool} (hpk:pickSt ks hs rs pm s=some s') {b:Nat} (hb:b<s'.next):hs.getD b 0∈hs∧∃ blk,look s.heap (hs.getD b 0)=some blk:=by
 unfold pickSt at hpk;split at hpk
 case h_2=>cases hpk
 rename_i sl hpp rows _ _ _ hhp _;have hs':=Option.some.inj hpk;have hlen:b<hs.length:=by rw [← hs'] at hb; exact hb
 have hmem:hs.getD b 0∈hs:=by simp [List.getD,List.getElem?_eq_getElem hlen]
 refine ⟨hmem,?_⟩;have:∀ (l:List Nat) (i0:Nat) (r:List (Nat×Blk)),pickHeap hs rs s.heap l i0=some r→∀ b∈l,∃ blk,look s.heap b=some blk:=by
  intro l
  induction l with
  | nil=>intro i0 r _ b hb; simp at hb
  | cons d l ih =>
   intro i0 r hr b hb;simp only [pickHeap] at hr;split at hr
   ·rename_i blk hc;split at hr
    ·split at hr
     ·rename_i r' hr';rcases List.mem_cons.1 hb with rfl | hb
      ·exact ⟨blk,hc⟩
      ·exact ih _ _ hr' b hb
     ·cases hr
    ·cases hr
   ·cases hr
 exact this hs 0 hpp hhp _ hmem
theorem pick_lt {ρ:Nat→Nat} {s s':St} {a:Act} {w:World} (hS:Sat C ρ s a w) {ks hs rs:List Nat} {pm:List Bool} (hpk:pickSt ks hs rs pm s=some s') (b:Nat) (hb:b<s'.next):hs.getD b 0<s.next:=by
 obtain ⟨_,blk,hbk⟩:=pick_look hpk hb;exact (hS.heap _ blk hbk).1
theorem pick_row {s s':St} {ks hs rs:List Nat} {pm:List Bool} (hpk:pickSt ks hs rs pm s=some s') {r:Nat} {R:Row} (hR:look s'.rows r=some R):∃ r2,look s.rows r2=some R:=by
 unfold pickSt at hpk;split at hpk
 case h_2=>cases hpk
 rename_i sl hpp rows _ _ _ _ hrows;have hs':=Option.some.inj hpk;rw [← hs'] at hR;obtain ⟨r2,_,_,h3⟩:=pickRows_ok hrows r R hR;exact ⟨r2,h3⟩
theorem pick_blk {s s':St} {ks hs rs:List Nat} {pm:List Bool} (hpk:pickSt ks hs rs pm s=some s') {b:Nat} {blk:Blk} (hb:look s'.heap b=some blk):∃ blk0,look s.heap (hs.getD b 0)=some blk0∧blk.rw=blk0.rw:=by
 unfold pickSt at hpk;split at hpk
 case h_2=>cases hpk
 rename_i sl hpp rows _ _ _ hhp _;have hs':=Option.some.inj hpk;rw [← hs'] at hb;obtain ⟨b0,blk0,_,h2,h3,_,_,h6⟩:=pickHeap_ok hhp b blk hb;simp only [Nat.sub_zero] at h2;exact ⟨blk0,by simp [List.getD,h2,h3],h6⟩
theorem pick_pers {s s':St} {ks hs rs:List Nat} {pm:List Bool} (hpk:pickSt ks hs rs pm s=some s') {p:Pers} (hp:p∈s'.pers):p∈s.pers:=by
 unfold pickSt at hpk;split at hpk
 case h_2=>cases hpk
 have hs':=Option.some.inj hpk;rw [← hs'] at hp;exact keepP_sub _ _ _ hp
theorem Sat.fragAt {ρ:Nat→Nat} {s s' F:St} {a:Act} {w:World} (hS:Sat C ρ s a w) {hs rs:List Nat} (hpk:pickSt [] hs rs [] s=some s') (hfr:fragOf s'=fragOf F) (pi:List (Nat×Bool))
  (hpi:getP pi s.pers=some (askP C.w0.heap.size C.S pi F.pers)):FSat (fun i=>ρ (hs.getD i 0)) F w:=by
 have hFs:=(hS.pick hpk).toF;have hpn:s'.next=F.next:=by simp only [fragOf,Prod.mk.injEq] at hfr; exact hfr.2.1
 refine hFs.withPers hfr (fun q hq=>?_);have hbase:∀ q'∈s.pers,q'.φ w∧(∀ w',(∀ k,q'.D k→w'.heap[k]?=w.heap[k]?)→q'.φ w') ∧
   ∀ k,q'.D k→k<w.heap.size∧(∀ b,b<F.next→ρ (hs.getD b 0)≠k)∧∀ r R,look F.rows r=some R→R.own=true→¬ R.uses k:=by
  intro q' hq';obtain ⟨p1,p2,p3⟩:=hS.pers q' hq';refine ⟨p1,p2,fun k hD=>⟨(p3 k hD).1,fun b hb'=>?_,fun r R hR ho hu'=>?_⟩⟩
  ·exact (p3 k hD).2.1 _ (pick_lt hS hpk _ (by rw [hpn]; exact hb'))
  ·unfold pickSt at hpk;split at hpk
   case h_2=>cases hpk
   rename_i sl hpp rows _ _ _ _ hrows;have hs':=Option.some.inj hpk;have hR':look s'.rows r=some R:=by
    simp only [fragOf,Prod.mk.injEq] at hfr; rw [hfr.2.2.1]; exact hR
   rw [← hs'] at hR';obtain ⟨r2,_,_,h3⟩:=pickRows_ok hrows r R hR';exact (p3 k hD).2.2 r2 R h3 ho hu'
 rcases askP_mem (n0:=C.w0.heap.size) (S:=C.S) (l:=pi) q hq with h1 | h1
 ·exact hbase q (getP_mem hpi q h1)
 ·obtain ⟨p1,p2,p3⟩:=hbase _ (getP_mem hpi _ h1);exact ⟨p1.1,fun w' hw'=>(p2 w' hw').1,p3⟩
theorem rwAll_ok:∀ {l:List (Nat×Blk)} {b:Nat} {blk:Blk},rwAll l=true→look l b=some blk→blk.rw=true
 | (k,q)::l,b,blk,h,hl=>by
  simp only [rwAll] at h;split at h
  ·rename_i hq;simp only [look] at hl;split at hl
   ·cases hl; exact hq
   ·exact rwAll_ok h hl
  ·cases h
theorem V.rangeF {ι:Type} (sx:ι→St) {sl:List (Nat×RV)} {n nx fx:Nat} {ps:List Pers} (hsh:Shape sx sl n nx fx ps) (pre:Nat→ι→Prop) (prex:Code→ι→Prop) {N:Nat} (enc:Nat→List CV) {encV:Nat→Array Value}
  (henc:∀ i ρ,((enc i).map (CV.den ρ)).toArray=encV i) (x0:ι) (ks:List Nat) (pm:List Bool) (pi:List (Nat×Bool)) {g:Operand} {psT:Array Tmp} {asg body:Code} {k:List Item} {c:Cfg} {gf:FuncId} {ys:List CV} {F:St}
  (ht:c.todo=.code (.rangeFunc g psT asg body)::k) (hr:C.round=none) (hp:headK ks pm c=some (sx x0)) (hpre:pre 0 x0) (hit:Iter C.P gf ys F N encV) (hen:entersB C.P gf=true)
  (hF:iterOf c g=some (gf,ys,fragOf F)) (hFs:(apart ks c g&&(F.rows.isEmpty&&(rwAll F.heap&&told F.next F.heap)))=true) (hpi:getP pi c.st.pers=some (askP C.w0.heap.size C.S pi F.pers))
  (hsz:∀ i,(enc i).length=psT.size) (hpl:∀ i,psOk n (psT.toList.zip (enc i))=true)
  (hround:∀ i x ρ W l r q,i<N→pre i x→V ⟨C.P,C.f,RoundR sx pre prex l r q i (withL (sx x) l r (recOf q none)) ρ W,touch ρ (withL (sx x) l r (recOf q none)),W,ρ,some l⟩
   ⟨[.code asg,.beginRound,.code body],roundSt (withL (sx x) l r (recOf q none)) (psT.toList.zip (enc i))⟩)
  (hend:∀ x l r q,pre N x→V C ⟨k,leftSt (sx x) l r q⟩) (hjump:∀ cd x l r q,prex cd x→V C ⟨.code cd::k,leftSt (sx x) l r q⟩):V C c:=by
 intro ρ a w hS b hb hk hro cs hcs;obtain ⟨todo,st⟩:=c;simp only at ht hS;subst ht;simp only [Bool.and_eq_true] at hFs;obtain ⟨hap,hrw0,hrwF,htold⟩:=hFs
 -- the function
 unfold iterOf at hF;unfold apart at hap;split at hF
 case h_2=>cases hF
 rename_i f caps hcal;rw [hcal] at hap;simp only at hap;split at hF;rename_i hs rs hcan;split at hF
 case h_2=>cases hF
 rename_i ys1 s' hren hpk;simp only [Option.some.injEq,Prod.mk.injEq] at hF;obtain ⟨rfl,rfl,hfr⟩:=hF
 -- the loop's own side
 unfold headK at hp;rw [hcan] at hap;split at hp;rename_i hsO rsO hcanO;rw [hcanO] at hap;simp only at hap;have hmeet:meets hs hsO=false:=by
  cases e:meets hs hsO with
  | true=>rw [e] at hap; cases hap
  | false=>rfl
 have hO:=hS.pick hp;have ha:a.defers=[]:=hO.defers.trans (hsh.defs x0)
 -- the two objects
 let q0:Loop:={ state:=.ready,pending:=none,fn:=C.f,tmps:=a.tmps,params:=psT,assign:=asg,body:=body,defers:=w.heap.size }
 have hsz1:(w.alloc (.deferred (some []))).heap.size=w.heap.size+1:=World.size_alloc _ _;have hO2:=(hO.newObj (.deferred (some []))).newObj (.loop q0);rw [hsz1] at hO2;have hlt0:=keysLt_ok (hsh.keys x0);have hO3:Sat C (fun i=>ρ (hsO.getD i 0)) (withL (sx x0) (w.heap.size+1) w.heap.size (recOf q0 none)) a ((w.alloc (.deferred (some []))).alloc (.loop q0)):=hO2.rowsEq _ (withL_rows hlt0 (w.heap.size+1) w.heap.size q0).1;have hS1:=(hS.below (Chg.alloc _ w (.deferred (some [])))).below (Chg.alloc _ (w.alloc (.deferred (some []))) (.loop q0));generalize hw1:(w.alloc (.deferred (some []))).alloc (.loop q0)=w1 at hO3 hS1 hO2;have hl:C.w0.heap.size≤w.heap.size+1:=Nat.le_trans hS.chg.size (Nat.le_succ _)
 let Y:=ydOf C sx sl n nx fx ps hsh pre prex N enc encV henc psT hsz hpl a (w.heap.size+1) w.heap.size q0 ⟨rfl,rfl,rfl⟩ hl w1 (fun i x ρ W=>hround i x ρ W _ _ q0)
 have hFS:=hS1.fragAt hpk hfr pi hpi;have hpn:s'.next=F.next:=by simp only [fragOf,Prod.mk.injEq] at hfr; exact hfr.2.1
 have hph:s'.heap=F.heap:=by simp only [fragOf,Prod.mk.injEq] at hfr; exact hfr.1
 have hρlt:∀ b,b<F.next→ρ (hs.getD b 0)<w.heap.size:=fun b hb=>hS.lt _ (pick_lt hS hpk b (by rw [hpn]; exact hb));have hne:∀ b',b'<(sx x0).next→∀ b,b<F.next→ρ (hs.getD b 0)≠ρ (hsO.getD b' 0):=by
  intro b' hb' b hb e;have h1:=pick_look hp hb';have h2:=pick_look hpk (b:=b) (by rw [hpn]; exact hb);have:=hS.inj _ _ (pick_lt hS hpk b (by rw [hpn]; exact hb)) (pick_lt hS hp b' hb') e;exact meets_no hmeet _ h1.1 (this▸h2.1)
 have hrowO:∀ q' R,look (withL (sx x0) (w.heap.size+1) w.heap.size (recOf q0 none)).rows q'=some R→(∃ r2,look st.rows r2=some R)∨∀ k,R.uses k→w.heap.size≤k:=by
  intro q' R h1;simp only [withL,look_app] at h1;cases e:look (sx x0).rows q' with
  | some R'=>rw [e] at h1; cases h1; exact .inl (pick_row hp e)
  | none =>
   rw [e] at h1;simp only [look] at h1;split at h1
   ·cases h1; exact .inr (fun k hk=>Nat.le_of_eq (objRow_uses.1 hk))
   ·split at h1
    ·cases h1; exact .inr (fun k hk=>by have:=objRow_uses.1 hk; omega)
    ·cases h1
 have hdis:∀ k,(domS (fun i=>ρ (hsO.getD i 0)) (withL (sx x0) (w.heap.size+1) w.heap.size (recOf q0 none)) k∨(k<C.w0.heap.size∧¬ C.S k))→∀ b,b<F.next→ρ (hs.getD b 0)≠k:=by
  rintro k ((⟨b',h1,rfl⟩ | ⟨q',R,h1,h2⟩ | ⟨p,h1,h2⟩) | ⟨h1,h2⟩) b hb
  ·exact hne b' h1 b hb
  ·rcases hrowO q' R h1 with ⟨r2,hR⟩ | h
   ·exact ((hS.rows r2 R hR).2.2 k h2).2.1 _ (pick_lt hS hpk b (by rw [hpn]; exact hb))
   ·have:=h k h2; have:=hρlt b hb; omega
  ·exact ((hS.pers p (pick_pers hp h1)).2.2 k h2).2.1 _ (pick_lt hS hpk b (by rw [hpn]; exact hb))
  ·intro e;obtain ⟨blk,hblk⟩:=told_ok htold hb;have hrw:=rwAll_ok hrwF hblk;rw [← hph] at hblk;obtain ⟨blk0,hb0,hb1⟩:=pick_blk hpk hblk;rcases (hS.heap _ blk0 hb0).2.2.2 (by rw [← hb1]; exact hrw) with h | h
   ·omega
   ·rw [e] at h; exact h2 h
 have hpO:∀ p∈F.pers,∀ k,p.D k→¬ touch (fun i=>ρ (hsO.getD i 0)) (withL (sx x0) (w.heap.size+1) w.heap.size (recOf q0 none)) k:=by
  intro p hpF k hD htk;have hp3:k<w.heap.size∧(∀ b,b<st.next→ρ b≠k)∧∀ r R,look st.rows r=some R→R.own=true→¬ R.uses k:=by
   rcases askP_mem (n0:=C.w0.heap.size) (S:=C.S) (l:=pi) p hpF with h1 | h1
   ·exact (hS.pers p (getP_mem hpi p h1)).2.2 k hD
   ·exact (hS.pers _ (getP_mem hpi _ h1)).2.2 k hD
  rcases htk with ⟨b,blk,h1,_,h3⟩ | ⟨q',R,h1,h2,h3⟩
  ·exact hp3.2.1 _ (pick_lt hS hp b (hO3.heap b blk h1).1) h3
  ·rcases hrowO q' R h1 with ⟨r2,hR⟩ | h
   ·exact hp3.2.2 r2 R hR h2 h3
   ·have:=h k h3; omega
 have hcalls:=hit (fun i=>ρ (hs.getD i 0)) w1 (w.heap.size+1) Y
  (fun k=>domS (fun i=>ρ (hsO.getD i 0)) (withL (sx x0) (w.heap.size+1) w.heap.size (recOf q0 none)) k∨(k<C.w0.heap.size∧¬ C.S k)) (touch (fun i=>ρ (hsO.getD i 0)) (withL (sx x0) (w.heap.size+1) w.heap.size (recOf q0 none)))
  hFS ⟨x0,_,hpre,hO3.toAs,fun k=>Iff.rfl,fun k=>Iff.rfl⟩ (fun k hk=>⟨hdis k hk,fun r R hR=>by
   have:F.rows=[]:=List.isEmpty_iff.1 hrw0;rw [this] at hR; cases hR⟩) hpO
 -- the call
 have hxs:evs st none (rangeCall g (w.heap.size+1)).args.toList=some [.one (.val (.func (.yield (w.heap.size+1)) #[] #[]))]:=rfl;have hinv:=calleeS_sound (cl:=rangeCall g (w.heap.size+1)) (t:=0) (P:=C.P) hS1.toP (GcOk.none st) hcal hxs (enters hen);have hren':ys1.map (CV.den (fun i=>ρ (hs.getD i 0)))=caps.map (CV.den ρ):=by
  unfold pickSt at hpk;split at hpk
  case h_2=>cases hpk
  rename_i sl hpp rows _ _ _ _ hrows;have hRR:RowsRen rs st.W ⟨hs.length,rs.length,rows⟩:=by
   intro r' r R hr hl;obtain ⟨r2,_,h2,h3⟩:=pickRows_ok hrows r' R hl;simp only [Nat.sub_zero] at h2;rw [hr] at h2;cases h2;exact h3
  exact (renC_ok (ρ:=ρ) (W:=st.W) (W':=⟨hs.length,rs.length,rows⟩) rfl rfl hRR hren).1
 have hargs:(([.one (.val (.func (.yield (w.heap.size+1)) #[] #[]))]++caps:List CV).map (CV.den ρ)).toArray=#[Value.func (.yield (w.heap.size+1)) #[] #[]]++(ys1.map (CV.den (fun i=>ρ (hs.getD i 0)))).toArray:=by
  rw [hren'];apply Array.ext';simp [CV.den,SV.den]
 rw [hargs,Sem.run_bind] at hinv;cases hres:(resolve a.eval (rangeCall g (w.heap.size+1)) 0).run C.P w1 with
 | halt x w2=>rw [hres] at hinv; cases hinv
 | ok d w2 =>
  rw [hres] at hinv;simp only [Result.andThen_ok] at hinv;have he:(Instr.enterLoop b.fn a.tmps psT asg body b.roundOf).run C.P w=.ok (w.heap.size+1,[{ target:=.collected w.heap.size,args:=#[] }]) w1:=by
   rw [hro,hr,hb,← hw1];exact run_enterLoop_outer C.f a.tmps psT asg body
  have henter:=stepR_rangeFunc (P:=C.P) (b:=b) (a:=a) (k:=k) (cs:=cs) (w:=w) he hres hinv;obtain ⟨e,w3,fr,hR,hsteps,hfn,hleave⟩:=hcalls (b.atR { a with defers:=[{ target:=.collected w.heap.size,args:=#[] }]++a.defers } (.inRangeFunc (w.heap.size+1)::k)::cs);obtain ⟨⟨v,rfl⟩,hos,htp,hout,O',Ow',hJ⟩:=hR;rw [ha] at hsteps henter;have sback:Steps C.P (lone (b.atR a (.code (.rangeFunc g psT asg body)::k)) cs w) (lone (b.atR { a with defers:=[{ target:=.collected w.heap.size,args:=#[] }] } (.endRangeFunc (w.heap.size+1)::k)) cs w3):=by
   refine .head henter (Steps.trans hsteps (.one ?_));rw [← finish_atR_inRangeFunc (w.heap.size+1) v]; exact step_leave_returned hleave
  have hw1os:w1.os=C.w0.os∧w1.tape=C.w0.tape∧w1.output=C.w0.output:=⟨hS1.chg.os,hS1.chg.tape,hS1.chg.output⟩;have hdone:∀ (x:ι) (ρ3:Nat→Nat) (jump:Option Code) ,Sat C ρ3 (withL (sx x) (w.heap.size+1) w.heap.size (recOf q0 jump)) a (asW C.w0 w3) →
    (∀ q,V C ⟨(jump.map Item.code).toList++k,leftSt (sx x) (w.heap.size+1) w.heap.size q⟩)→∃ e w',C.R e w'∧Fin C (lone (b.atR a (.code (.rangeFunc g psT asg body)::k)) cs w) cs e w':=by
   intro x ρ3 jump hS3 hV;have hw3:=objAt (hsh.keys x) hS3;have hbusy:(recOf q0 jump).state≠.busy:=by
    cases jump with
    | none=>intro h; cases h
    | some _=>intro h; cases h
   have hendL:=run_endLoop (P:=C.P) hw3 hbusy;have hS4:Sat C ρ3 (withL (sx x) (w.heap.size+1) w.heap.size (recOf q0 jump)) a w3:=hS3.move (fun _ _=>rfl) hS3.chg.size (hos.trans hw1os.1) (htp.trans hw1os.2.1) (hout.trans hw1os.2.2);have hS5:=Sat.putL (fx:=(sx x).fx) (keysLt_ok (hsh.keys x)) hS4 { recOf q0 jump with state:=.exhausted };have hS6:=hS5.setDefs [{ target:=.collected w.heap.size,args:=#[] }];obtain ⟨e,w',h1,h2⟩:=hV _ ρ3 _ _ hS6 b hb hk hro cs hcs;exact ⟨e,w',h1,h2.of_steps (Steps.trans sback (.one (stepR_endRangeFunc hendL)))⟩
  rcases hJ with ⟨x,ρ3,h1,h2,_⟩ | ⟨cd,x,ρ3,h1,h2,_⟩
  ·exact hdone x ρ3 none h2 (fun q=>hend x _ _ q h1)
  ·exact hdone x ρ3 (some cd) h2 (fun q=>hjump cd x _ _ q h1)
end
end Go.SX
end
section
namespace Go.SX
open Go
section
variable {C:Ctx}
theorem V.nilB {α:Type} (f:α→List SV) (d:α) (b j:Nat) (blk:Blk) (e:TypeId) (sz:Nat) {c:Cfg} (hb:look c.st.heap b=some blk) (hj:blk.cells[j]?=some (.val (.slice none 0 0)))
  (h:V C ⟨c.todo,{ c.st with heap:=upd c.st.heap b { blk with cells:=blk.cells.set j (.row c.st.nr none 0 0) },rows:=(c.st.nr,rowL f d [] none 0 e sz true)::c.st.rows,nr:=c.st.nr+1 }⟩):V C c:=by
 intro ρ a w hS;have h1:=hS.nilRow e sz (fun i=>f (([]:List α).getD i d));refine h ρ a w ⟨h1.n,h1.slots,h1.grds,?_,h1.inj,h1.lt,h1.defers,h1.chg,h1.rows,h1.rowsD,h1.pers,h1.fix⟩;intro b' blk' hb';simp only [look_upd] at hb';by_cases e':b=b'
 ·subst e';rw [if_pos rfl] at hb';cases hb';obtain ⟨k1,k2,k3,k4⟩:=h1.heap b blk hb;refine ⟨k1,?_,?_,k4⟩
  ·rw [k2];have:(blk.cells.set j (.row c.st.nr none 0 0)).map (SV.den ρ)=blk.cells.map (SV.den ρ):=by
    rw [List.map_set];apply List.ext_getElem?;intro i;rw [List.getElem?_set];split
    ·rename_i e1;subst e1;split
     ·rw [List.getElem?_map,hj]; rfl
     ·rename_i hlt;rw [List.getElem?_eq_none (by omega)]
    ·rfl
   rw [this]
  ·intro x hx;rcases List.mem_or_eq_of_mem_set hx with hx | rfl
   ·exact k3 x hx
   ·refine ⟨Nat.lt_succ_self _,fun R hR=>?_⟩;simp only [St.W,look,Nat.beq_refl] at hR;cases hR;exact ⟨rfl,rfl,rfl⟩
 ·rw [if_neg e'] at hb';exact h1.heap b' blk' hb'
end
def isRf (c:Cfg):Bool:=match c.todo with
 | .code (.rangeFunc _ _ _ _)::_=>true
 | _=>false
def rfG (c:Cfg):Operand:=match c.todo with
 | .code (.rangeFunc g _ _ _)::_=>g
 | _=>.tmp 0
def rfPs (c:Cfg):Array Tmp:=match c.todo with
 | .code (.rangeFunc _ ps _ _)::_=>ps
 | _=>#[]
def rfAsg (c:Cfg):Code:=match c.todo with
 | .code (.rangeFunc _ _ asg _)::_=>asg
 | _=>.ret
def rfBody (c:Cfg):Code:=match c.todo with
 | .code (.rangeFunc _ _ _ body)::_=>body
 | _=>.ret
def rfK (c:Cfg):List Item:=match c.todo with
 | .code (.rangeFunc _ _ _ _)::k=>k
 | _=>[]
section
variable {C:Ctx}
theorem V.rangeFc {ι:Type} (sx:ι→St) {sl:List (Nat×RV)} {n nx fx:Nat} {ps:List Pers} (hsh:Shape sx sl n nx fx ps) (pre:Nat→ι→Prop) (prex:Code→ι→Prop) {N:Nat} (enc:Nat→List CV) {encV:Nat→Array Value}
  (henc:∀ i ρ,((enc i).map (CV.den ρ)).toArray=encV i) (x0:ι) (ks:List Nat) (pm:List Bool) (pi:List (Nat×Bool)) {c:Cfg} {gf:FuncId} {ys:List CV} {F:St} (hit:Iter C.P gf ys F N encV)
  (ht:(isRf c&&(C.round.isNone&&entersB C.P gf))=true) (hp:headK ks pm c=some (sx x0)) (hpre:pre 0 x0)
  (hF:iterOf c (rfG c)=some (gf,ys,fragOf F)) (hFs:(apart ks c (rfG c)&&(F.rows.isEmpty&&(rwAll F.heap&&told F.next F.heap)))=true) (hpi:getP pi c.st.pers=some (askP C.w0.heap.size C.S pi F.pers))
  (hsz:∀ i,Nat.beq (enc i).length (rfPs c).size=true) (hpl:∀ i,psOk n ((rfPs c).toList.zip (enc i))=true)
  (hround:∀ i x ρ W l r q,i<N→pre i x→V ⟨C.P,C.f,RoundR sx pre prex l r q i (withL (sx x) l r (recOf q none)) ρ W,touch ρ (withL (sx x) l r (recOf q none)),W,ρ,some l⟩
   ⟨[.code (rfAsg c),.beginRound,.code (rfBody c)],roundSt (withL (sx x) l r (recOf q none)) ((rfPs c).toList.zip (enc i))⟩)
  (hend:∀ x l r q,pre N x→V C ⟨rfK c,leftSt (sx x) l r q⟩) (hjump:∀ cd x l r q,prex cd x→V C ⟨.code cd::rfK c,leftSt (sx x) l r q⟩):V C c:=by
 obtain ⟨ht1,ht2,ht3⟩:=and3 ht;have hr:C.round=none:=by simpa using ht2
 obtain ⟨todo,st⟩:=c;unfold isRf at ht1;split at ht1
 ·rename_i g ps asg body k he;simp only at he;subst he;exact V.rangeF sx hsh pre prex enc henc x0 ks pm pi rfl hr hp hpre hit ht3 hF hFs hpi (fun i=>(beq_iff _ _).1 (hsz i)) hpl hround hend hjump
 ·cases ht1
end
def isBr (c:Cfg):Bool:=match c.todo with
 | .beginRound::_=>true
 | _=>false
def dropT (c:Cfg):List Item:=match c.todo with
 | _::k=>k
 | []=>[]
theorem V.begin {C:Ctx} (i l:Nat) (q:Loop) {c:Cfg} (ht:isBr c=true) (hr:C.round=some l) (hi:look c.st.rows i=some (objL l q)) (hq:q.state=.ready)
  (h:V C ⟨dropT c,c.st.setObj i l (.loop { q with state:=.busy })⟩):V C c:=by
 obtain ⟨todo,st⟩:=c;unfold isBr at ht;split at ht
 ·rename_i k he;simp only at he;subst he;exact V.beginRound i l q rfl hr hi hq h
 ·cases ht
theorem V.slotAs {C:Ctx} (t:Nat) (u u':CV) {c:Cfg} (hl:look c.st.slots t=some (.v u)) (hg:(!hasNat c.st.gs t&&plainC u')=true) (hd:∀ ρ,u'.den ρ=u.den ρ) (h:V C ⟨c.todo,{ c.st with slots:=upd c.st.slots t (.v u') }⟩):V C c:=by
 intro ρ a w hS;rw [Bool.and_eq_true] at hg;have hg1:hasNat c.st.gs t=false:=by simpa using hg.1
 refine h ρ a w ⟨hS.n,?_,?_,hS.heap,hS.inj,hS.lt,hS.defers,hS.chg,hS.rows,hS.rowsD,hS.pers,hS.fix⟩
 ·intro j v hv;simp only [look_upd] at hv;by_cases e:t=j
  ·rw [if_pos e] at hv;cases hv;subst e;refine ⟨?_,plainC_wf hg.2 _⟩;rw [(hS.slots t _ hl).1];show some (u.den ρ)=some (u'.den ρ);rw [hd]
  ·rw [if_neg e] at hv;exact hS.slots j v hv
 ·intro j g pol b x hv;simp only [look_upd] at hv ⊢;by_cases e:t=j
  ·rw [if_pos e] at hv; cases hv
  ·rw [if_neg e] at hv;obtain ⟨k1,k2⟩:=hS.grds j g pol b x hv;refine ⟨k1,?_⟩;rw [if_neg (fun e2=>by rw [← e2,hg1] at k1; cases k1)];exact k2
def strS (l:List UInt8):List SV:=[.str l]
theorem V.s {C:Ctx} (t:Nat) (u u':CV) {c:Cfg} (hd:∀ ρ,u'.den ρ=u.den ρ) (h:V C ⟨c.todo,{ c.st with slots:=upd c.st.slots t (.v u') }⟩) (hl:look c.st.slots t=some (.v u):=by kernel_rfl) (hg:(!hasNat c.st.gs t&&plainC u')=true:=by kernel_rfl):V C c:=V.slotAs t u u' hl hg hd h
theorem V.sb {C:Ctx} (t:Nat) (b:Bool) {c:Cfg} (h:V C ⟨c.todo,{ c.st with slots:=upd c.st.slots t (.v (.one (.sb b))) }⟩) (hl:look c.st.slots t=some (.v (.one (.bool b))):=by kernel_rfl) (hg:(!hasNat c.st.gs t&&plainC (.one (.sb b)))=true:=by kernel_rfl):V C c:=V.slotAs t (.one (.bool b)) (.one (.sb b)) hl hg (fun _=>rfl) h
theorem V.up {C:Ctx} (t i:Nat) {c:Cfg} (hi:i<4000000000000000000) (h:V C ⟨c.todo,{ c.st with slots:=upd c.st.slots t (.v (.one (.int .i64 ((i+1:Nat):Int)))) }⟩) (hl:look c.st.slots t=some (.v (.one (.int .i64 (IntKind.i64.wrap ((i:Int)+1))))):=by kernel_rfl) (hg:(!hasNat c.st.gs t&&plainC (.one (.int .i64 ((i+1:Nat):Int))))=true:=by kernel_rfl):V C c :=
  V.slotAs t (.one (.int .i64 (IntKind.i64.wrap ((i:Int)+1)))) (.one (.int .i64 ((i+1:Nat):Int))) hl hg (fun _=>by
    rw [show IntKind.i64.wrap ((i:Int)+1)=((i+1:Nat):Int) by
      simp [IntKind.wrap,IntKind.bits,IntKind.signed];omega]) h
end Go.SX
end
section
namespace Go.SX
open Go
def condC (c:Cfg):Option (Nat×Bool) :=
 match condOf c with
 | some x=>some x
 | none=>match c.todo with
  | .inRegion ops (i::_)::_=>match ops[i]? with
   | some o=>match o.guard with
    | some (j,_)=>match (ops[j]?).bind (·.dst) with
     | some t=>match look c.st.slots t with
      | some (.grd g _ _ _)=>match look c.st.slots g with
       | some (.v (.one (.sb b)))=>some (g,b)
       | _=>none
      | _=>none
     | none=>none
    | none=>none
   | none=>none
  | _=>none
theorem condC_look {c:Cfg} {g:Nat} {b:Bool} (h:condC c=some (g,b)):look c.st.slots g=some (.v (.one (.sb b))):=by
 unfold condC at h;split at h
 ·rename_i x hx;cases h;exact condOf_look hx
 ·split at h
  ·split at h
   ·split at h
    ·split at h
     ·split at h
      ·split at h
       ·rename_i hl;cases h;exact hl
       ·cases h
      ·cases h
     ·cases h
    ·cases h
   ·cases h
  ·cases h
def runC (P:Program) (T:List (Ent P)):Nat→Cfg→Cfg×List Prop
 | 0,c=>(c,[])
 | n+1,c=>match runT P T 1000 c with
  | (c1,ob)=>match condC c1 with
   | some (g,b)=>match b with
    | true=>match runC P T n (c1.know g true) with
     | (c2,ob2)=>(c2,ob++ob2)
    | false=>match runC P T n (c1.know g false) with
     | (c2,ob2)=>(c2,ob++ob2)
   | none=>match isLoop c1 with
    | true=>match runC P T n (iter c1) with
     | (c2,ob2)=>(c2,ob++ob2)
    | false=>(c1,ob)
section
variable {C:Ctx}
theorem runC_sound {T:List (Ent C.P)}:∀ (n:Nat) (c:Cfg),(∀ p∈(runC C.P T n c).2,p)→(∀ e∈T,∀ q∈e.sp.need,q∈c.st.pers)→V C (runC C.P T n c).1→V C c
 | 0,c,_,_,h=>h
 | n+1,c,hob,hn,h=>by
  unfold runC at hob h;have hpp:=runT_pers (P:=C.P) (T:=T) 1000 c;have hrs:=runT_sound (C:=C) (T:=T) 1000 c;generalize SX.runT C.P T 1000 c=r at hob h hpp hrs;obtain ⟨c1,ob⟩:=r;simp only at hob h hpp hrs;have hn':∀ e∈T,∀ q∈e.sp.need,q∈c1.st.pers:=fun e he q hq=>by rw [hpp]; exact hn e he q hq
  split at hob
  ·rename_i g b hc;rw [hc] at h;cases b with
   | true =>
    simp only at hob h;exact hrs (fun p hp=>hob p (List.mem_append_left _ hp)) hn (V.known g true true (condC_look hc) rfl (runC_sound n _ (fun p hp=>hob p (List.mem_append_right _ hp)) hn' h))
   | false =>
    simp only at hob h;exact hrs (fun p hp=>hob p (List.mem_append_left _ hp)) hn (V.known g false false (condC_look hc) rfl (runC_sound n _ (fun p hp=>hob p (List.mem_append_right _ hp)) hn' h))
  ·rename_i hc;rw [hc] at h;simp only at h;split at hob
   ·rename_i hl;rw [hl] at h;simp only at hob h;exact hrs (fun p hp=>hob p (List.mem_append_left _ hp)) hn (V.iter (runC_sound n _ (fun p hp=>hob p (List.mem_append_right _ hp)) (fun e he q hq=>by rw [iter_st]; exact hn' e he q hq) h))
   ·rename_i hl;rw [hl] at h;simp only at hob h;exact hrs hob hn h
theorem V.runC (T:List (Ent C.P)) (n:Nat) (ob:List Prop) {c:Cfg} (hr:(SX.runC C.P T n c).2=ob) (hn:needT T c.st.pers=wantT T) (ho:allP ob) (h:V C (SX.runC C.P T n c).1):V C c :=
 runC_sound n c (hr▸allP_mem ho) (needT_ok hn) h
end
theorem CallsK.ofF {α:Type} {P:Program} {f:FuncId} {ys:List CV} {F:St} {p:α→Prop} {v:α→RV} {F':α→St} (hps:∀ x,(F' x).pers=[])
  (h:∀ ρ w,FSat ρ F w→Calls P f (ys.map (CV.den ρ)).toArray w (GivesF ρ F p v F' w)):CallsK P f ys F p v F':=by
 intro ρ w hF;refine (h ρ w hF).mono ?_;rintro e w' ⟨x,hp,he,k1,k2,k3,k4,k5,k6,k7⟩;exact ⟨x,ρ,hp,he,fun _ _=>rfl,Nat.le_of_eq k2.symm,fun b h1 h2=>absurd (Nat.lt_of_le_of_lt h1 (k2▸h2)) (Nat.lt_irrefl _),k1,k3,k4,k5,fun b blk _ hb hrw=>k6 b blk hb hrw,k7,fun q hq=>by rw [hps x] at hq; cases hq⟩
theorem V.rc {C:Ctx} (T:List (Ent C.P)) (n:Nat) (ob:List Prop) {c:Cfg} (ho:allP ob) (h:V C (SX.runC C.P T n c).1) (hr:(SX.runC C.P T n c).2=ob:=by kernel_rfl) (hn:needT T c.st.pers=wantT T:=by kernel_rfl):V C c:=V.runC T n ob hr hn ho h
end Go.SX
end
