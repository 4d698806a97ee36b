/- A symbolic run of the program that Lean checks, and what the functions of the program come to by it: part 6 of 11. -/
import Derived.Test.YticgechhgdgjlaaGreatDoorRAE
set_option linter.unusedVariables false
set_option linter.unusedSimpArgs false
section
namespace Go.SX
open Go
def gtA (A : App) (i : Nat) : List SV :=
 match Nat.blt i A.R.n with
 | true=>A.R.get i
 | false=>A.get (i - A.R.n)
def stA (A : App) (q : Option Addr) (cap : Nat) (s : St) : St:=s.rowTo A.r (A.R.next q A.m cap (gtA A))
def stepA (P : Program) (c : Cfg) (x : Option Addr × Nat) : Option Cfg :=
 match appOf P c with
 | some A=>match Nat.ble ((A.R.n + A.m) * A.bytes) 140737488355328 with
  | true=>afterOp c (stA A x.1 x.2 c.st) (.v (.one (.row c.st.nr x.1 (A.R.n + A.m) x.2)))
  | false=>none
 | none=>none
def nilSt (t : Nat) (e size : Nat) (s : St) : St :=
 { s with slots:=upd s.slots t (.v (.one (.row s.nr none 0 0))),rows:=(s.nr,⟨none,0,0,e,size,fun _=>[],true,none⟩) :: s.rows,nr:=s.nr + 1 }
def nilArg (P : Program) (c : Cfg) : Option (Nat × Nat × Nat) :=
 match opOf c with
 | some o=>match callAt o with
  | some cl=>match cl.callee,cl.args.toList,cl.argTypes.toList with
   | .builtin .append,.tmp t :: _,u :: _=>match P.underlying u with
    | some (.slice e)=>match P.info? e with
     | some i=>some (t,e,i.size)
     | none=>none
    | _=>none
   | _,_,_=>none
  | none=>none
 | none=>none
def stepN (P : Program) (c : Cfg) : Option Cfg :=
 match nilArg P c with
 | some (t,e,z)=>match look c.st.slots t,hasNat c.st.gs t with
  | some (.v (.one (.val (.slice none 0 0)))),false=>some ⟨c.todo,nilSt t e z c.st⟩
  | _,_=>none
 | none=>none
section
variable {C : Ctx}
theorem V.stepN {c c' : Cfg} (h : SX.stepN C.P c = some c') (k : V C c') : V C c:=by
 unfold SX.stepN at h
 split at h
 case h_2=>cases h
 rename_i t e z _
 split at h
 case h_2=>cases h
 rename_i hl hg
 cases h
 exact V.nil t e z (fun _=>[]) hl hg k
theorem stepN_le {P : Program} {c c' : Cfg} (h : SX.stepN P c = some c') : c.st.W.le c'.st.W ∧ c'.st.pers = c.st.pers:=by
 unfold SX.stepN at h
 split at h
 case h_2=>cases h
 rename_i t e z _
 split at h
 case h_2=>cases h
 cases h
 refine ⟨⟨Nat.le_refl _,Nat.le_succ _,fun r hr R hR=>?_⟩,rfl⟩
 have hr' : r < c.st.nr:=hr
 simp only [nilSt,St.W,look] at hR ⊢
 split at hR
 ·rename_i hb; have:=(beq_iff _ _).1 hb; omega
 ·exact hR
theorem stepA_le {P : Program} {c c' : Cfg} {x : Option Addr × Nat} (h : SX.stepA P c x = some c') : c.st.W.le c'.st.W ∧ c'.st.pers = c.st.pers:=by
 unfold SX.stepA at h
 split at h
 case h_2=>cases h
 rename_i A _
 split at h
 case h_2=>cases h
 have hrn:=afterOp_rn h
 refine ⟨?_,(afterOp_pers h).trans rfl⟩
 have h1:=rowTo_le c.st A.r (A.R.next x.1 A.m x.2 (gtA A))
 have h2:=hrn.le
 exact ⟨Nat.le_trans h1.n h2.n,Nat.le_trans h1.nr h2.nr,fun r hr R hR=>h1.rows r hr R (h2.rows r (Nat.lt_of_lt_of_le hr h1.nr) R hR)⟩
theorem V.stepA {c : Cfg} (h : ∀ x,∃ c',SX.stepA C.P c x = some c' ∧ V C c') : V C c:=by
 obtain ⟨c0,h0,_⟩:=h (none,0)
 unfold SX.stepA at h0
 split at h0
 case h_2=>cases h0
 rename_i A hA
 split at h0
 case h_2=>cases h0
 rename_i hb
 have hst : ∀ x,SX.stepA C.P c x = afterOp c (stA A x.1 x.2 c.st) (.v (.one (.row c.st.nr x.1 (A.R.n + A.m) x.2))):=fun x=>by
  unfold SX.stepA
  rw [hA]
  simp only [hb]
 refine V.append A (gtA A) hA (Nat.le_of_ble_eq_true hb) (fun i hi=>?_) (fun i hi=>?_) (fun q cap=>?_) (fun q cap=>?_)
 ·unfold gtA
  rw [show Nat.blt i A.R.n = true from by rw [Nat.blt_eq]; exact hi]
 ·unfold gtA
  rw [show Nat.blt (A.R.n + i) A.R.n = false from by
   cases hx : Nat.blt (A.R.n + i) A.R.n with
   | false=>rfl
   | true=>rw [Nat.blt_eq] at hx; omega,Nat.add_sub_cancel_left]
 ·obtain ⟨c',h1,_⟩:=h (q,cap)
  rw [hst] at h1
  exact Option.isSome_iff_exists.2 ⟨c',h1⟩
 ·obtain ⟨c',h1,h2⟩:=h (q,cap)
  rw [hst] at h1
  have : afterD c (stA A q cap c.st) (.v (.one (.row c.st.nr q (A.R.n + A.m) cap))) = c':=by
   unfold afterD
   rw [h1]; rfl
  rw [show c.st.rowTo A.r (A.R.next q A.m cap (gtA A)) = stA A q cap c.st from rfl,this]
  exact h2
theorem VI.stepN {stk : List (FuncId × Cfg)} {f : FuncId} {c c' : Cfg} (h : SX.stepN C.P c = some c') (k : VI C stk f c') : VI C stk f c :=
 VI.lift (V.stepN h) (fun f R base=>V.stepN (C:=C.inl f R base) h) k
theorem VI.stepA : ∀ {stk : List (FuncId × Cfg)} {f : FuncId} {c : Cfg},(∀ x,∃ c',SX.stepA C.P c x = some c' ∧ VI C stk f c') → VI C stk f c
 | [],_,_,h=>V.stepA h
 | (_,_) :: _,f,c,h=>fun R base hW=>V.stepA (C:=C.inl f R base) (fun x=>by
   obtain ⟨c',h1,h2⟩:=h x
   exact ⟨c',h1,h2 R base hW⟩)
end
def blkOf (ops : Array Oper) (s : St) : Nat → Operand → Option Nat
 | 0,_=>none
 | n + 1,.tmp t=>match look s.slots t with
  | some (.v (.one (.ptr b _)))=>some b
  | some _=>none
  | none=>match ops.toList.find? (fun o=>match o.dst with | some u=>Nat.beq u t | none=>false) with
   | some o=>match o.op with
    | .fieldAddr _ x _=>blkOf ops s n x
    | .indexAddr _ x _=>blkOf ops s n x
    | .nilCheck x=>blkOf ops s n x
    | .move x=>blkOf ops s n x
    | _=>none
   | none=>none
 | _,_=>none
def stBlks (ops : Array Oper) (s : St) : List Oper → List Nat
 | []=>[]
 | o :: l=>match o.op with
  | .store _ x _=>match blkOf ops s 8 x with
   | some b=>b :: stBlks ops s l
   | none=>stBlks ops s l
  | _=>stBlks ops s l
abbrev EvT:=FuncId → List CV → St → Option RV
structure EvOk (P : Program) (ev : EvT) : Prop where
 enters : ∀ f xs s v,ev f xs s = some v → entersB P f = true
 plain : ∀ f xs s v,ev f xs s = some v → plainR v = true
 calls : ∀ f xs s v,ev f xs s = some v → ∀ (C : Ctx),C.P = P → ∀ ρ a w,Sat C ρ s a w → (∀ x ∈ xs,x.wf s.W) → Calls P f (xs.map (CV.den ρ)).toArray w (Gives (v.den ρ) w)
def valG (ev : EvT) (b pol : Bool) (f : FuncId) (xs : List CV) (s : St) : Option CV :=
 match b,pol with
 | true,true=>match ev f xs s with
  | some (.v x)=>some x
  | _=>none
 | false,false=>match ev f xs s with
  | some (.v x)=>some x
  | _=>none
 | _,_=>some (.one (.val (.tuple #[])))
def callE (P : Program) (ev : EvT) (c0 : Cfg) (d : DCfg) (i : Nat) : Option DCfg :=
 match d.fuel,(dOps c0)[i]?,callD (dOps c0) i d.st with
 | n + 1,some o,some (none,f,xs)=>match ev f xs d.st with
  | some v=>match d.st.put o.dst v with
   | some s'=>some ⟨n,d.listed.setIfInBounds i true,s'⟩
   | none=>none
  | none=>none
 | n + 1,some o,some (some (g,pol,b),f,xs)=>match entersB P f,valG ev b pol f xs d.st with
  | true,some x=>match ({ d.st with gs:=addNat d.st.gs g } : St).put o.dst (.grd g pol b x) with
   | some s'=>some ⟨n,d.listed.setIfInBounds i true,s'⟩
   | none=>none
  | _,_=>none
 | _,_,_=>none
def goX (P : Program) (ev : EvT) (T : List Nat) (L : Nat) (c0 : Cfg) : Nat → DCfg → Option (St × List Prop)
 | 0,_=>none
 | m + 1,d=>match runDM P (dOps c0) (heldOf T c0.st.heap) (heldOf [] c0.st.rows) (dOps c0).size d with
  | (d1,ob)=>match endD P (dOps c0) L d1 with
   | some s=>some (s,ob)
   | none=>match Region.ready .any (dOps c0) d1.listed,Nat.blt 0 d1.fuel with
    | [i],true=>match storeT1 P T c0 d1 i with
     | some d2=>match goX P ev T L c0 m d2 with
      | some (s,ob')=>some (s,ob ++ ob')
      | none=>none
     | none=>match callE P ev c0 d1 i with
      | some d2=>match goX P ev T L c0 m d2 with
       | some (s,ob')=>some (s,ob ++ ob')
       | none=>none
      | none=>none
    | _,_=>none
def stepX (P : Program) (ev : EvT) (c : Cfg) : Option (Cfg × List Prop) :=
 match drawOf c with
 | some (ops,k)=>match isDraw P ops.size c with
  | true=>match goX P ev (stBlks ops c.st ops.toList) ops.size c 20 (headX c) with
   | some (s,ob)=>some (⟨k,s⟩,ob)
   | none=>none
  | false=>none
 | none=>none
section
variable {C : Ctx} {T : List Nat} {L : Nat} {c0 : Cfg}
theorem VX.runM {d : DCfg} (hob : ∀ p ∈ (runDM C.P (dOps c0) (heldOf T c0.st.heap) (heldOf [] c0.st.rows) (dOps c0).size d).2,p) (h : VX C T [] L c0 (runDM C.P (dOps c0) (heldOf T c0.st.heap) (heldOf [] c0.st.rows) (dOps c0).size d).1) : VX C T [] L c0 d:=by
 intro D hD a1 a2 a3 a4 a5 a6 hL hsel aT aTR hlt aN hrw
 rw [← a1,← a3] at hob h
 refine VD.runM hD (by rw [a4]; exact hL) hsel (dOps c0).size d hob hrw (fun hrw1=>?_)
 exact h D hD a1 a2 a3 a4 a5 a6 hL hsel aT aTR hlt aN hrw1
theorem storeT1_ok {P : Program} {d d2 : DCfg} {i : Nat} (h : storeT1 P T c0 d i = some d2) : d2.st.pers = d.st.pers ∧ RN d2.st d.st:=by
 unfold storeT1 at h
 split at h
 case h_2=>cases h
 split at h
 case h_2=>cases h
 rename_i s1 b _ hs _ _
 split at h
 case h_2=>cases h
 cases h
 exact ⟨opStore_pers hs,opStore_rn hs⟩
theorem callOf_wfG {c : Cfg} {g : Nat} {b : Bool} {f : FuncId} {xs : List CV} {ρ : Nat → Nat} {a : Act} {w : World} (hc : callOf c = some (some (g,b,b),f,xs)) (hS : Sat C ρ c.st a w) : ∀ x ∈ xs,x.wf c.st.W:=by
 obtain ⟨todo,st⟩:=c
 unfold callOf at hc
 simp only at hc hS ⊢
 split at hc
 case h_2=>cases hc
 split at hc
 case h_2=>cases hc
 split at hc
 case h_2=>cases hc
 split at hc
 ·split at hc <;> cases hc
 ·rename_i g' pol' b' hg
  split at hc
  case h_2=>cases hc
  rename_i f' caps ys h1 h2
  simp only [Option.some.injEq,Prod.mk.injEq] at hc
  obtain ⟨⟨e1,e2,e3⟩,e4,e5⟩:=hc
  subst e1 e2 e3 e4 e5
  obtain ⟨hl,_⟩:=grd_ask hS hg
  have hgc : GcOk st (some (g',b')):=fun g2 pol2 e=>by cases e; exact hl.true rfl
  intro x hx
  rcases List.mem_append.1 hx with hx | hx
  ·exact (evs_sound hS.toP hgc h2).2 x hx
  ·unfold calleeS at h1
   split at h1
   ·split at h1
    ·rename_i f2 cap hev
     cases h1
     obtain ⟨_,e2⟩:=ev_sound hS.toP hgc hev
     obtain ⟨b,hb,rfl⟩:=List.mem_map.1 hx
     exact e2 b hb
    ·split at h1
     ·cases h1
      obtain ⟨v,_,rfl⟩:=List.mem_map.1 hx
      exact ofVal_wf _ v
     ·cases h1
    ·cases h1
   ·cases h1
 ·cases hc
theorem callE_ok {ev : EvT} (hev : EvOk C.P ev) {d d2 : DCfg} {i : Nat} (hr : Region.ready .any (dOps c0) d.listed = [i]) (h : callE C.P ev c0 d i = some d2) : d2.st.pers = d.st.pers ∧ RN d2.st d.st ∧ (VX C T [] L c0 d2 → VX C T [] L c0 d):=by
 unfold callE at h
 split at h
 case h_3=>cases h
 ·rename_i n o f xs hf ho hc
  split at h
  case h_2=>cases h
  rename_i v hv
  split at h
  case h_2=>cases h
  rename_i s' hput
  cases h
  have hpl:=hev.plain _ _ _ _ hv
  refine ⟨put_pers hput,put_rn hput,fun k=>?_⟩
  intro D hD a1 a2 a3 a4 a5 a6 hL hsel aT aTR hlt aN hrw
  have hW:=put_W hput
  have hrw2 : D.rows s':=⟨fun r R hR=>by rw [show s'.rows = d.st.rows from congrArg WF.rows hW]; exact hrw.1 r R hR,by rw [hW]; exact hrw.2⟩
  refine VD.call i f xs v hr hf ho hc (enters (hev.enters _ _ _ _ hv)) hput (plainR_wf hpl _).1 (plainR_wf hpl d.st.W).2 (fun ρ a w hS=>hev.calls _ _ _ _ hv C rfl ρ a w hS ?_) (k D hD a1 a2 a3 a4 a5 a6 hL hsel aT aTR hlt aN hrw2)
  exact callOf_wf (c:=⟨[.inRegion (dOps c0) [i]],d.st⟩) hc hS
 ·rename_i n o g pol b f xs hf ho hc
  split at h
  case h_2=>cases h
  rename_i x hent hx
  split at h
  case h_2=>cases h
  rename_i s' hput
  cases h
  have hval : plainC x = true ∧ (b = pol → ev f xs d.st = some (.v x)):=by
   unfold valG at hx
   split at hx
   ·split at hx
    ·rename_i hv; cases hx; exact ⟨hev.plain _ _ _ _ hv,fun _=>hv⟩
    ·cases hx
   ·split at hx
    ·rename_i hv; cases hx; exact ⟨hev.plain _ _ _ _ hv,fun _=>hv⟩
    ·cases hx
   ·rename_i hn1 hn2
    cases hx
    refine ⟨rfl,fun e=>?_⟩
    subst e
    cases b
    ·exact absurd rfl (hn2 rfl)
    ·exact absurd rfl (hn1 rfl)
  refine ⟨(put_pers hput).trans rfl,(put_rn hput).trans RN.rfl',fun k=>?_⟩
  intro D hD a1 a2 a3 a4 a5 a6 hL hsel aT aTR hlt aN hrw
  have hW : s'.W = d.st.W:=(put_W hput).trans rfl
  have hrw2 : D.rows s':=⟨fun r R hR=>by rw [show s'.rows = d.st.rows from congrArg WF.rows hW]; exact hrw.1 r R hR,by rw [hW]; exact hrw.2⟩
  refine VD.callG i g pol b f xs x hr hf ho hc (enters hent) hput (plainC_wf hval.1 d.st.W) (fun e ρ a w hS=>hev.calls _ _ _ _ (hval.2 e) C rfl ρ a w hS ?_) (k D hD a1 a2 a3 a4 a5 a6 hL hsel aT aTR hlt aN hrw2)
  subst e
  exact callOf_wfG (c:=⟨[.inRegion (dOps c0) [i]],d.st⟩) hc hS
theorem goX_ok {ev : EvT} (hev : EvOk C.P ev) : ∀ (m : Nat) (d : DCfg) (s : St) (ob : List Prop),goX C.P ev T L c0 m d = some (s,ob) → s.pers = d.st.pers ∧ RN s d.st ∧ ((∀ p ∈ ob,p) → V C ⟨dK c0,s⟩ → VX C T [] L c0 d)
 | 0,_,_,_,h=>by cases h
 | m + 1,d,s,ob,h=>by
  unfold goX at h
  have hpp:=runDM_pers (P:=C.P) (ops:=dOps c0) (h0:=heldOf T c0.st.heap) (r0:=heldOf [] c0.st.rows) (dOps c0).size d
  have hrn:=runDM_rn (P:=C.P) (ops:=dOps c0) (h0:=heldOf T c0.st.heap) (r0:=heldOf [] c0.st.rows) (dOps c0).size d
  have hM:=VX.runM (C:=C) (T:=T) (L:=L) (c0:=c0) (d:=d)
  generalize runDM C.P (dOps c0) (heldOf T c0.st.heap) (heldOf [] c0.st.rows) (dOps c0).size d = r at h hpp hrn hM
  obtain ⟨d1,ob1⟩:=r
  simp only at h hpp hrn hM
  split at h
  ·rename_i s' he
   cases h
   exact ⟨(endD_pers he).trans hpp,(endD_rn he).trans hrn,fun ho k=>hM ho (VX.fin s he k)⟩
  ·split at h
   case h_2=>cases h
   rename_i i hr hf
   split at h
   case h_2 =>
    split at h
    case h_2=>cases h
    rename_i d2 hst
    split at h
    case h_2=>cases h
    rename_i s' ob' hg
    cases h
    obtain ⟨e1,e2,e3⟩:=callE_ok (T:=T) (L:=L) hev hr hst
    obtain ⟨f1,f2,f3⟩:=goX_ok hev m d2 s ob' hg
    exact ⟨f1.trans (e1.trans hpp),f2.trans (e2.trans hrn),fun ho k=>hM (fun p hp=>ho p (List.mem_append_left _ hp)) (e3 (f3 (fun p hp=>ho p (List.mem_append_right _ hp)) k))⟩
   rename_i d2 hst
   split at h
   case h_2=>cases h
   rename_i s' ob' hg
   cases h
   obtain ⟨e1,e2⟩:=storeT1_ok hst
   obtain ⟨f1,f2,f3⟩:=goX_ok hev m d2 s ob' hg
   refine ⟨f1.trans (e1.trans hpp),f2.trans (e2.trans hrn),fun ho k=>hM (fun p hp=>ho p (List.mem_append_left _ hp)) ?_⟩
   refine VX.store i hr hf (by rw [hst]; rfl) ?_
   have : storeY C.P T c0 d1 i = d2:=by unfold storeY; rw [hst]; rfl
   rw [this]
   exact f3 (fun p hp=>ho p (List.mem_append_right _ hp)) k
theorem stepX_ok {ev : EvT} (hev : EvOk C.P ev) {c c' : Cfg} {ob : List Prop} (h : stepX C.P ev c = some (c',ob)) : c'.st.pers = c.st.pers ∧ RN c'.st c.st ∧ ((∀ p ∈ ob,p) → V C c' → V C c):=by
 unfold stepX at h
 split at h
 case h_2=>cases h
 rename_i ops k hd
 split at h
 case h_2=>cases h
 rename_i hdr
 split at h
 case h_2=>cases h
 rename_i s ob' hg
 cases h
 obtain ⟨h1,h2,h3⟩:=goX_ok hev _ _ _ _ hg
 have e : dK c = k:=by unfold dK; rw [hd]
 refine ⟨h1,h2,fun ho k'=>V.drawX (stBlks ops c.st ops.toList) [] ops.size (by rw [hdr]; rfl) (h3 ho ?_)⟩
 rw [e]
 exact k'
end
def runA (P : Program) (ev : EvT) (ap : Bool) (T : List (Ent P)) (no : List FuncId) (dec : Bool) : Nat → (Nat → Option Addr × Nat) → ICfg → ICfg × List Prop
 | 0,_,i=>(i,[])
 | n + 1,os,i=>match stepI P T no dec i with
  | some (i',[])=>runA P ev ap T no dec n os i'
  | some (i',p :: ob)=>match runA P ev ap T no dec n os i' with
   | (i'',ob')=>(i'',(p :: ob) ++ ob')
  | none=>match stepX P ev i.c with
   | some (c',[])=>runA P ev ap T no dec n os ⟨i.stk,i.f,c'⟩
   | some (c',p :: ob)=>match runA P ev ap T no dec n os ⟨i.stk,i.f,c'⟩ with
    | (i'',ob')=>(i'',(p :: ob) ++ ob')
   | none=>match stepN P i.c with
   | some c'=>runA P ev ap T no dec n os ⟨i.stk,i.f,c'⟩
   | none=>match ap with
    | true=>match stepA P i.c (os 0) with
     | some c'=>runA P ev ap T no dec n (fun k=>os (k + 1)) ⟨i.stk,i.f,c'⟩
     | none=>(i,[])
    | false=>(i,[])
section
variable {C : Ctx}
theorem runA_sound {ev : EvT} {ap : Bool} (hev : EvOk C.P ev) {T : List (Ent C.P)} {no : List FuncId} {dec : Bool} (hF : (C.P.funcs[C.f]?).isSome = true) : ∀ (n : Nat) (i : ICfg),(∀ e ∈ T,∀ q ∈ e.sp.need,q ∈ i.c.st.pers) → fnStk C.P i.stk i.f → leStk i.stk i.c.st.W →
  (∀ os,(∀ p ∈ (runA C.P ev ap T no dec n os i).2,p) ∧ VI C (runA C.P ev ap T no dec n os i).1.stk (runA C.P ev ap T no dec n os i).1.f (runA C.P ev ap T no dec n os i).1.c) → VI C i.stk i.f i.c
 | 0,i,_,_,_,h=>(h (fun _=>(none,0))).2
 | n + 1,i,hn,hS,hl,h=>by
  unfold runA at h
  cases hs : stepI C.P T no dec i with
  | some r =>
   obtain ⟨i',ob⟩:=r
   rw [hs] at h
   cases ob with
   | nil =>
    obtain ⟨k1,k2,k3,k4⟩:=stepI_sound hs (by simp) hn hF hS hl
    exact k4 (runA_sound hev hF n i' k1 k2 k3 h)
   | cons p ob =>
    have hob : ∀ q ∈ p :: ob,q:=fun q hq=>by
     refine (h (fun _=>(none,0))).1 q ?_
     exact List.mem_append_left _ hq
    obtain ⟨k1,k2,k3,k4⟩:=stepI_sound hs hob hn hF hS hl
    exact k4 (runA_sound hev hF n i' k1 k2 k3 (fun os=>⟨fun q hq=>(h os).1 q (List.mem_append_right _ hq),(h os).2⟩))
  | none =>
   rw [hs] at h
   cases hX : SX.stepX C.P ev i.c with
   | some r =>
    obtain ⟨c',ob⟩:=r
    rw [hX] at h
    obtain ⟨e1,e2,e3⟩:=stepX_ok hev hX
    have e4 : ∀ f R base,(∀ p ∈ ob,p) → V (C.inl f R base) c' → V (C.inl f R base) i.c:=fun f R base=>(stepX_ok (C:=C.inl f R base) hev hX).2.2
    have hgo : (∀ p ∈ ob,p) → (∀ os,(∀ p ∈ (runA C.P ev ap T no dec n os ⟨i.stk,i.f,c'⟩).2,p) ∧ VI C (runA C.P ev ap T no dec n os ⟨i.stk,i.f,c'⟩).1.stk (runA C.P ev ap T no dec n os ⟨i.stk,i.f,c'⟩).1.f (runA C.P ev ap T no dec n os ⟨i.stk,i.f,c'⟩).1.c) → VI C i.stk i.f i.c:=fun ho hk =>
     VI.lift (e3 ho) (fun f R base=>e4 f R base ho) (runA_sound (ap:=ap) (no:=no) (dec:=dec) hev hF n ⟨i.stk,i.f,c'⟩ (fun e he q hq=>by rw [e1]; exact hn e he q hq) hS (hl.mono e2.le.sh) hk)
    cases ob with
    | nil=>exact hgo (fun p hp=>absurd hp List.not_mem_nil) h
    | cons p ob=>exact hgo (fun q hq=>(h (fun _=>(none,0))).1 q (List.mem_append_left _ hq)) (fun os=>⟨fun q hq=>(h os).1 q (List.mem_append_right _ hq),(h os).2⟩)
   | none =>
    rw [hX] at h
    cases hN : SX.stepN C.P i.c with
    | some c' =>
     obtain ⟨h1,h2⟩:=stepN_le hN
     refine VI.stepN hN (runA_sound (ap:=ap) (no:=no) (dec:=dec) hev hF n ⟨i.stk,i.f,c'⟩ (fun e he q hq=>by rw [h2]; exact hn e he q hq) hS (hl.mono h1.sh) (fun os=>?_))
     have:=h os
     simp only [hN] at this
     exact this
    | none =>
    cases ap with
    | false =>
     have:=(h (fun _=>(none,0))).2
     simp only [hN] at this
     exact this
    | true =>
     by_cases hall : ∀ x,∃ c',SX.stepA C.P i.c x = some c'
     ·refine VI.stepA (fun x=>?_)
      obtain ⟨c',hc⟩:=hall x
      refine ⟨c',hc,?_⟩
      obtain ⟨h1,h2⟩:=stepA_le hc
      refine runA_sound (ap:=true) (no:=no) (dec:=dec) hev hF n ⟨i.stk,i.f,c'⟩ (fun e he q hq=>by rw [h2]; exact hn e he q hq) hS (hl.mono h1.sh) (fun os=>?_)
      have:=h (fun k=>match k with | 0=>x | k + 1=>os k)
      simp only [hN,hc] at this
      exact this
     ·have hex : ∃ x,SX.stepA C.P i.c x = none:=by
       refine Classical.byContradiction fun hne=>hall (fun x=>?_)
       cases hx : SX.stepA C.P i.c x with
       | none=>exact absurd ⟨x,hx⟩ hne
       | some c'=>exact ⟨c',rfl⟩
      obtain ⟨x,hx⟩:=hex
      have:=(h (fun _=>x)).2
      simp only [hx,hN] at this
      exact this
theorem V.runA {ev : EvT} (hev : EvOk C.P ev) (T : List (Ent C.P)) (no : List FuncId) (dec : Bool) (n : Nat) {c : Cfg} (hr : ∀ os,(SX.runA C.P ev true T no dec n os ⟨[],C.f,c⟩).2 = []) (hn : needT T c.st.pers = wantT T) (hF : (C.P.funcs[C.f]?).isSome = true)
  (h : ∀ os,VI C (SX.runA C.P ev true T no dec n os ⟨[],C.f,c⟩).1.stk (SX.runA C.P ev true T no dec n os ⟨[],C.f,c⟩).1.f (SX.runA C.P ev true T no dec n os ⟨[],C.f,c⟩).1.c) : V C c :=
 runA_sound (ap:=true) hev hF n ⟨[],C.f,c⟩ (needT_ok hn) trivial trivial (fun os=>⟨fun p hp=>by rw [hr os] at hp; exact absurd hp List.not_mem_nil,h os⟩)
end
def endA (P : Program) (f : FuncId) (r : ICfg × List Prop) : Option RV :=
 match r with
 | (⟨[],_,c⟩,[])=>match isEnd c.todo,resOf P f c.st with
  | true,some v=>match plainR v with
   | true=>some (nrmR v)
   | false=>none
  | _,_=>none
 | _=>none
theorem nrmC_plain {x : CV} (h : plainC x = true) : plainC (nrmC x) = true:=by
 cases x with
 | one x=>cases x <;> exact h
 | agg l =>
  simp only [nrmC,plainC,List.all_map] at h ⊢
  refine List.all_eq_true.2 (fun x hx=>?_)
  have:=List.all_eq_true.1 h x hx
  cases x <;> exact this
theorem nrmR_plain {x : RV} (h : plainR x = true) : plainR (nrmR x) = true:=by
 cases x with
 | v x=>exact nrmC_plain h
 | tup l =>
  simp only [nrmR,plainR,List.all_map] at h ⊢
  exact List.all_eq_true.2 (fun x hx=>nrmC_plain (List.all_eq_true.1 h x hx))
 | grd _ _ _ _=>exact h
theorem endA_ok {P : Program} {f : FuncId} {r : ICfg × List Prop} {v : RV} (h : endA P f r = some v) : plainR v = true ∧ r.2 = [] ∧ ∀ ρ w,VI (ctxO P f ρ (.ret v) w ρ) r.1.stk r.1.f r.1.c:=by
 obtain ⟨⟨stk,g,c⟩,ob⟩:=r
 unfold endA at h
 split at h
 case h_2=>cases h
 rename_i g' c' heq
 cases heq
 split at h
 case h_2=>cases h
 rename_i v' he hres
 split at h
 case h_2=>cases h
 rename_i hpl
 cases h
 refine ⟨nrmR_plain hpl,rfl,fun ρ w=>?_⟩
 show V _ _
 refine V.ret (C:=ctxO P f ρ (.ret (nrmR v')) w ρ) v' hres he (fun ρ' a w' hS=>?_)
 exact ⟨by show Ending.returned _ = Ending.returned _; rw [plainR_den (nrmR_plain hpl) ρ ρ',nrmR_den],hS.chg⟩
def roR : List (Nat × Row) → List (Nat × Row)
 | []=>[]
 | (k,R) :: l=>(k,{ R with own:=false }) :: roR l
theorem look_roR : ∀ {l : List (Nat × Row)} {k : Nat} {R : Row},look (roR l) k = some R → ∃ R0,look l k = some R0 ∧ R = { R0 with own:=false }
 | (j,c) :: l,k,b,h=>by
  simp only [roR,look] at h ⊢
  split at h
  ·cases h; exact ⟨c,rfl,rfl⟩
  ·exact look_roR h
def roS (n : Nat) (xs : List CV) (s : St) : St :=
 { n:=n,slots:=enum xs 0,gs:=[],heap:=roH s.heap,next:=s.next,rows:=roR s.rows,nr:=s.nr,pers:=s.pers,wr:=true,fx:=s.next,lit:=s.lit }
theorem roS_sat {C : Ctx} {ρ : Nat → Nat} {s : St} {a a' : Act} {w : World} {n : Nat} {xs : List CV} {f : FuncId} {R : Ending → World → Prop} (hS : Sat C ρ s a w) (hx : ∀ x ∈ xs,x.wf s.W) (h1 : a'.tmps.size = n) (h2 : a'.defers = [])
  (h3 : ∀ (i : Nat) (x : CV),xs[i]? = some x → a'.tmps[i]? = some (x.den ρ)) : Sat ⟨C.P,f,R,fun _=>False,w,ρ,none⟩ ρ (roS n xs s) a' w:=by
 have hsh : s.W.sh (roS n xs s).W:=⟨Nat.le_refl _,Nat.le_refl _,fun r hr R hR=>by
  obtain ⟨R0,k1,rfl⟩:=look_roR hR
  exact ⟨R0,k1,rfl,rfl,rfl,rfl⟩⟩
 refine ⟨h1,?_,?_,?_,hS.inj,hS.lt,h2,Chg.refl _ _,?_,?_,?_,fun b hb=>⟨hb,rfl⟩⟩
 ·intro i v hv
  obtain ⟨x,rfl,_,hx'⟩:=look_enum _ 0 i v hv
  exact ⟨h3 i x (by simpa using hx'),CV.wf_sh hsh x (hx x (List.mem_of_getElem? hx'))⟩
 ·intro i g pol c x hv
  obtain ⟨y,e,_⟩:=look_enum _ 0 i _ hv
  cases e
 ·intro b blk hb
  obtain ⟨b0,h0,rfl⟩:=look_roH hb
  obtain ⟨k1,k2,k3,_⟩:=hS.heap b b0 h0
  exact ⟨k1,k2,fun x hx=>SV.wf_sh hsh x (k3 x hx),fun e=>by cases e⟩
 ·intro r R hR
  obtain ⟨R0,k1,rfl⟩:=look_roR hR
  obtain ⟨m1,m2,m3⟩:=hS.rows r R0 k1
  refine ⟨m1,⟨m2.len,m2.addr,(fun e=>by cases e),m2.obj⟩,fun k hk=>?_⟩
  obtain ⟨ad,e1,e2,e3⟩:=hk
  have hu : R0.uses k:=⟨ad,e1,e2,e3.elim (fun e=>by cases e) .inr⟩
  exact ⟨(m3 k hu).1,(m3 k hu).2.1,fun e=>by cases e⟩
 ·intro r r' R R' hR _ _ ho
  obtain ⟨R0,k1,rfl⟩:=look_roR hR
  cases ho
 ·intro p hp
  obtain ⟨p1,p2,p3⟩:=hS.pers p hp
  refine ⟨p1,p2,fun k hk=>⟨(p3 k hk).1,(p3 k hk).2.1,fun r R hR ho=>?_⟩⟩
  obtain ⟨R0,k1,rfl⟩:=look_roR hR
  cases ho
def os0 : Nat → Option Addr × Nat:=fun _=>(none,0)
def evN (P : Program) (T : List (Ent P)) : Nat → EvT
 | 0=>fun _ _ _=>none
 | k + 1=>fun f xs s=>match entersB P f,P.funcs[f]? with
  | true,some fn=>match fn.body.isSome && Nat.ble xs.length fn.ntmps with
   | true=>endA P f (runA P (evN P T k) false T [] true 1000 os0 ⟨[],f,⟨[.code (bodyOf fn)],roS fn.ntmps xs s⟩⟩)
   | false=>none
  | _,_=>none
theorem runA_same {P : Program} {ev : EvT} {T : List (Ent P)} {no : List FuncId} {dec : Bool} : ∀ (n : Nat) (os os' : Nat → Option Addr × Nat) (i : ICfg),runA P ev false T no dec n os i = runA P ev false T no dec n os' i
 | 0,_,_,_=>rfl
 | n + 1,os,os',i=>by
  unfold runA
  have ih:=runA_same (P:=P) (ev:=ev) (T:=T) (no:=no) (dec:=dec) n os os'
  split
  ·exact ih _
  ·rw [ih]
  ·split
   ·exact ih _
   ·rw [ih]
   ·split
    ·exact ih _
    ·rfl
theorem evN_ok {P : Program} {T : List (Ent P)} (hT : ∀ e ∈ T,e.sp.need = []) : ∀ k,EvOk P (evN P T k)
 | 0=>⟨(fun _ _ _ _ h=>by cases h),(fun _ _ _ _ h=>by cases h),(fun _ _ _ _ h=>by cases h)⟩
 | k + 1=>by
  have main : ∀ f xs s v,evN P T (k + 1) f xs s = some v → entersB P f = true ∧ ∃ fn,P.funcs[f]? = some fn ∧ (fn.body.isSome && Nat.ble xs.length fn.ntmps) = true ∧
    endA P f (runA P (evN P T k) false T [] true 1000 os0 ⟨[],f,⟨[.code (bodyOf fn)],roS fn.ntmps xs s⟩⟩) = some v:=by
   intro f xs s v h
   simp only [evN] at h
   split at h
   case h_2=>cases h
   rename_i fn he hf
   split at h
   case h_2=>cases h
   rename_i hb
   exact ⟨he,fn,hf,hb,h⟩
  refine ⟨fun f xs s v h=>(main f xs s v h).1,fun f xs s v h=>?_,fun f xs s v h C hC ρ a w hS hx=>?_⟩
  ·obtain ⟨_,fn,_,_,h⟩:=main f xs s v h
   exact (endA_ok h).1
  ·subst hC
   obtain ⟨_,fn,hf,hb,h⟩:=main f xs s v h
   rw [Bool.and_eq_true] at hb
   obtain ⟨_,h1,h2⟩:=endA_ok h
   have:=Calls.of_V (P:=C.P) (f:=f) (fn:=fn) (R:=GivesO ρ (.ret v) w) (w:=w) (fun _=>False) ρ ρ xs (roS fn.ntmps xs s) hf hb.1 hb.2 (fun a' k1 k2 k3=>roS_sat hS hx k1 k2 k3)
    (runA_sound (C:=ctxO C.P f ρ (.ret v) w ρ) (ap:=false) (evN_ok hT k) (by rw [hf]; rfl) 1000 ⟨[],f,⟨[.code (bodyOf fn)],roS fn.ntmps xs s⟩⟩ (fun e he q hq=>by rw [hT e he] at hq; exact absurd hq List.not_mem_nil) trivial trivial
     (fun os=>by rw [runA_same 1000 os os0]; exact ⟨fun p hp=>by rw [h1] at hp; exact absurd hp List.not_mem_nil,h2 ρ w⟩))
   exact this
end Go.SX
end
section
namespace Go.SX
open Go
def tabD (l : List (Nat × Nat × Row)) (s : St) : St:=(SX.tabs l s).getD s
theorem V.tabsI {C : Ctx} (l : List (Nat × Nat × Row)) {c : Cfg} (h : (SX.tabs l c.st).isSome = true) (hp : tabsIn l c.st.pers = tabsAt l) (k : V C ⟨c.todo,tabD l c.st⟩) : V C c:=by
 unfold tabD at k
 cases hx : SX.tabs l c.st with
 | none=>rw [hx] at h; cases h
 | some s=>rw [hx] at k; exact V.tabs l hx hp k
def stL (n : Nat) (ys : List CV) (F : St) : St:={ stO n ys F true with lit:=true }
theorem V.lit {C : Ctx} {c : Cfg} (h : V C ⟨c.todo,{ c.st with lit:=true }⟩) : V C c:=fun ρ a w hS =>
 h ρ a w ⟨hS.n,hS.slots,hS.grds,hS.heap,hS.inj,hS.lt,hS.defers,hS.chg,hS.rows,hS.rowsD,hS.pers,hS.fix⟩
theorem CallsF.run {P : Program} {ev : EvT} (hev : EvOk P ev) {f : FuncId} {fn : Func} {ys : List CV} {F : St} {v : RV} (T : List (Ent P)) (tb : List (Nat × Nat × Row)) (no : List FuncId) (n : Nat) (hf : P.funcs[f]? = some fn)
  (hb : (fn.body.isSome && (Nat.ble ys.length fn.ntmps && F.rows.isEmpty)) = true) (hw : fixA F ys = some ys) (ht : (SX.tabs tb (stL fn.ntmps ys F)).isSome = true) (hp : tabsIn tb F.pers = tabsAt tb) (hn : needT T F.pers = wantT T)
  (hr : ∀ os,endA P f (SX.runA P ev true T no true n os ⟨[],f,⟨[.code (bodyOf fn)],tabD tb (stL fn.ntmps ys F)⟩⟩) = some v) : CallsF P f ys F (.ret v):=by
 have hpers : (tabD tb (stL fn.ntmps ys F)).pers = F.pers:=by
  have : ∀ (l : List (Nat × Nat × Row)) (s s' : St),SX.tabs l s = some s' → s'.pers = s.pers:=by
   intro l
   induction l with
   | nil=>intro s s' h; simp only [SX.tabs,Option.some.injEq] at h; rw [← h]
   | cons p l ih =>
    obtain ⟨g,i,R⟩:=p
    intro s s' h
    simp only [SX.tabs] at h
    split at h
    ·exact (ih _ _ h).trans rfl
    ·cases h
  unfold tabD
  cases hx : SX.tabs tb (stL fn.ntmps ys F) with
  | none=>rw [hx] at ht; cases ht
  | some s=>exact (this tb _ s hx).trans rfl
 refine CallsF.mk true hf hb hw (fun ρ w=>V.lit (V.tabsI tb ht hp ?_))
 exact V.runA (C:=ctxO P f ρ (.ret v) w ρ) hev T no true n (fun os=>(endA_ok (hr os)).2.1) (by show needT T (tabD tb (stL fn.ntmps ys F)).pers = _; rw [hpers]; exact hn) (by rw [hf]; rfl) (fun os=>(endA_ok (hr os)).2.2 ρ w)
def nilStk (r : ICfg × List Prop) : Bool :=
 match r with
 | (⟨[],_,_⟩,[])=>true
 | _=>false
theorem V.runZ {C : Ctx} {ev : EvT} (hev : EvOk C.P ev) (T : List (Ent C.P)) (no : List FuncId) (n : Nat) {c : Cfg} (hr : ∀ os,nilStk (SX.runA C.P ev true T no true n os ⟨[],C.f,c⟩) = true) (hn : needT T c.st.pers = wantT T) (hF : (C.P.funcs[C.f]?).isSome = true)
  (h : ∀ os,V C (SX.runA C.P ev true T no true n os ⟨[],C.f,c⟩).1.c) : V C c:=by
 have hone : ∀ r : ICfg × List Prop,nilStk r = true → V C r.1.c → r.2 = [] ∧ VI C r.1.stk r.1.f r.1.c:=by
  rintro ⟨⟨stk,g,c⟩,ob⟩ h k
  unfold nilStk at h
  split at h
  case h_2=>cases h
  rename_i g' c' heq
  cases heq
  exact ⟨rfl,k⟩
 exact V.runA hev T no true n (fun os=>(hone _ (hr os) (h os)).1) hn hF (fun os=>(hone _ (hr os) (h os)).2)
def eqS : SV → SV → Bool
 | .int k n,.int k' n'=>match k == k' with
  | true=>Int.decEq n n' |>.decide
  | false=>false
 | .sb a,.sb b | .sb a,.bool b | .bool a,.sb b | .bool a,.bool b=>match a,b with
  | true,true=>true
  | false,false=>true
  | _,_=>false
 | .str a,.str b=>decide (a = b)
 | .val (.slice none 0 0),.val (.slice none 0 0)=>true
 | _,_=>false
def eqSs : List SV → List SV → Bool
 | [],[]=>true
 | x :: l,y :: m=>match eqS x y with
  | true=>eqSs l m
  | false=>false
 | _,_=>false
def eqC : CV → CV → Bool
 | .one x,.one y=>eqS x y
 | .agg l,.agg m=>eqSs l m
 | _,_=>false
def eqCs : List CV → List CV → Bool
 | [],[]=>true
 | x :: l,y :: m=>match eqC x y with
  | true=>eqCs l m
  | false=>false
 | _,_=>false
theorem eqS_den {ρ ρ' : Nat → Nat} {x y : SV} (h : eqS x y = true) : x.den ρ = y.den ρ':=by
 unfold eqS at h
 split at h
 ·split at h
  ·rename_i hk
   have e1:=eq_of_beq hk
   have e2:=of_decide_eq_true h
   subst e1; subst e2; rfl
  ·cases h
 all_goals first
  | (split at h <;> first | rfl | cases h)
  | (have:=of_decide_eq_true h; subst this; rfl)
  | rfl
  | cases h
theorem eqSs_den {ρ ρ' : Nat → Nat} : ∀ {l m : List SV},eqSs l m = true → l.map (SV.den ρ) = m.map (SV.den ρ')
 | [],[],_=>rfl
 | x :: l,y :: m,h=>by
  simp only [eqSs] at h
  split at h
  ·rename_i hx; rw [List.map_cons,List.map_cons,eqS_den (ρ:=ρ) (ρ':=ρ') hx,eqSs_den (ρ:=ρ) (ρ':=ρ') h]
  ·cases h
 | [],_ :: _,h=>by cases h
 | _ :: _,[],h=>by cases h
theorem eqC_den {ρ ρ' : Nat → Nat} {x y : CV} (h : eqC x y = true) : x.den ρ = y.den ρ':=by
 cases x with
 | one x=>cases y with
  | one y=>exact eqS_den h
  | agg m=>cases h
 | agg l=>cases y with
  | one y=>cases h
  | agg m=>simp only [CV.den]; rw [eqSs_den (ρ:=ρ) (ρ':=ρ') h]
theorem eqCs_den {ρ ρ' : Nat → Nat} : ∀ {l m : List CV},eqCs l m = true → l.map (CV.den ρ) = m.map (CV.den ρ')
 | [],[],_=>rfl
 | x :: l,y :: m,h=>by
  simp only [eqCs] at h
  split at h
  ·rename_i hx; rw [List.map_cons,List.map_cons,eqC_den (ρ:=ρ) (ρ':=ρ') hx,eqCs_den (ρ:=ρ) (ρ':=ρ') h]
  ·cases h
 | [],_ :: _,h=>by cases h
 | _ :: _,[],h=>by cases h
def pickL (xs : List CV) : List (List CV × RV) → Option RV
 | []=>none
 | (ys,v) :: l=>match eqCs xs ys with
  | true=>some v
  | false=>pickL xs l
theorem pickL_some {xs : List CV} {v : RV} : ∀ {l : List (List CV × RV)},pickL xs l = some v → ∃ ys,(ys,v) ∈ l ∧ eqCs xs ys = true
 | [],h=>by cases h
 | (ys,u) :: l,h=>by
  simp only [pickL] at h
  split at h
  ·rename_i hx; cases h; exact ⟨ys,List.mem_cons_self ..,hx⟩
  ·obtain ⟨zs,h1,h2⟩:=pickL_some h
   exact ⟨zs,List.mem_cons_of_mem _ h1,h2⟩
def Con.lits {P : Program} (f : FuncId) (l : List (List CV × RV)) (h : ∀ p ∈ l,plainR p.2 = true ∧ CallsF P f p.1 (stP []) (.ret p.2)) : Con P where
 f:=f
 need:=[]
 fn:=fun xs=>match pickL xs l with
  | some v=>some (v,[])
  | none=>none
 ok:=by
  intro xs v ob hx hob ρ w hp hl
  split at hx
  case h_2=>cases hx
  rename_i v' hv
  cases hx
  obtain ⟨ys,h1,h2⟩:=pickL_some hv
  obtain ⟨h3,h4⟩:=h _ h1
  rw [eqCs_den (ρ:=ρ) (ρ':=ρ) h2]
  exact h4 ρ w (FSat_nil ρ w)
theorem needs0 {P : Program} : ∀ {T : List (Ent P)},T.map (fun e=>e.sp.need) = T.map (fun _=>[]) → ∀ e ∈ T,e.sp.need = []
 | [],_,_,h=>absurd h List.not_mem_nil
 | x :: T,h,e,he=>by
  rw [List.map_cons,List.map_cons,List.cons.injEq] at h
  rcases List.mem_cons.1 he with rfl | he
  ·exact h.1
  ·exact needs0 h.2 e he
end Go.SX
namespace Go.SX
open Go
theorem VI.panic {C : Ctx} {v : Value} {c : Cfg} {f : FuncId} (hc : panOf c = some v) (hds : c.st.defs = []) (hf : (C.P.funcs[f]?).isSome = true) (hF : (C.P.funcs[C.f]?).isSome = true)
  (h : ∀ w',Chg C.S C.w0 w' → C.R (.panicked [{ v:=v,recovered:=false }]) w') : ∀ {stk : List (FuncId × Cfg)},panOk C stk → VI C stk f c
 | [],hp=>V.panicO hc hp hds hF h
 | (g,c0) :: stk,hp=>fun R base hW=>V.panicO (C:=C.inl f R base) hc rfl hds hf (fun w' hch=>hW.2 _ w' hp (h w' hch))
def noDefs : List (FuncId × Cfg) → Bool
 | []=>true
 | (_,c) :: l=>match c.st.defs with
  | []=>noDefs l
  | _=>false
theorem noDefs_ok {C : Ctx} (hr : C.round = none) : ∀ {stk : List (FuncId × Cfg)},noDefs stk = true → panOk C stk
 | [],_=>hr
 | (g,c) :: l,h=>by
  simp only [noDefs] at h
  split at h
  ·rename_i hd; exact ⟨hd,noDefs_ok hr h⟩
  ·cases h
def endP (P : Program) (r : ICfg × List Prop) : Option Value :=
 match r with
 | (⟨stk,g,c⟩,[])=>match panOf c,c.st.defs,noDefs stk,(P.funcs[g]?).isSome with
  | some v,[],true,true=>some v
  | _,_,_,_=>none
 | _=>none
theorem tabD_pers {tb : List (Nat × Nat × Row)} {s : St} (ht : (SX.tabs tb s).isSome = true) : (tabD tb s).pers = s.pers:=by
 have : ∀ (l : List (Nat × Nat × Row)) (s s' : St),SX.tabs l s = some s' → s'.pers = s.pers:=by
  intro l
  induction l with
  | nil=>intro s s' h; simp only [SX.tabs,Option.some.injEq] at h; rw [← h]
  | cons p l ih =>
   obtain ⟨g,i,R⟩:=p
   intro s s' h
   simp only [SX.tabs] at h
   split at h
   ·exact (ih _ _ h).trans rfl
   ·cases h
 unfold tabD
 cases hx : SX.tabs tb s with
 | none=>rw [hx] at ht; cases ht
 | some s1=>exact this tb _ s1 hx
theorem CallsF.runP {P : Program} {ev : EvT} (hev : EvOk P ev) {f : FuncId} {fn : Func} {ys : List CV} {F : St} {v : Value} (T : List (Ent P)) (tb : List (Nat × Nat × Row)) (no : List FuncId) (n : Nat) (hf : P.funcs[f]? = some fn)
  (hb : (fn.body.isSome && (Nat.ble ys.length fn.ntmps && F.rows.isEmpty)) = true) (hw : fixA F ys = some ys) (ht : (SX.tabs tb (stL fn.ntmps ys F)).isSome = true) (hp : tabsIn tb F.pers = tabsAt tb) (hn : needT T F.pers = wantT T)
  (hr : ∀ os,endP P (SX.runA P ev true T no true n os ⟨[],f,⟨[.code (bodyOf fn)],tabD tb (stL fn.ntmps ys F)⟩⟩) = some v) : CallsF P f ys F (.pan [{ v:=v,recovered:=false }]):=by
 refine CallsF.mk true hf hb hw (fun ρ w=>V.lit (V.tabsI tb ht hp ?_))
 have hone : ∀ r : ICfg × List Prop,endP P r = some v → r.2 = [] ∧ VI (ctxO P f ρ (.pan [{ v:=v,recovered:=false }]) w ρ) r.1.stk r.1.f r.1.c:=by
  rintro ⟨⟨stk,g,c⟩,ob⟩ h
  unfold endP at h
  split at h
  case h_2=>cases h
  rename_i stk' g' c' heq
  cases heq
  split at h
  case h_2=>cases h
  rename_i v' h1 h2 h3 h4
  cases h
  exact ⟨rfl,VI.panic (C:=ctxO P f ρ (.pan [{ v:=v,recovered:=false }]) w ρ) h1 h2 h4 (by show (P.funcs[f]?).isSome = true; rw [hf]; rfl) (fun w' hch=>⟨rfl,hch⟩) (noDefs_ok rfl h3)⟩
 exact V.runA (C:=ctxO P f ρ (.pan [{ v:=v,recovered:=false }]) w ρ) hev T no true n (fun os=>(hone _ (hr os)).1) (by show needT T (tabD tb (stL fn.ntmps ys F)).pers = _; rw [tabD_pers ht]; exact hn) (by rw [hf]; rfl) (fun os=>(hone _ (hr os)).2)
end Go.SX
end
section
namespace Go.Proofs
open Go Go.SX
set_option maxRecDepth 100000
set_option maxHeartbeats 4000000
def cNameL : Con Tryz.prog where
 f:=125
 need:=[]
 fn:=fun xs=>match xs with
  | [.one (.str s)]=>match Nat.ble s.length 1000 with
   | true=>some (.v (.one (.sb (nameB s))),[])
   | false=>none
  | _=>none
 ok:=by
  intro xs v ob h hob ρ w hp hl
  split at h
  case h_2=>cases h
  rename_i s
  split at h
  case h_2=>cases h
  rename_i hs
  cases h
  exact cNameF s (Nat.le_trans (Nat.le_of_ble_eq_true hs) (by decide)) ρ w (FSat_nil ρ w)
noncomputable def TB : List (Ent Tryz.prog):=[cNameL.e,cMost.e]
theorem ev0 : EvOk Tryz.prog (evN Tryz.prog [] 2):=evN_ok (needs0 kq) 2
def tyB : CV:=.agg (tyC ⟨2,15,0,false,[]⟩)
def tyD : CV:=.agg (tyC ⟨1,5,2,false,[]⟩)
def iV (n : Int) : RV:=.v (.one (.int .i64 n))
def bV (b : Bool) : RV:=.v (.one (.sb b))
theorem l157B : CallsF Tryz.prog 157 [tyB] (stP []) (.ret (iV 0)):=CallsF.run ev0 TB [] [] 400 Tryz.func157 kq kq kq kq kq (fun os=>kq)
theorem l157D : CallsF Tryz.prog 157 [tyD] (stP []) (.ret (iV 0)):=CallsF.run ev0 TB [] [] 400 Tryz.func157 kq kq kq kq kq (fun os=>kq)
theorem two {P : List CV × RV → Prop} {a b : List CV × RV} (h : P a) (k : P b) : ∀ p ∈ [a,b],P p:=fun p hp=>by
 rcases List.mem_cons.1 hp with rfl | hp
 ·exact h
 ·rw [List.mem_singleton.1 hp]; exact k
def k157 : Con Tryz.prog:=Con.lits 157 [([tyB],iV 0),([tyD],iV 0)] (two ⟨rfl,l157B⟩ ⟨rfl,l157D⟩)
noncomputable def TC : List (Ent Tryz.prog):=k157.e :: TB
theorem l179B : CallsF Tryz.prog 179 [tyB] (stP []) (.ret (iV 16)):=CallsF.run ev0 TC [] [] 400 Tryz.func179 kq kq kq kq kq (fun os=>kq)
theorem l179D : CallsF Tryz.prog 179 [tyD] (stP []) (.ret (iV 24)):=CallsF.run ev0 TC [] [] 400 Tryz.func179 kq kq kq kq kq (fun os=>kq)
def k179 : Con Tryz.prog:=Con.lits 179 [([tyB],iV 16),([tyD],iV 24)] (two ⟨rfl,l179B⟩ ⟨rfl,l179D⟩)
theorem l178B : CallsF Tryz.prog 178 [tyB] (stP []) (.ret (iV 16)):=CallsF.run ev0 TC [] [] 400 Tryz.func178 kq kq kq kq kq (fun os=>kq)
theorem l178D : CallsF Tryz.prog 178 [tyD] (stP []) (.ret (iV 8)):=CallsF.run ev0 TC [] [] 400 Tryz.func178 kq kq kq kq kq (fun os=>kq)
def k178 : Con Tryz.prog:=Con.lits 178 [([tyB],iV 16),([tyD],iV 8)] (two ⟨rfl,l178B⟩ ⟨rfl,l178D⟩)
theorem l89B : CallsF Tryz.prog 89 [tyB] (stP []) (.ret (bV true)):=CallsF.run ev0 TC [] [] 400 Tryz.func89 kq kq kq kq kq (fun os=>kq)
theorem l89D : CallsF Tryz.prog 89 [tyD] (stP []) (.ret (bV true)):=CallsF.run ev0 TC [] [] 400 Tryz.func89 kq kq kq kq kq (fun os=>kq)
def k89 : Con Tryz.prog:=Con.lits 89 [([tyB],bV true),([tyD],bV true)] (two ⟨rfl,l89B⟩ ⟨rfl,l89D⟩)
noncomputable def TD : List (Ent Tryz.prog):=k179.e :: k178.e :: k89.e :: TC
end Go.Proofs
end
section
namespace Go.Proofs
open Go Go.SX
set_option maxRecDepth 100000
set_option maxHeartbeats 4000000
def exH (size : Int) : List (Nat × Blk):=[(0,{ cells:=[SV.sli 1 2 2,SV.int IntKind.i64 0,SV.val (Value.slice none 0 0),SV.sli 8 1 1,SV.val (Value.slice none 0 0),SV.val (Value.slice none 0 0)],elem:=38,rw:=true }),
  (1,{ cells:=[SV.str [77,65,73,78],SV.int IntKind.i64 (-1),SV.int IntKind.i64 0,SV.int IntKind.i64 size,SV.val (Value.slice none 0 0),SV.sli 2 2 2,SV.val (Value.slice none 0 0),SV.str [80],SV.int IntKind.i64 0,SV.int IntKind.i64 0,SV.int IntKind.i64 0,SV.val (Value.slice none 0 0),SV.sli 5 1 1,SV.val (Value.slice none 0 0)],elem:=55,rw:=false }),
  (2,{ cells:=[SV.int IntKind.i64 2,SV.int IntKind.i64 0,SV.sli 3 1 1,SV.sli 4 1 1,SV.int IntKind.i64 0,SV.int IntKind.i64 0,SV.int IntKind.i64 0,SV.val (Value.slice none 0 0),SV.int IntKind.i64 0,SV.bool false,SV.bool false,SV.int IntKind.i64 6,SV.int IntKind.i64 0,SV.val (Value.slice none 0 0),SV.val (Value.slice none 0 0),SV.int IntKind.i64 1,SV.int IntKind.i64 0,SV.int IntKind.i64 0,SV.val (Value.slice none 0 0),SV.int IntKind.i64 0,SV.bool false,SV.bool false],elem:=59,rw:=false }),
  (3,{ cells:=[SV.int IntKind.i64 1,SV.int IntKind.i64 0,SV.int IntKind.i64 0,SV.int IntKind.i64 0,SV.val (Value.slice none 0 0),SV.val (Value.slice none 0 0),SV.int IntKind.i64 2,SV.int IntKind.i64 15,SV.int IntKind.i64 0,SV.bool false,SV.str []],elem:=97,rw:=false }),
  (4,{ cells:=[SV.int IntKind.i64 1,SV.int IntKind.i64 2,SV.int IntKind.i64 15,SV.int IntKind.i64 0,SV.bool false,SV.str [],SV.int IntKind.i64 7,SV.str [],SV.int IntKind.i64 0,SV.val (Value.slice none 0 0),SV.val (Value.slice none 0 0)],elem:=44,rw:=false }),
  (5,{ cells:=[SV.int IntKind.i64 2,SV.int IntKind.i64 0,SV.sli 6 1 1,SV.sli 7 1 1,SV.int IntKind.i64 0,SV.int IntKind.i64 0,SV.int IntKind.i64 0,SV.val (Value.slice none 0 0),SV.int IntKind.i64 0,SV.bool false,SV.bool false],elem:=59,rw:=false }),
  (6,{ cells:=[SV.int IntKind.i64 1,SV.int IntKind.i64 1,SV.int IntKind.i64 0,SV.int IntKind.i64 16,SV.val (Value.slice none 0 0),SV.val (Value.slice none 0 0),SV.int IntKind.i64 1,SV.int IntKind.i64 5,SV.int IntKind.i64 2,SV.bool false,SV.str []],elem:=97,rw:=false }),
  (7,{ cells:=[SV.int IntKind.i64 1,SV.int IntKind.i64 1,SV.int IntKind.i64 5,SV.int IntKind.i64 2,SV.bool false,SV.str [],SV.int IntKind.i64 1250,SV.str [],SV.int IntKind.i64 0,SV.val (Value.slice none 0 0),SV.val (Value.slice none 0 0)],elem:=44,rw:=false }),
  (8,{ cells:=[SV.str [83,89,83,80,82,73,78,84],SV.int IntKind.i64 2],elem:=137,rw:=false })]
def exF (size : Int) : St:={ noF with heap:=exH size,next:=9,pers:=gl }
def glT : List (Nat × Nat × Row):=[(0,2,opR),(1,1,shR),(4,0,puR)]
end Go.Proofs
end
section
namespace Go.Proofs
open Go Go.SX
set_option maxRecDepth 100000
set_option maxHeartbeats 4000000
abbrev nilS : SV:=.val (Value.slice none 0 0)
def ptF0 : St:={ noF with heap:=[(0,⟨[nilS],42,true⟩),(1,⟨[nilS],41,true⟩)],next:=2 }
theorem parts0 (enc : Nat → Array Value) : Iter Tryz.prog 202 [.one (.ptr 0 0),.one (.ptr 1 0)] ptF0 0 enc:=by
 refine Iter.mk true Tryz.func202 kq kq (fun ρ w l Y O Ow=>?_)
 refine V.runZ ev0 [] [] 200 (fun os=>kq) kq kq (fun os=>?_)
 exact V.iterEnd Y 0 rfl O Ow [] (.tup []) kq kq kq
end Go.Proofs
end
section
namespace Go.Proofs
open Go Go.SX
set_option maxRecDepth 100000
set_option maxHeartbeats 4000000
def exC (t : Ty) (v : Int) : List SV:=[.int .i64 1,.int .i64 t.k,.int .i64 t.p,.int .i64 t.q,.sb t.v,.str t.s,.int .i64 v,.str [],.int .i64 0,nilS,nilS]
def tB : Ty:=⟨2,15,0,false,[]⟩
def tD : Ty:=⟨1,5,2,false,[]⟩
def shSt (t : Ty) (v : Int) (_ : Unit) : St :=
 { n:=16,slots:=[(2,.v (.one (.ptr 0 0))),(3,.v (.one (.ptr 1 0))),(4,.v (.one (.ptr 2 0)))],gs:=[],heap:=[(0,⟨exC t v,44,true⟩),(1,⟨[.int .i64 40],3,true⟩),(2,⟨[.bool false],4,true⟩)],next:=3,rows:=[],nr:=0,pers:=[],wr:=true,fx:=0 }
def encE (t : Ty) (v : Int) (_ : Nat) : Array Value:=#[(CV.agg (exC t v)).den (fun _=>0)]
theorem l107 (t : Ty) (v : Int) : CallsF Tryz.prog 107 [.agg (exC t v),.one (.int .i64 40)] (stP []) (.ret (.v (.one (.bool true)))):=by
 refine CallsF.mk true Tryz.func107 kq kq (fun ρ w=>V.lit ?_)
 refine V.runZ ev0 [] [] 200 (fun os=>kq) kq kq (fun os=>?_)
 refine V.rangeFc (shSt t v) ⟨fun _=>rfl,fun _=>rfl,fun _=>rfl,fun _=>rfl,fun _=>rfl,fun _=>rfl,fun _=>rfl,fun _=>rfl⟩ (fun i x=>True) (fun _ _=>False) (fun i=>[.agg (exC t v)]) (encV:=encE t v) (fun i ρ=>rfl)
  () [2,3,4] [true,true,true] [] (parts0 _) kq kq trivial kq kq kq (fun i=>kq) (fun i=>kq) (fun i x ρ1 W l r q hi hx=>absurd hi (Nat.not_lt_zero _)) (fun x l r q hx=>?_) (fun cd x l r q hx=>hx.elim)
 refine V.runZ ev0 [] [] 200 (fun os=>kq) kq kq (fun os=>?_)
 refine V.retD 0 r kq rfl (by rintro e w ⟨h,_⟩; exact ⟨_,h⟩) kq kq ?_
 exact V.retO kq kq kq
def n40 : CV:=.one (.int .i64 40)
def k107 : Con Tryz.prog:=Con.lits 107 [([.agg (exC tB 7),n40],.v (.one (.bool true))),([.agg (exC tD 1250),n40],.v (.one (.bool true)))] (two ⟨rfl,l107 tB 7⟩ ⟨rfl,l107 tD 1250⟩)
noncomputable def TE : List (Ent Tryz.prog):=k107.e :: cWithin.e :: cSome.e :: TD
theorem evE : EvOk Tryz.prog (evN Tryz.prog TE 3):=evN_ok (needs0 kq) 3
end Go.Proofs
end
section
namespace Go.Proofs
open Go Go.SX
set_option maxRecDepth 100000
set_option maxHeartbeats 4000000
theorem chkOk : CallsF Tryz.prog 68 [.one (.ptr 0 0)] (exF 48) (outE 0) :=
 CallsF.run evE TE glT [] 8000 Tryz.func68 kq kq kq kq kq (fun os=>kq)
end Go.Proofs
end
section
namespace Go.Proofs
open Go Go.SX
set_option maxRecDepth 100000
set_option maxHeartbeats 4000000
def noP : St:={ noF with heap:=[(0,⟨[nilS,.int .i64 0,nilS,nilS,nilS,nilS],38,true⟩)],next:=1,pers:=gl }
theorem chkProg : CallsF Tryz.prog 68 [.one (.ptr 0 0)] noP (outE 100) :=
 CallsF.runP (v:=.iface 168 (.agg #[.int .i64 100])) evE TE glT [] 8000 Tryz.func68 kq kq kq kq kq (fun os=>kq)
theorem chkRef : CallsF Tryz.prog 68 [.one (.ptr 0 0)] (exF 32) (outE 103) :=
 CallsF.runP (v:=.iface 168 (.agg #[.int .i64 103])) evE TE glT [] 8000 Tryz.func68 kq kq kq kq kq (fun os=>kq)
end Go.Proofs
end
section
namespace Go.Proofs
open Go Go.SX
set_option maxRecDepth 100000
set_option maxHeartbeats 4000000
def exG (size : Int) : List (Nat × Blk):=[
 (0,{ cells:=[SV.str [77,65,73,78],SV.int IntKind.i64 (-1),SV.int IntKind.i64 0,SV.int IntKind.i64 size,SV.val (Value.slice none 0 0),SV.sli 1 2 2,SV.val (Value.slice none 0 0),SV.str [80],SV.int IntKind.i64 0,SV.int IntKind.i64 0,SV.int IntKind.i64 0,SV.val (Value.slice none 0 0),SV.sli 4 1 1,SV.val (Value.slice none 0 0)],elem:=55,rw:=true }),
  (1,{ cells:=[SV.int IntKind.i64 2,SV.int IntKind.i64 0,SV.sli 2 1 1,SV.sli 3 1 1,SV.int IntKind.i64 0,SV.int IntKind.i64 0,SV.int IntKind.i64 0,SV.val (Value.slice none 0 0),SV.int IntKind.i64 0,SV.bool false,SV.bool false,SV.int IntKind.i64 6,SV.int IntKind.i64 0,SV.val (Value.slice none 0 0),SV.val (Value.slice none 0 0),SV.int IntKind.i64 1,SV.int IntKind.i64 0,SV.int IntKind.i64 0,SV.val (Value.slice none 0 0),SV.int IntKind.i64 0,SV.bool false,SV.bool false],elem:=59,rw:=true }),
  (2,{ cells:=[SV.int IntKind.i64 1,SV.int IntKind.i64 0,SV.int IntKind.i64 0,SV.int IntKind.i64 0,SV.val (Value.slice none 0 0),SV.val (Value.slice none 0 0),SV.int IntKind.i64 2,SV.int IntKind.i64 15,SV.int IntKind.i64 0,SV.bool false,SV.str []],elem:=97,rw:=true }),
  (3,{ cells:=[SV.int IntKind.i64 1,SV.int IntKind.i64 2,SV.int IntKind.i64 15,SV.int IntKind.i64 0,SV.bool false,SV.str [],SV.int IntKind.i64 7,SV.str [],SV.int IntKind.i64 0,SV.val (Value.slice none 0 0),SV.val (Value.slice none 0 0)],elem:=44,rw:=true }),
  (4,{ cells:=[SV.int IntKind.i64 2,SV.int IntKind.i64 0,SV.sli 5 1 1,SV.sli 6 1 1,SV.int IntKind.i64 0,SV.int IntKind.i64 0,SV.int IntKind.i64 0,SV.val (Value.slice none 0 0),SV.int IntKind.i64 0,SV.bool false,SV.bool false],elem:=59,rw:=true }),
  (5,{ cells:=[SV.int IntKind.i64 1,SV.int IntKind.i64 1,SV.int IntKind.i64 0,SV.int IntKind.i64 16,SV.val (Value.slice none 0 0),SV.val (Value.slice none 0 0),SV.int IntKind.i64 1,SV.int IntKind.i64 5,SV.int IntKind.i64 2,SV.bool false,SV.str []],elem:=97,rw:=true }),
  (6,{ cells:=[SV.int IntKind.i64 1,SV.int IntKind.i64 1,SV.int IntKind.i64 5,SV.int IntKind.i64 2,SV.bool false,SV.str [],SV.int IntKind.i64 1250,SV.str [],SV.int IntKind.i64 0,SV.val (Value.slice none 0 0),SV.val (Value.slice none 0 0)],elem:=44,rw:=true }),
  (7,{ cells:=[SV.str [83,89,83,80,82,73,78,84],SV.int IntKind.i64 2],elem:=137,rw:=true })]
def exP : CV:=.agg [SV.sli 0 2 2,SV.int IntKind.i64 0,nilS,SV.sli 7 1 1,nilS,nilS]
def exE (size : Int) : St:={ noF with heap:=exG size,next:=8,pers:=gl }
theorem check21 (size e : Int) (h : CallsF Tryz.prog 68 [.one (.ptr 0 0)] (exF size) (outE e)) : CallsF Tryz.prog 21 [exP] (exE size) (.ret (iV e)):=by
 refine CallsF.mk true Tryz.func21 kq kq (fun ρ w=>V.lit ?_)
 refine V.runZ ev0 [] [67] 200 (fun os=>kq) kq kq (fun os=>?_)
 refine V.callO [(0,false),(1,false),(2,false)] (cCaught (g:=68) (bs:=[0]) kq h) kq kq kq (fun v hv=>⟨?_,?_⟩) (fun ch hc=>by cases hc)
 ·cases hv; kernel_rfl
 ·cases hv
  refine V.runZ ev0 [] [67] 200 (fun os=>kq) kq kq (fun os=>?_)
  exact V.retO kq kq kq
end Go.Proofs
end
section
namespace Go.SX
open Go
theorem look_roH2 : ∀ {l : List (Nat × Blk)} {k : Nat} {b : Blk},look l k = some b → look (roH l) k = some ⟨b.cells,b.elem,false⟩
 | (j,c) :: l,k,b,h=>by
  simp only [roH,look] at h ⊢
  split at h
  ·cases h; rfl
  ·exact look_roH2 h
 | [],k,b,h=>by cases h
theorem CallsF.ro {P : Program} {f : FuncId} {ys : List CV} {F : St} {o : Out} (h : CallsF P f ys F o) : CallsF P f ys { F with heap:=roH F.heap } o:=by
 intro ρ w hS
 refine h ρ w ⟨fun b blk hb=>?_,hS.inj,hS.lt,hS.rows,hS.rowsD,hS.pers⟩
 have:=hS.heap b _ (look_roH2 hb)
 exact this
end Go.SX
namespace Go.Proofs
open Go Go.SX
set_option maxRecDepth 100000
set_option maxHeartbeats 4000000
def i64 (n : Int) : CV:=.one (.int .i64 n)
theorem up17 : CallsF Tryz.prog 17 [exP,i64 1,i64 0] (exE 48) (.ret (.tup [i64 1,.one (.sb true),i64 0])):=by
 refine CallsF.mk true Tryz.func17 kq kq (fun ρ w=>V.lit ?_)
 refine V.runZ ev0 [] [21] 200 (fun os=>kq) kq kq (fun os=>?_)
 refine V.callO [(0,false),(1,false),(2,false)] (check21 48 0 chkOk).ro kq kq kq (fun v hv=>⟨?_,?_⟩) (fun ch hc=>by cases hc)
 ·cases hv; kernel_rfl
 ·cases hv
  refine V.runZ ev0 [] [] 2000 (fun os=>kq) kq kq (fun os=>?_)
  exact V.retO kq kq kq
end Go.Proofs
end
section
namespace Go.SX
open Go
section
variable {C : Ctx}
theorem V.asEl (t i g off k : Nat) (R : Row) {c : Cfg} (hl : look c.st.slots t = some (.v (.one (.val (.pointer (some ⟨g,off,none⟩)))))) (hg : hasNat c.st.gs t = false) (hp : c.st.pers[i]? = some (rowP R)) (ho : R.own = false)
  (hs : R.s = some ⟨g,off - k * R.size,none⟩) (hk : k < R.n) (hoff : k * R.size ≤ off)
  (h : V C ⟨c.todo,{ c.st with slots:=upd c.st.slots t (.v (.one (.el c.st.nr R.s R.size k 0))),rows:=(c.st.nr,R) :: c.st.rows,nr:=c.st.nr + 1 }⟩) : V C c:=by
 intro ρ a w hS
 have h1:=hS.rowOfP hp ho
 refine h ρ a w ⟨h1.n,?_,?_,h1.heap,h1.inj,h1.lt,h1.defers,h1.chg,h1.rows,h1.rowsD,h1.pers,h1.fix⟩
 ·intro j v hv
  simp only [look_upd] at hv
  by_cases e : t = j
  ·rw [if_pos e] at hv
   cases hv
   subst e
   have hden : (RV.v (.one (.el c.st.nr R.s R.size k 0))).den ρ = (RV.v (.one (.val (.pointer (some ⟨g,off,none⟩))))).den ρ:=by
    simp only [RV.den,CV.den,SV.den,hs]
    have : off - k * R.size + (k * R.size + 0) = off:=by omega
    rw [this]
   refine ⟨?_,Nat.lt_succ_self _,fun Q hQ=>?_⟩
   ·rw [hden]; exact (h1.slots t _ hl).1
   ·simp only [St.W,look,Nat.beq_refl] at hQ
    cases hQ
    exact ⟨rfl,rfl,hk⟩
  ·rw [if_neg e] at hv
   exact h1.slots j v hv
 ·intro j g pol b x hv
  simp only [look_upd] at hv ⊢
  by_cases e : t = j
  ·rw [if_pos e] at hv; cases hv
  ·rw [if_neg e] at hv
   obtain ⟨k1,k2⟩:=h1.grds j g pol b x hv
   refine ⟨k1,?_⟩
   rw [if_neg (fun e'=>?_)]
   ·exact k2
   ·rw [← e'] at k1
    have k1' : hasNat c.st.gs t = true:=k1
    rw [hg] at k1'; cases k1'
end
end Go.SX
end
section
namespace Go.SX
open Go
def frameU (c : Cfg) (xs : List CV) : Option (List CV × (List (Nat × Blk) × Nat × List (Nat × Row) × Nat)) :=
 match canon c.st.heap [] (svsOf (xs.map unrowC)) with
 | (hs,rs)=>match renC hs rs (xs.map unrowC),pickSt [] hs rs [] c.st with
  | some ys,some s'=>some (ys,fragOf s')
  | _,_=>none
theorem getP_all {n0 : Nat} {S : Nat → Prop} {ps : List Pers} : ∀ {qs : List Pers},(∀ q ∈ qs,q ∈ ps) → ∃ pi,getP pi ps = some (askP n0 S pi qs)
 | [],_=>⟨[],rfl⟩
 | q :: qs,h=>by
  obtain ⟨pi,h1⟩:=getP_all (n0:=n0) (S:=S) (qs:=qs) (fun x hx=>h x (List.mem_cons_of_mem _ hx))
  obtain ⟨i,hi⟩:=List.getElem?_of_mem (h q (List.mem_cons_self ..))
  refine ⟨(i,false) :: pi,?_⟩
  simp only [getP,hi,h1,askP]
theorem V.callU {C : Ctx} {f : FuncId} {xs ys : List CV} {F : St} {v : RV} {c c' : Cfg} (hcall : callOf c = some (none,f,xs)) (hb : entersB C.P f = true) (hc : frameU c xs = some (ys,fragOf F)) (hk : CallsF C.P f ys F (.ret v)) (hp : ∀ q ∈ F.pers,q ∈ c.st.pers) (hv : plainR v = true)
  (ha : afterOp c c.st v = some c') (k : V C c') : V C c:=by
 unfold frameU at hc
 split at hc
 rename_i hs rs hcan
 split at hc
 case h_2=>cases hc
 rename_i ys1 s' hren hpk
 simp only [Option.some.injEq,Prod.mk.injEq] at hc
 obtain ⟨rfl,hfr⟩:=hc
 have hargs : ∀ ρ : Nat → Nat,ys1.map (CV.den (fun i=>ρ (hs.getD i 0))) = xs.map (CV.den ρ):=by
  intro ρ
  have hpk2:=hpk
  unfold pickSt at hpk2
  split at hpk2
  case h_2=>cases hpk2
  rename_i sl hpp rows _ _ _ _ hrows
  have hRR : RowsRen rs c.st.W ⟨hs.length,rs.length,rows⟩:=by
   intro r' r R hr hl
   obtain ⟨r2,_,h2,h3⟩:=pickRows_ok hrows r' R hl
   simp only [Nat.sub_zero] at h2
   rw [hr] at h2
   cases h2
   exact h3
  exact (renC_ok (ρ:=ρ) (W:=c.st.W) (W':=⟨hs.length,rs.length,rows⟩) rfl rfl hRR hren).1.trans (unrow_map ρ xs)
 obtain ⟨pi,hpi⟩:=getP_all (n0:=C.w0.heap.size) (S:=C.S) hp
 have hcalls : ∀ ρ a w,Sat C ρ c.st a w → Calls C.P f (xs.map (CV.den ρ)).toArray w (GivesO (fun i=>ρ (hs.getD i 0)) (.ret v) w):=fun ρ a w hS=>by
  have:=hk (fun i=>ρ (hs.getD i 0)) w (hS.fragAt hpk hfr pi hpi)
  rw [hargs ρ] at this
  exact this
 refine V.callM hcall (enters hb) (fun ρ a w hS=>⟨_,hcalls ρ a w hS,?_⟩)
 rintro e w' ⟨he,hch⟩
 exact ⟨ρ,v,c.st,_,by rw [plainR_den hv ρ (fun i=>ρ (hs.getD i 0))]; exact he,hS.below hch,(plainR_wf hv _).1,(plainR_wf hv c.st.W).2,ha,k⟩
def ev0 : EvT:=fun _ _ _=>none
theorem ev0_ok {P : Program} : EvOk P ev0:=⟨(fun _ _ _ _ h=>by cases h),(fun _ _ _ _ h=>by cases h),(fun _ _ _ _ h=>by cases h)⟩
structure Ext (P : Program) where
 ev : EvT
 need : List Pers
 fc : FuncId → List CV → St → Option (RV × List Prop)
 evOk : EvOk P ev
 fcOk : ∀ f ys F v ob,fc f ys F = some (v,ob) → (∀ p ∈ ob,p) → entersB P f = true ∧ plainR v = true ∧ ∀ F' : St,fragOf F = fragOf F' → F'.pers = need → CallsF P f ys F' (.ret v)
def Ext.none {P : Program} : Ext P:=⟨ev0,[],fun _ _ _=>Option.none,ev0_ok,fun _ _ _ _ _ h=>by cases h⟩
def frSt (x : List (Nat × Blk) × Nat × List (Nat × Row) × Nat) (ps : List Pers) : St :=
 { n:=0,slots:=[],gs:=[],heap:=x.1,next:=x.2.1,rows:=x.2.2.1,nr:=x.2.2.2,pers:=ps,wr:=false }
def fcOf {P : Program} (X : Ext P) (c : Cfg) : Option (Cfg × List Prop) :=
 match callOf c with
 | some (none,f,xs)=>match frameU c xs with
  | some (ys,fr)=>match X.fc f ys (frSt fr X.need) with
   | some (v,ob)=>match afterOp c c.st v with
    | some c'=>some (c',ob)
    | Option.none=>Option.none
   | Option.none=>Option.none
  | Option.none=>Option.none
 | _=>Option.none
theorem fcOf_ok {C : Ctx} {X : Ext C.P} {c c' : Cfg} {ob : List Prop} (h : fcOf X c = some (c',ob)) : c'.st.pers = c.st.pers ∧ ((∀ q ∈ X.need,q ∈ c.st.pers) → (∀ p ∈ ob,p) → V C c' → V C c):=by
 unfold fcOf at h
 split at h
 case h_2=>cases h
 rename_i f xs hcall
 split at h
 case h_2=>cases h
 rename_i ys fr hfr
 split at h
 case h_2=>cases h
 rename_i v ob' hfc
 split at h
 case h_2=>cases h
 rename_i c2 ha
 cases h
 refine ⟨afterOp_pers ha,fun hn ho k=>?_⟩
 obtain ⟨h1,h2,h3⟩:=X.fcOk _ _ _ _ _ hfc ho
 exact V.callU (F:=frSt fr X.need) hcall h1 (by rw [hfr]; rfl) (h3 (frSt fr X.need) rfl rfl) hn h2 ha k
def treeY (P : Program) (X : Ext P) (f : FuncId) (T : List (Ent P)) (mu : FuncId) : Nat → Cfg → Tr
 | 0,c=>.leaf c
 | n + 1,c=>match runT P T 1000 c with
  | (c1,ob)=>obT ob (match condC c1 with
   | some (g,b)=>.cond b (treeY P X f T mu n (c1.know g true)) (treeY P X f T mu n (c1.know g false))
   | none=>match isLoop c1 with
    | true=>.leaf c1
    | false=>match mustOf mu c1 with
     | some (b,e,c2)=>.must b e (treeY P X f T mu n c2)
     | none=>match isEnd c1.todo,resOf P f c1.st with
      | true,some v=>.ret (nrmR v)
      | _,_=>match stepX P X.ev c1 with
       | some (c2,ob2)=>obT ob2 (treeY P X f T mu n c2)
       | none=>match fcOf X c1 with
        | some (c2,ob2)=>obT ob2 (treeY P X f T mu n c2)
        | none=>.leaf c1)
section
variable {P : Program} {X : Ext P} {f : FuncId} {ρ base : Nat → Nat} {o : Out} {w : World}
theorem V.trY {T : List (Ent P)} {mu : FuncId} {wr : Int → List PanicEntry} (hmu : ∀ b e,CallsF P mu [.one (.sb b),.one (.int .i64 e)] (stP []) (if b then .ret (.tup []) else .pan (wr e))) (hent : entersB P mu = true) (hf : (P.funcs[f]?).isSome = true) :
  ∀ (n : Nat) (c : Cfg),(∀ e ∈ T,∀ q ∈ e.sp.need,q ∈ c.st.pers) → (∀ q ∈ X.need,q ∈ c.st.pers) → Tr.ok wr o (V (ctxO P f ρ o w base)) (treeY P X f T mu n c) → V (ctxO P f ρ o w base) c
 | 0,c,_,_,h=>h
 | n + 1,c,hn,hx,h=>by
  unfold treeY at h
  have hpp:=runT_pers (P:=P) (T:=T) 1000 c
  have hrs:=runT_sound (C:=ctxO P f ρ o w base) (T:=T) 1000 c
  generalize SX.runT P T 1000 c = r at h hpp hrs
  obtain ⟨c1,ob⟩:=r
  simp only at h hpp hrs
  have hx' : ∀ q ∈ X.need,q ∈ c1.st.pers:=fun q hq=>by rw [hpp]; exact hx q hq
  have hn' : ∀ e ∈ T,∀ q ∈ e.sp.need,q ∈ c1.st.pers:=fun e he q hq=>by rw [hpp]; exact hn e he q hq
  have hob : ∀ {t : Tr},Tr.ok wr o (V (ctxO P f ρ o w base)) (obT ob t) → allP ob ∧ Tr.ok wr o (V (ctxO P f ρ o w base)) t:=fun {t} h=>by
   cases ob with
   | nil=>exact ⟨trivial,h⟩
   | cons p l=>exact h
  obtain ⟨h1,h2⟩:=hob h
  refine hrs (allP_mem h1) hn ?_
  split at h2
  ·rename_i g b hc
   exact V.split g b (condC_look hc) (fun hb=>V.trY hmu hent hf n _ hn' hx' (h2.1 hb)) (fun hb=>V.trY hmu hent hf n _ hn' hx' (h2.2 hb))
  ·split at h2
   ·exact h2
   ·split at h2
    ·rename_i b e c2 hm
     unfold mustOf at hm
     split at hm
     case h_2=>cases hm
     rename_i f' x e' hcall
     split at hm
     case h_2=>cases hm
     rename_i b' hmu'
     split at hm
     case h_2=>cases hm
     rename_i c' haf hds
     cases hm
     have e1:=(beq_iff _ _).1 hmu'
     subst e1
     refine V.callX (C:=ctxO P f ρ o w base) hcall (enters hent) rfl hds hf (fun ρ' a w' hS=>⟨_,hmu b e ρ' w' (FSat_nil ρ' w'),?_⟩)
     rintro e2 w2 ⟨he,hch⟩
     cases b with
     | true =>
      have hpers : c2.st.pers = c1.st.pers:=afterOp_pers haf
      refine .inl ⟨ρ',.tup [],c1.st,c2,he,hS.below hch,fun x hx=>absurd hx List.not_mem_nil,(fun g pol b x e=>by cases e),haf,V.trY hmu hent hf n c2 (fun e he q hq=>by rw [hpers]; exact hn' e he q hq) (fun q hq=>by rw [hpers]; exact hx' q hq) (h2.2 rfl)⟩
     | false =>
      refine .inr ⟨wr e,he,?_⟩
      have:=h2.1 rfl
      show GivesO ρ o w _ _
      rw [this]
      exact ⟨rfl,hS.chg.trans hch (fun i hi=>hi.elim)⟩
    ·split at h2
     ·rename_i v he hr
      obtain ⟨h3,h4⟩:=h2
      refine V.ret (C:=ctxO P f ρ o w base) v hr he (fun ρ' a w' hS=>?_)
      rw [h3]
      exact ⟨by show Ending.returned _ = Ending.returned _; rw [← nrmR_den ρ' v,plainR_den h4 ρ' ρ],hS.chg⟩
     ·split at h2
      ·rename_i c2 ob2 hX
       obtain ⟨e1,e2,e3⟩:=stepX_ok (C:=ctxO P f ρ o w base) X.evOk hX
       have hob2 : allP ob2 ∧ Tr.ok wr o (V (ctxO P f ρ o w base)) (treeY P X f T mu n c2):=by
        cases ob2 with
        | nil=>exact ⟨trivial,h2⟩
        | cons p l=>exact h2
       exact e3 (allP_mem hob2.1) (V.trY hmu hent hf n c2 (fun e he q hq=>by rw [e1]; exact hn' e he q hq) (fun q hq=>by rw [e1]; exact hx' q hq) hob2.2)
      ·split at h2
       ·rename_i c2 ob2 hX
        obtain ⟨e1,e3⟩:=fcOf_ok (C:=ctxO P f ρ o w base) hX
        have hob2 : allP ob2 ∧ Tr.ok wr o (V (ctxO P f ρ o w base)) (treeY P X f T mu n c2):=by
         cases ob2 with
         | nil=>exact ⟨trivial,h2⟩
         | cons p l=>exact h2
        exact e3 hx' (allP_mem hob2.1) (V.trY hmu hent hf n c2 (fun e he q hq=>by rw [e1]; exact hn' e he q hq) (fun q hq=>by rw [e1]; exact hx' q hq) hob2.2)
       ·exact h2
theorem V.shY (T : List (Ent P)) (mu : FuncId) (wr : Int → List PanicEntry) (hmu : ∀ b e,CallsF P mu [.one (.sb b),.one (.int .i64 e)] (stP []) (if b then .ret (.tup []) else .pan (wr e))) (hent : (entersB P mu && (P.funcs[f]?).isSome) = true)
  (n : Nat) (sh : Sh) {c : Cfg} (hsh : (treeY P X f T mu n c).sh = sh) (hn : needT T c.st.pers = wantT T) (hx : ∀ q ∈ X.need,q ∈ c.st.pers) (L : Nat → Prop) (h : Sh.ok wr o L 0 sh) (hL : ∀ j c',(treeY P X f T mu n c).leaves[j]? = some c' → L j → V (ctxO P f ρ o w base) c') : V (ctxO P f ρ o w base) c:=by
 rw [Bool.and_eq_true] at hent
 exact V.trY hmu hent.1 hent.2 n c (needT_ok hn) hx (Tr.ok_of _ 0 (fun j c' hj hl=>hL j c' hj (by rw [Nat.zero_add] at hl; exact hl)) (hsh ▸ h))
end
abbrev treeX (P : Program) (f : FuncId) (T : List (Ent P)) (mu : FuncId) (n : Nat) (c : Cfg) : Tr:=treeY P Ext.none f T mu n c
def Sh.okE (wr : Int → List PanicEntry) (G : Out → Prop) (L : Nat → Prop) : Nat → Sh → Prop
 | _,.ret v=>G (.ret v) ∧ plainR v = true
 | i,.leaf=>L i
 | i,.cond b t e=>(b = true → Sh.okE wr G L i t) ∧ (b = false → Sh.okE wr G L (i + t.n) e)
 | i,.ob p t=>allP p ∧ Sh.okE wr G L i t
 | i,.must b e t=>(b = false → G (.pan (wr e))) ∧ (b = true → Sh.okE wr G L i t)
theorem Sh.okE_way {wr : Int → List PanicEntry} {G : Out → Prop} {L : Nat → Prop} : ∀ (t : Sh) (i : Nat),Sh.okE wr G L i t →
  (∃ o,G o ∧ Sh.ok wr o (fun _=>False) i t) ∨ ∃ j,L j ∧ j < i + t.n ∧ ∀ o,Sh.ok wr o (fun k=>k = j) i t
 | .ret v,i,h=>.inl ⟨.ret v,h.1,rfl,h.2⟩
 | .leaf,i,h=>.inr ⟨i,h,Nat.lt_succ_self i,fun _=>rfl⟩
 | .cond b t e,i,h=>by
  cases b with
  | true =>
   rcases Sh.okE_way t i (h.1 rfl) with ⟨o,h1,h2⟩ | ⟨j,h1,h2,h3⟩
   ·exact .inl ⟨o,h1,fun _=>h2,fun h=>by cases h⟩
   ·exact .inr ⟨j,h1,by simp only [Sh.n]; omega,fun o=>⟨fun _=>h3 o,fun h=>by cases h⟩⟩
  | false =>
   rcases Sh.okE_way e (i + t.n) (h.2 rfl) with ⟨o,h1,h2⟩ | ⟨j,h1,h2,h3⟩
   ·exact .inl ⟨o,h1,(fun h=>by cases h),fun _=>h2⟩
   ·exact .inr ⟨j,h1,by simp only [Sh.n]; omega,fun o=>⟨(fun h=>by cases h),fun _=>h3 o⟩⟩
 | .ob p t,i,h=>by
  rcases Sh.okE_way t i h.2 with ⟨o,h1,h2⟩ | ⟨j,h1,h2,h3⟩
  ·exact .inl ⟨o,h1,h.1,h2⟩
  ·exact .inr ⟨j,h1,by simp only [Sh.n]; omega,fun o=>⟨h.1,h3 o⟩⟩
 | .must b e t,i,h=>by
  cases b with
  | true =>
   rcases Sh.okE_way t i (h.2 rfl) with ⟨o,h1,h2⟩ | ⟨j,h1,h2,h3⟩
   ·exact .inl ⟨o,h1,(fun h=>by cases h),fun _=>h2⟩
   ·exact .inr ⟨j,h1,by simp only [Sh.n]; omega,fun o=>⟨(fun h=>by cases h),fun _=>h3 o⟩⟩
  | false=>exact .inl ⟨_,h.1 rfl,fun _=>rfl,fun h=>by cases h⟩
def nrmB : RV → RV
 | .v x=>.v (nrmC x)
 | .tup l=>.tup (l.map nrmC)
 | .grd g p c x=>.grd g p c (nrmC x)
def Cfg.nrm (c : Cfg) : Cfg:=⟨c.todo,{ c.st with slots:=mapK nrmB c.st.slots }⟩
theorem nrmS_wf {W : WF} {x : SV} (h : x.wf W) : (nrmS x).wf W:=by cases x <;> exact h
theorem nrmC_wf {W : WF} {x : CV} (h : x.wf W) : (nrmC x).wf W:=by
 cases x with
 | one x=>exact nrmS_wf h
 | agg l=>intro y hy; obtain ⟨z,hz,rfl⟩:=List.mem_map.1 hy; exact nrmS_wf (h z hz)
theorem nrmB_wf {W : WF} {x : RV} (h : x.wf W) : (nrmB x).wf W:=by
 cases x with
 | v x=>exact nrmC_wf h
 | tup l=>intro y hy; obtain ⟨z,hz,rfl⟩:=List.mem_map.1 hy; exact nrmC_wf (h z hz)
 | grd g p c x=>exact fun e=>nrmC_wf (h e)
theorem nrmB_den (ρ : Nat → Nat) (x : RV) : (nrmB x).den ρ = x.den ρ:=by
 cases x with
 | v x=>exact nrmC_den ρ x
 | tup l =>
  simp only [nrmB,RV.den,List.map_map]
  congr 2
  exact List.map_congr_left (fun x _=>nrmC_den ρ x)
 | grd _ _ _ x=>simp only [nrmB,RV.den,nrmC_den]
theorem V.nrm {C : Ctx} {c : Cfg} (h : V C c.nrm) : V C c:=by
 intro ρ a w hS
 refine h ρ a w ⟨hS.n,?_,?_,hS.heap,hS.inj,hS.lt,hS.defers,hS.chg,hS.rows,hS.rowsD,hS.pers,hS.fix⟩
 ·intro i v hv
  simp only [Cfg.nrm,look_mapK] at hv
  obtain ⟨u,hu,rfl⟩:=Option.map_eq_some_iff.1 hv
  obtain ⟨k1,k2⟩:=hS.slots i u hu
  exact ⟨by rw [nrmB_den]; exact k1,nrmB_wf k2⟩
 ·intro i g pol b x hv
  simp only [Cfg.nrm,look_mapK] at hv ⊢
  obtain ⟨u,hu,hu'⟩:=Option.map_eq_some_iff.1 hv
  cases u with
  | grd g' pol' b' x' =>
   simp only [nrmB,RV.grd.injEq] at hu'
   obtain ⟨rfl,rfl,rfl,rfl⟩:=hu'
   obtain ⟨k1,k2⟩:=hS.grds i _ _ _ _ hu
   exact ⟨k1,k2.map (F:=nrmB) (f:=nrmS) (fun _=>rfl) (fun _ _ _ _=>rfl) (fun x b hb=>by cases x <;> first | exact hb | cases hb) (fun _=>rfl)⟩
  | v x=>cases hu'
  | tup x=>cases hu'
section
variable {P : Program} {f : FuncId}
theorem cutsY (X : Ext P) {T : List (Ent P)} {mu : FuncId} {wr : Int → List PanicEntry} (hmu : ∀ b e,CallsF P mu [.one (.sb b),.one (.int .i64 e)] (stP []) (if b then .ret (.tup []) else .pan (wr e)))
  (hent : (entersB P mu && (P.funcs[f]?).isSome) = true) {ι : Type} (n : Nat) (cf : ι → Cfg) (sh : ι → Sh) (nx : ι → Nat → ι) (ks : ι → List Nat) (pm : ι → List Bool) (μ : ι → Nat) (I : ι → Prop) (G : Out → Prop)
  (hsh : ∀ i,(treeY P X f T mu n (cf i)).sh = sh i) (hn : ∀ i,needT T (cf i).st.pers = wantT T) (hx : ∀ i,∀ q ∈ X.need,q ∈ (cf i).st.pers)
  (hok : ∀ i,I i → Sh.okE wr G (fun j=>I (nx i j) ∧ μ (nx i j) < μ i) 0 (sh i))
  (hback : ∀ i j,j < (sh i).n → (SX.iter (leafN (treeY P X f T mu n (cf i)) j (cf i)).nrm).todo = (cf (nx i j)).todo ∧ headK (ks (nx i j)) (pm (nx i j)) (leafN (treeY P X f T mu n (cf i)) j (cf i)).nrm = some (cf (nx i j)).st) :
  ∀ (k : Nat) (i : ι),μ i < k → I i → ∃ o,G o ∧ ∀ ρ base w,V (ctxO P f ρ o w base) (cf i)
 | 0,i,h,_=>absurd h (Nat.not_lt_zero _)
 | k + 1,i,h,hi=>by
  rcases Sh.okE_way (sh i) 0 (hok i hi) with ⟨o,h1,h2⟩ | ⟨j,h1,h2,h3⟩
  ·exact ⟨o,h1,fun ρ base w=>V.shY T mu wr hmu hent n (sh i) (hsh i) (hn i) (hx i) (fun _=>False) h2 (fun _ _ _ hf=>hf.elim)⟩
  ·obtain ⟨o,g1,g2⟩:=cutsY X hmu hent n cf sh nx ks pm μ I G hsh hn hx hok hback k (nx i j) (by omega) h1.1
   refine ⟨o,g1,fun ρ base w=>V.shY T mu wr hmu hent n (sh i) (hsh i) (hn i) (hx i) (fun k=>k = j) (h3 o) (fun j' c' hj he=>?_)⟩
   subst he
   obtain ⟨b1,b2⟩:=hback i j' (by omega)
   rw [leafN_some (c:=cf i) hj] at b1 b2
   exact V.nrm (V.againK (ks _) (pm _) (g2 ρ base w) b1 b2)
end
end Go.SX
namespace Go.SX
open Go
theorem CallsF.ofV {P : Program} {f : FuncId} {fn : Func} {ys : List CV} {F : St} {G : Out → Prop} (wr : Bool) (hf : P.funcs[f]? = some fn) (hb : (fn.body.isSome && (Nat.ble ys.length fn.ntmps && F.rows.isEmpty)) = true) (hw : fixA F ys = some ys)
  (h : ∃ o,G o ∧ ∀ ρ base w,V (ctxO P f ρ o w base) ⟨[.code (bodyOf fn)],stO fn.ntmps ys F wr⟩) : ∃ o,G o ∧ CallsF P f ys F o:=by
 obtain ⟨o,h1,h2⟩:=h
 exact ⟨o,h1,CallsF.mk wr hf hb hw (fun ρ w=>h2 ρ ρ w)⟩
end Go.SX
namespace Go.SX
open Go
section
variable {P : Program} {f : FuncId}
theorem cutsZ (X : Ext P) {T : List (Ent P)} {mu : FuncId} {wr : Int → List PanicEntry} (hmu : ∀ b e,CallsF P mu [.one (.sb b),.one (.int .i64 e)] (stP []) (if b then .ret (.tup []) else .pan (wr e)))
  (hent : (entersB P mu && (P.funcs[f]?).isSome) = true) {ι Y : Type} (n : Nat) (cf : ι → Y → Cfg) (sh : ι → Sh) (nx : ι → Nat → ι ⊕ Out) (μ : ι → Nat) (I : ι → Prop) (G : Out → Prop)
  (hsh : ∀ i x,(treeY P X f T mu n (cf i x)).sh = sh i) (hn : ∀ i x,needT T (cf i x).st.pers = wantT T) (hx : ∀ i x,∀ q ∈ X.need,q ∈ (cf i x).st.pers)
  (hok : ∀ i,I i → Sh.okE wr G (fun j=>match nx i j with | .inl i'=>I i' ∧ μ i' < μ i | .inr o=>G o) 0 (sh i))
  (hback : ∀ i x j,I i → j < (sh i).n → match nx i j with
   | .inl i'=>∀ ρ base w o,(∀ y,V (ctxO P f ρ o w base) (cf i' y)) → V (ctxO P f ρ o w base) (leafN (treeY P X f T mu n (cf i x)) j (cf i x))
   | .inr o=>∀ ρ base w,V (ctxO P f ρ o w base) (leafN (treeY P X f T mu n (cf i x)) j (cf i x))) :
  ∀ (k : Nat) (i : ι),μ i < k → I i → ∃ o,G o ∧ ∀ x ρ base w,V (ctxO P f ρ o w base) (cf i x)
 | 0,i,h,_=>absurd h (Nat.not_lt_zero _)
 | k + 1,i,h,hi=>by
  rcases Sh.okE_way (sh i) 0 (hok i hi) with ⟨o,h1,h2⟩ | ⟨j,h1,h2,h3⟩
  ·exact ⟨o,h1,fun x ρ base w=>V.shY T mu wr hmu hent n (sh i) (hsh i x) (hn i x) (hx i x) (fun _=>False) h2 (fun _ _ _ hf=>hf.elim)⟩
  ·have hb:=fun x=>hback i x j hi (by omega)
   cases hnx : nx i j with
   | inl i' =>
    rw [hnx] at h1
    simp only [hnx] at hb
    obtain ⟨o,g1,g2⟩:=cutsZ X hmu hent n cf sh nx μ I G hsh hn hx hok hback k i' (by omega) h1.1
    refine ⟨o,g1,fun x ρ base w=>V.shY T mu wr hmu hent n (sh i) (hsh i x) (hn i x) (hx i x) (fun k=>k = j) (h3 o) (fun j' c' hj he=>?_)⟩
    subst he
    have:=hb x ρ base w o (fun y=>g2 y ρ base w)
    rw [leafN_some (c:=cf i x) hj] at this
    exact this
   | inr o =>
    rw [hnx] at h1
    simp only [hnx] at hb
    refine ⟨o,h1,fun x ρ base w=>V.shY T mu wr hmu hent n (sh i) (hsh i x) (hn i x) (hx i x) (fun k=>k = j) (h3 o) (fun j' c' hj he=>?_)⟩
    subst he
    have:=hb x ρ base w
    rw [leafN_some (c:=cf i x) hj] at this
    exact this
end
end Go.SX
namespace Go.SX
open Go
section
variable {P : Program} {f : FuncId}
theorem cuts {T : List (Ent P)} {mu : FuncId} {wr : Int → List PanicEntry} (hmu : ∀ b e,CallsF P mu [.one (.sb b),.one (.int .i64 e)] (stP []) (if b then .ret (.tup []) else .pan (wr e)))
  (hent : (entersB P mu && (P.funcs[f]?).isSome) = true) {ι : Type} (n : Nat) (cf : ι → Cfg) (sh : ι → Sh) (nx : ι → Nat → ι) (ks : ι → List Nat) (pm : ι → List Bool) (μ : ι → Nat) (I : ι → Prop) (G : Out → Prop)
  (hsh : ∀ i,(treeX P f T mu n (cf i)).sh = sh i) (hn : ∀ i,needT T (cf i).st.pers = wantT T)
  (hok : ∀ i,I i → Sh.okE wr G (fun j=>I (nx i j) ∧ μ (nx i j) < μ i) 0 (sh i))
  (hback : ∀ i j,j < (sh i).n → (SX.iter (leafN (treeX P f T mu n (cf i)) j (cf i)).nrm).todo = (cf (nx i j)).todo ∧ headK (ks (nx i j)) (pm (nx i j)) (leafN (treeX P f T mu n (cf i)) j (cf i)).nrm = some (cf (nx i j)).st) :
  ∀ (k : Nat) (i : ι),μ i < k → I i → ∃ o,G o ∧ ∀ ρ base w,V (ctxO P f ρ o w base) (cf i) :=
 cutsY Ext.none hmu hent n cf sh nx ks pm μ I G hsh hn (fun i q hq=>absurd hq List.not_mem_nil) hok hback
theorem cutsX {T : List (Ent P)} {mu : FuncId} {wr : Int → List PanicEntry} (hmu : ∀ b e,CallsF P mu [.one (.sb b),.one (.int .i64 e)] (stP []) (if b then .ret (.tup []) else .pan (wr e)))
  (hent : (entersB P mu && (P.funcs[f]?).isSome) = true) {ι X : Type} (n : Nat) (cf : ι → X → Cfg) (sh : ι → Sh) (nx : ι → Nat → ι ⊕ Out) (μ : ι → Nat) (I : ι → Prop) (G : Out → Prop)
  (hsh : ∀ i x,(treeX P f T mu n (cf i x)).sh = sh i) (hn : ∀ i x,needT T (cf i x).st.pers = wantT T)
  (hok : ∀ i,I i → Sh.okE wr G (fun j=>match nx i j with | .inl i'=>I i' ∧ μ i' < μ i | .inr o=>G o) 0 (sh i))
  (hback : ∀ i x j,I i → j < (sh i).n → match nx i j with
   | .inl i'=>∀ ρ base w o,(∀ y,V (ctxO P f ρ o w base) (cf i' y)) → V (ctxO P f ρ o w base) (leafN (treeX P f T mu n (cf i x)) j (cf i x))
   | .inr o=>∀ ρ base w,V (ctxO P f ρ o w base) (leafN (treeX P f T mu n (cf i x)) j (cf i x))) :
  ∀ (k : Nat) (i : ι),μ i < k → I i → ∃ o,G o ∧ ∀ x ρ base w,V (ctxO P f ρ o w base) (cf i x) :=
 cutsZ Ext.none hmu hent n cf sh nx μ I G hsh hn (fun i x q hq=>absurd hq List.not_mem_nil) hok hback
end
end Go.SX
end
section
namespace Go.SX
open Go
def ExF {α β : Type} (P : Program) (f : FuncId) (arg : α → List CV) (res : β → RV) (pre : α → Prop) (Q : α → β → Prop) : Prop :=
 ∀ a,pre a → ∃ o,(∃ r,o = .ret (res r) ∧ Q a r) ∧ CallsF P f (arg a) (stP []) o
open Classical in
noncomputable def exV {α β : Type} [Inhabited β] {P : Program} {f : FuncId} {arg : α → List CV} {res : β → RV} {pre : α → Prop} {Q : α → β → Prop} (h : ExF P f arg res pre Q) (a : α) : β :=
 if hp : pre a then Classical.choose (Classical.choose_spec (h a hp)).1 else default
theorem exV_ok {α β : Type} [Inhabited β] {P : Program} {f : FuncId} {arg : α → List CV} {res : β → RV} {pre : α → Prop} {Q : α → β → Prop} (h : ExF P f arg res pre Q) (a : α) (hp : pre a) :
  CallsF P f (arg a) (stP []) (.ret (res (exV h a))) ∧ Q a (exV h a):=by
 have e : exV h a = Classical.choose (Classical.choose_spec (h a hp)).1:=by unfold exV; rw [dif_pos hp]
 have h1:=Classical.choose_spec (Classical.choose_spec (h a hp)).1
 have h2:=(Classical.choose_spec (h a hp)).2
 rw [h1.1] at h2
 rw [e]
 exact ⟨h2,h1.2⟩
noncomputable def Con.ex {α β : Type} [Inhabited β] {P : Program} {f : FuncId} {arg : α → List CV} {res : β → RV} {pre : α → Prop} {Q : α → β → Prop} (h : ExF P f arg res pre Q) (un : List CV → Option α) (hun : ∀ xs a,un xs = some a → xs = arg a) (need : List Pers) : Con P where
 f:=f
 need:=need
 fn:=fun xs=>match un xs with
  | some a=>some (res (exV h a),[pre a])
  | none=>none
 ok:=by
  intro xs v ob hx hob ρ w hp hl
  split at hx
  case h_2=>cases hx
  rename_i a ha
  cases hx
  rw [hun xs a ha]
  exact (exV_ok h a (hob _ (List.mem_singleton.2 rfl))).1 ρ w (FSat_nil ρ w)
def un1s : List CV → Option (List UInt8)
 | [.one (.str s)]=>some s
 | _=>none
def un1n : List CV → Option (Int)
 | [.one (.int .i64 n)]=>some n
 | _=>none
def un2sb : List CV → Option (List UInt8 × Int)
 | [.one (.str s),.one (.int .u8 c)]=>some (s,c)
 | _=>none
def un2si : List CV → Option (List UInt8 × Int)
 | [.one (.str s),.one (.int .i64 c)]=>some (s,c)
 | _=>none
def un2bi : List CV → Option (Int × Int)
 | [.one (.int .u8 c),.one (.int .i64 n)]=>some (c,n)
 | _=>none
def un2ss : List CV → Option (List UInt8 × List UInt8)
 | [.one (.str s),.one (.str t)]=>some (s,t)
 | _=>none
theorem un1s_ok {xs : List CV} {a : List UInt8} (h : un1s xs = some a) : xs = [.one (.str a)]:=by
 unfold un1s at h; split at h <;> cases h; rfl
theorem un2sb_ok {xs : List CV} {a : List UInt8 × Int} (h : un2sb xs = some a) : xs = [.one (.str a.1),.one (.int .u8 a.2)]:=by
 unfold un2sb at h; split at h <;> cases h; rfl
theorem un2si_ok {xs : List CV} {a : List UInt8 × Int} (h : un2si xs = some a) : xs = [.one (.str a.1),.one (.int .i64 a.2)]:=by
 unfold un2si at h; split at h <;> cases h; rfl
theorem un2bi_ok {xs : List CV} {a : Int × Int} (h : un2bi xs = some a) : xs = [.one (.int .u8 a.1),.one (.int .i64 a.2)]:=by
 unfold un2bi at h; split at h <;> cases h; rfl
theorem un2ss_ok {xs : List CV} {a : List UInt8 × List UInt8} (h : un2ss xs = some a) : xs = [.one (.str a.1),.one (.str a.2)]:=by
 unfold un2ss at h; split at h <;> cases h; rfl
end Go.SX
end
section
namespace Go.Proofs
open Go Go.SX
set_option maxRecDepth 10000
noncomputable def entO (fn : Func) (ys : List CV) : Cfg:=⟨[.code (bodyOf fn)],stO fn.ntmps ys noF false⟩
noncomputable def headT (f : Nat) (T : List (Ent Tryz.prog)) (c : Cfg) (j : Nat) : List Item:=(SX.iter (leafN (treeX Tryz.prog f T 69 40 c) j c)).todo
def st0 (n : Nat) (sl : List (Nat × CV)) : St:={ n:=n,slots:=sl.map (fun p=>(p.1,.v p.2)),gs:=[],heap:=[],next:=0,rows:=[],nr:=0,pers:=[],wr:=false }
abbrev vS (s : List UInt8) : CV:=.one (.str s)
abbrev vB (n : Int) : CV:=.one (.int .u8 n)
abbrev vI (n : Int) : CV:=.one (.int .i64 n)
abbrev vT (b : Bool) : CV:=.one (.sb b)
theorem hwrap (n : Int) (h : 48 ≤ n) (h2 : n ≤ 57) : IntKind.i64.wrap (n - 48) = n - 48:=by
 have : ∀ k : Nat,k ≤ 9 → IntKind.i64.wrap (k : Int) = (k : Int):=by decide
 have h3:=this (n - 48).toNat (by omega)
 rwa [Int.toNat_of_nonneg (by omega)] at h3
def argSB (a : List UInt8 × Int) : List CV:=[.one (.str a.1),.one (.int .u8 a.2)]
def argSI (a : List UInt8 × Int) : List CV:=[.one (.str a.1),.one (.int .i64 a.2)]
def arg1S (a : List UInt8) : List CV:=[.one (.str a)]
def arg2S (a : List UInt8 × List UInt8) : List CV:=[.one (.str a.1),.one (.str a.2)]
def hasQ (a : List UInt8 × Int) : Prop:=a.1.length ≤ 1000000
inductive hasI where
 | e (a : List UInt8 × Int)
 | l (s : List UInt8) (c : Int) (i : Int)
noncomputable def hasTl : List Item:=headT 286 [] (entO Tryz.f286 (argSB ([],0))) 0
noncomputable def hasC : hasI → Cfg
 | .e a=>entO Tryz.f286 (argSB a)
 | .l s c i=>⟨hasTl,st0 17 [(0,vS s),(1,vB c),(5,vI i)]⟩
noncomputable def hasS : hasI → Sh
 | .e a=>.leaf
 | .l s c i=>(.cond (decide (i < (↑s.length : Int))) (.ob [0 ≤ i ∧ i < (↑s.length : Int)] (.cond ((↑(s.getD i.toNat 0).toNat : Int) == c) (.ret (RV.v (CV.one (SV.sb true)))) (.ob [inK IntKind.i64 (i + 1)] .leaf))) (.ret (RV.v (CV.one (SV.sb false)))))
noncomputable def hasN : hasI → Nat → hasI
 | .e a,_=>.l (a.fst) (a.snd) (0)
 | .l s c i,_=>.l (s) (c) (i + 1)
def hasK : hasI → List Nat
 | .e _=>[]
 | .l _ _ _=>[0,1,5]
def hasM : hasI → Nat
 | .e a=>a.1.length + 2
 | .l s c i=>((s.length : Int) - i).toNat + 1
def hasP (a0 : List UInt8 × Int) : hasI → Prop
 | .e a=>a = a0 ∧ a.1.length ≤ 1000000
 | .l s c i=>s.length ≤ 1000000 ∧ 0 ≤ i ∧ i ≤ (s.length : Int)
theorem hasX : ExF Tryz.prog 286 argSB (fun b=>.v (vT b)) hasQ (fun _ _=>True):=by
 intro a0 ha
 refine CallsF.ofV false Tryz.func286 kq kq (cuts hMu kq (T:=[]) 40 hasC hasS hasN hasK (fun _=>[]) hasM (hasP a0) _ (fun i=>by cases i <;> kernel_rfl) (fun i=>by cases i <;> kernel_rfl) ?_ (fun i j hj=>?_) _ (.e a0) (Nat.lt_succ_self _) ⟨rfl,ha⟩)
 ·intro i hi
  cases i with
  | e a =>
   simp only [hasP] at hi
   obtain ⟨rfl,hi⟩:=hi
   simp only [Sh.okE,Sh.n,Nat.zero_add,Nat.add_zero,Nat.reduceAdd,and_true,true_and,hasS,hasN,hasP,hasM]; omega
  | l s c i =>
   simp only [hasP] at hi
   refine ⟨fun h0=>?_,fun h0=>?_⟩
   ·have h0:=of_decide_eq_true h0
    refine ⟨⟨by omega,by omega⟩,?_⟩
    refine ⟨fun h1=>?_,fun h1=>?_⟩
    ·exact ⟨⟨_,rfl,trivial⟩,rfl⟩
    ·refine ⟨⟨by omega,by omega⟩,?_⟩
     simp only [Sh.okE,Sh.n,Nat.zero_add,Nat.add_zero,Nat.reduceAdd,and_true,true_and,hasS,hasN,hasP,hasM]; omega
   ·have h0:=of_decide_eq_false h0
    exact ⟨⟨_,rfl,trivial⟩,rfl⟩
 ·cases i with
  | e a=>match j,hj with
   | 0,_=>exact ⟨kq,kq⟩
  | l s c i=>match j,hj with
   | 0,_=>exact ⟨kq,kq⟩
noncomputable def cHas : Con Tryz.prog:=Con.ex hasX un2sb (fun _ _=>un2sb_ok) []
def timesQ (a : List UInt8 × Int) : Prop:=a.1.length ≤ 1000000
inductive timesI where
 | e (a : List UInt8 × Int)
 | l (s : List UInt8) (c : Int) (n : Int) (i : Int)
noncomputable def timesTl : List Item:=headT 283 [] (entO Tryz.f283 (argSB ([],0))) 0
noncomputable def timesC : timesI → Cfg
 | .e a=>entO Tryz.f283 (argSB a)
 | .l s c n i=>⟨timesTl,st0 21 [(0,vS s),(1,vB c),(5,vI n),(6,vI i)]⟩
noncomputable def timesS : timesI → Sh
 | .e a=>.leaf
 | .l s c n i=>(.cond (decide (i < (↑s.length : Int))) (.ob [0 ≤ i ∧ i < (↑s.length : Int)] (.cond ((↑(s.getD i.toNat 0).toNat : Int) == c) (.ob [inK IntKind.i64 (n + 1),inK IntKind.i64 (i + 1)] .leaf) (.ob [inK IntKind.i64 (i + 1)] .leaf))) (.ret (RV.v (CV.one (SV.int IntKind.i64 n)))))
noncomputable def timesN : timesI → Nat → timesI
 | .e a,_=>.l (a.fst) (a.snd) (0) (0)
 | .l s c n i,0=>.l (s) (c) (n + 1) (i + 1)
 | .l s c n i,_=>.l (s) (c) (n) (i + 1)
def timesK : timesI → List Nat
 | .e _=>[]
 | .l _ _ _ _=>[0,1,5,6]
def timesM : timesI → Nat
 | .e a=>a.1.length + 2
 | .l s c n i=>((s.length : Int) - i).toNat + 1
def timesP (a0 : List UInt8 × Int) : timesI → Prop
 | .e a=>a = a0 ∧ a.1.length ≤ 1000000
 | .l s c n i=>s.length ≤ 1000000 ∧ 0 ≤ i ∧ i ≤ (s.length : Int) ∧ 0 ≤ n ∧ n ≤ i ∧ s.length = a0.1.length
theorem timesX : ExF Tryz.prog 283 argSB (fun n=>.v (vI n)) timesQ (fun a n=>0 ≤ n ∧ n ≤ (a.1.length : Int)):=by
 intro a0 ha
 refine CallsF.ofV false Tryz.func283 kq kq (cuts hMu kq (T:=[]) 40 timesC timesS timesN timesK (fun _=>[]) timesM (timesP a0) _ (fun i=>by cases i <;> kernel_rfl) (fun i=>by cases i <;> kernel_rfl) ?_ (fun i j hj=>?_) _ (.e a0) (Nat.lt_succ_self _) ⟨rfl,ha⟩)
 ·intro i hi
  cases i with
  | e a =>
   simp only [timesP] at hi
   obtain ⟨rfl,hi⟩:=hi
   simp only [Sh.okE,Sh.n,Nat.zero_add,Nat.add_zero,Nat.reduceAdd,and_true,true_and,timesS,timesN,timesP,timesM]; omega
  | l s c n i =>
   simp only [timesP] at hi
   refine ⟨fun h0=>?_,fun h0=>?_⟩
   ·have h0:=of_decide_eq_true h0
    refine ⟨⟨by omega,by omega⟩,?_⟩
    refine ⟨fun h1=>?_,fun h1=>?_⟩
    ·refine ⟨⟨⟨by omega,by omega⟩,⟨by omega,by omega⟩⟩,?_⟩
     simp only [Sh.okE,Sh.n,Nat.zero_add,Nat.add_zero,Nat.reduceAdd,and_true,true_and,timesS,timesN,timesP,timesM]; omega
    ·refine ⟨⟨by omega,by omega⟩,?_⟩
     simp only [Sh.okE,Sh.n,Nat.zero_add,Nat.add_zero,Nat.reduceAdd,and_true,true_and,timesS,timesN,timesP,timesM]; omega
   ·have h0:=of_decide_eq_false h0
    exact ⟨⟨_,rfl,by omega,by omega⟩,rfl⟩
 ·cases i with
  | e a=>match j,hj with
   | 0,_=>exact ⟨kq,kq⟩
  | l s c n i=>match j,hj with
   | 0,_=>exact ⟨kq,kq⟩
   | 1,_=>exact ⟨kq,kq⟩
noncomputable def cTimes : Con Tryz.prog:=Con.ex timesX un2sb (fun _ _=>un2sb_ok) []
def cntQ (a : List UInt8 × Int) : Prop:=a.1.length ≤ 1000000 ∧ 0 ≤ a.2 ∧ a.2 ≤ (a.1.length : Int)
inductive cntI where
 | e (a : List UInt8 × Int)
 | l (s : List UInt8) (n : Int) (p : Int)
noncomputable def cntTl : List Item:=headT 303 [] (entO Tryz.f303 (argSI ([],0))) 0
noncomputable def cntC : cntI → Cfg
 | .e a=>entO Tryz.f303 (argSI a)
 | .l s n p=>⟨cntTl,st0 58 [(0,vS s),(6,vI n),(7,vI p)]⟩
noncomputable def cntS : cntI → Sh
 | .e a=>.leaf
 | .l s n p=>(.ob [decide (p < (↑s.length : Int)) = true → 0 ≤ p ∧ p < (↑s.length : Int),(decide (p < (↑s.length : Int)) && decide ((↑(s.getD p.toNat 0).toNat : Int) ≥ 48)) = true → 0 ≤ p ∧ p < (↑s.length : Int)] (.cond (decide (p < (↑s.length : Int)) && decide ((↑(s.getD p.toNat 0).toNat : Int) ≥ 48) && decide ((↑(s.getD p.toNat 0).toNat : Int) ≤ 57)) (.ob [inK IntKind.i64 (n * 10),0 ≤ p ∧ p < (↑s.length : Int),inK IntKind.u8 ((↑(s.getD p.toNat 0).toNat : Int) - 48),inK IntKind.i64 (n * 10 + IntKind.i64.wrap ((↑(s.getD p.toNat 0).toNat : Int) - 48))] (.cond (decide (n * 10 + IntKind.i64.wrap ((↑(s.getD p.toNat 0).toNat : Int) - 48) < 1) || decide (n * 10 + IntKind.i64.wrap ((↑(s.getD p.toNat 0).toNat : Int) - 48) > 32)) (.ret (RV.tup [CV.one (SV.int IntKind.i64 0),CV.one (SV.int IntKind.i64 0)])) (.ob [inK IntKind.i64 (p + 1)] .leaf))) (.ob [(decide (n < 1) || decide (p ≥ (↑s.length : Int))) = false → 0 ≤ p ∧ p < (↑s.length : Int)] (.cond (decide (n < 1) || decide (p ≥ (↑s.length : Int)) || (↑(s.getD p.toNat 0).toNat : Int) != 41) (.ret (RV.tup [CV.one (SV.int IntKind.i64 0),CV.one (SV.int IntKind.i64 0)])) (.ob [inK IntKind.i64 (p + 1)] (.ret (RV.tup [CV.one (SV.int IntKind.i64 n),CV.one (SV.int IntKind.i64 (p + 1))])))))))
noncomputable def cntN : cntI → Nat → cntI
 | .e a,_=>.l (a.fst) (0) (a.snd)
 | .l s n p,_=>.l (s) (n * 10 + IntKind.i64.wrap ((↑(s.getD p.toNat 0).toNat : Int) - 48)) (p + 1)
def cntK : cntI → List Nat
 | .e _=>[]
 | .l _ _ _=>[0,6,7]
def cntM : cntI → Nat
 | .e a=>a.1.length + 2
 | .l s n p=>((s.length : Int) - p).toNat + 1
def cntP (a0 : List UInt8 × Int) : cntI → Prop
 | .e a=>a = a0 ∧ a.1.length ≤ 1000000 ∧ 0 ≤ a.2 ∧ a.2 ≤ (a.1.length : Int)
 | .l s n p=>s.length = a0.1.length ∧ s.length ≤ 1000000 ∧ 0 ≤ n ∧ n ≤ 32 ∧ 0 ≤ p ∧ p ≤ (s.length : Int) ∧ a0.2 ≤ p
theorem cntX : ExF Tryz.prog 303 argSI (fun r : Int × Int=>.tup [vI r.1,vI r.2]) cntQ (fun a r=>0 ≤ r.1 ∧ r.1 ≤ 32 ∧ 0 ≤ r.2 ∧ r.2 ≤ (a.1.length : Int) ∧ (1 ≤ r.1 → a.2 < r.2)):=by
 intro a0 ha
 refine CallsF.ofV false Tryz.func303 kq kq (cuts hMu kq (T:=[]) 40 cntC cntS cntN cntK (fun _=>[]) cntM (cntP a0) _ (fun i=>by cases i <;> kernel_rfl) (fun i=>by cases i <;> kernel_rfl) ?_ (fun i j hj=>?_) _ (.e a0) (Nat.lt_succ_self _) ⟨rfl,ha⟩)
 ·intro i hi
  cases i with
  | e a =>
   simp only [cntP] at hi
   obtain ⟨rfl,hi⟩:=hi
   simp only [Sh.okE,Sh.n,Nat.zero_add,Nat.add_zero,Nat.reduceAdd,and_true,true_and,List.length_append,List.length_nil,cntS,cntN,cntP,cntM]; omega
  | l s n p =>
   simp only [cntP] at hi
   have o1 : decide (p < (↑s.length : Int)) = true → 0 ≤ p ∧ p < (↑s.length : Int):=fun g=>by (try simp only [Bool.or_eq_true,Bool.and_eq_true,Bool.or_eq_false_iff,Bool.and_eq_false_iff,decide_eq_true_eq,decide_eq_false_iff_not,Bool.not_eq_true',Bool.not_eq_false',Bool.not_eq_true,Bool.not_eq_false] at g); exact ⟨by omega,by omega⟩
   have b2_0:=UInt8.toNat_lt (s.getD p.toNat 0)
   have o2 : (decide (p < (↑s.length : Int)) && decide ((↑(s.getD p.toNat 0).toNat : Int) ≥ 48)) = true → 0 ≤ p ∧ p < (↑s.length : Int):=fun g=>by (try simp only [Bool.or_eq_true,Bool.and_eq_true,Bool.or_eq_false_iff,Bool.and_eq_false_iff,decide_eq_true_eq,decide_eq_false_iff_not,Bool.not_eq_true',Bool.not_eq_false',Bool.not_eq_true,Bool.not_eq_false] at g); exact ⟨by omega,by omega⟩
   refine ⟨⟨o1,o2⟩,?_⟩
   refine ⟨fun h0=>?_,fun h0=>?_⟩
   ·simp only [Bool.or_eq_true,Bool.and_eq_true,Bool.or_eq_false_iff,Bool.and_eq_false_iff,decide_eq_true_eq,decide_eq_false_iff_not,Bool.not_eq_true',Bool.not_eq_false',Bool.not_eq_true,Bool.not_eq_false] at h0
    have hw:=hwrap ((s.getD p.toNat 0).toNat : Int) (by omega) (by omega)
    have o3 : inK IntKind.i64 (n * 10):=⟨by omega,by omega⟩
    have o4 : 0 ≤ p ∧ p < (↑s.length : Int):=⟨by omega,by omega⟩
    have b5_0:=UInt8.toNat_lt (s.getD p.toNat 0)
    have o5 : inK IntKind.u8 ((↑(s.getD p.toNat 0).toNat : Int) - 48):=⟨by omega,by omega⟩
    have b6_0:=UInt8.toNat_lt (s.getD p.toNat 0)
    have o6 : inK IntKind.i64 (n * 10 + IntKind.i64.wrap ((↑(s.getD p.toNat 0).toNat : Int) - 48)):=⟨by omega,by omega⟩
    refine ⟨⟨o3,o4,o5,o6⟩,?_⟩
    refine ⟨fun h1=>?_,fun h1=>?_⟩
    ·simp only [Bool.or_eq_true,Bool.and_eq_true,Bool.or_eq_false_iff,Bool.and_eq_false_iff,decide_eq_true_eq,decide_eq_false_iff_not,Bool.not_eq_true',Bool.not_eq_false',Bool.not_eq_true,Bool.not_eq_false] at h1
     exact ⟨⟨(_,_),rfl,by omega,by omega,by omega,by omega,by simp only; omega⟩,rfl⟩
    ·simp only [Bool.or_eq_true,Bool.and_eq_true,Bool.or_eq_false_iff,Bool.and_eq_false_iff,decide_eq_true_eq,decide_eq_false_iff_not,Bool.not_eq_true',Bool.not_eq_false',Bool.not_eq_true,Bool.not_eq_false] at h1
     have o7 : inK IntKind.i64 (p + 1):=⟨by omega,by omega⟩
     refine ⟨o7,?_⟩
     simp only [Sh.okE,Sh.n,Nat.zero_add,Nat.add_zero,Nat.reduceAdd,and_true,true_and,List.length_append,List.length_nil,cntS,cntN,cntP,cntM]; omega
   ·simp only [Bool.or_eq_true,Bool.and_eq_true,Bool.or_eq_false_iff,Bool.and_eq_false_iff,decide_eq_true_eq,decide_eq_false_iff_not,Bool.not_eq_true',Bool.not_eq_false',Bool.not_eq_true,Bool.not_eq_false] at h0
    have o8 : (decide (n < 1) || decide (p ≥ (↑s.length : Int))) = false → 0 ≤ p ∧ p < (↑s.length : Int):=fun g=>by (try simp only [Bool.or_eq_true,Bool.and_eq_true,Bool.or_eq_false_iff,Bool.and_eq_false_iff,decide_eq_true_eq,decide_eq_false_iff_not,Bool.not_eq_true',Bool.not_eq_false',Bool.not_eq_true,Bool.not_eq_false] at g); exact ⟨by omega,by omega⟩
    refine ⟨o8,?_⟩
    refine ⟨fun h1=>?_,fun h1=>?_⟩
    ·simp only [Bool.or_eq_true,Bool.and_eq_true,Bool.or_eq_false_iff,Bool.and_eq_false_iff,decide_eq_true_eq,decide_eq_false_iff_not,Bool.not_eq_true',Bool.not_eq_false',Bool.not_eq_true,Bool.not_eq_false] at h1
     exact ⟨⟨(_,_),rfl,by omega,by omega,by omega,by omega,by simp only; omega⟩,rfl⟩
    ·simp only [Bool.or_eq_true,Bool.and_eq_true,Bool.or_eq_false_iff,Bool.and_eq_false_iff,decide_eq_true_eq,decide_eq_false_iff_not,Bool.not_eq_true',Bool.not_eq_false',Bool.not_eq_true,Bool.not_eq_false] at h1
     have o9 : inK IntKind.i64 (p + 1):=⟨by omega,by omega⟩
     refine ⟨o9,?_⟩
     exact ⟨⟨(_,_),rfl,by omega,by omega,by omega,by omega,by simp only; omega⟩,rfl⟩
 ·cases i with
  | e a=>match j,hj with
   | 0,_=>exact ⟨kq,kq⟩
  | l s n p=>match j,hj with
   | 0,_=>exact ⟨kq,kq⟩
noncomputable def cCnt : Con Tryz.prog:=Con.ex cntX un2si (fun _ _=>un2si_ok) []
def chrQ (a : List UInt8) : Prop:=a.length ≤ 1000000
inductive chrI where
 | e (a : List UInt8)
 | l (s : List UInt8) (i : Int)
noncomputable def chrTl : List Item:=headT 281 [cHas.e] (entO Tryz.f281 (arg1S [])) 0
noncomputable def chrC : chrI → Cfg
 | .e a=>entO Tryz.f281 (arg1S a)
 | .l s i=>⟨chrTl,st0 21 [(0,vS s),(3,vI i)]⟩
noncomputable def chrS : chrI → Sh
 | .e a=>.leaf
 | .l s i=>(.cond (decide (i < (↑s.length : Int))) (.ob [0 ≤ i ∧ i < (↑s.length : Int),hasQ ([65,88,57],(↑(s.getD i.toNat 0).toNat : Int))] (.cond (!exV hasX ([65,88,57],(↑(s.getD i.toNat 0).toNat : Int))) (.ret (RV.v (CV.one (SV.sb false)))) (.ob [inK IntKind.i64 (i + 1)] .leaf))) (.ob [hasQ (s,65),exV hasX (s,65) = false → hasQ (s,88)] (.ret (RV.v (CV.one (SV.sb (exV hasX (s,65) || exV hasX (s,88))))))))
noncomputable def chrN : chrI → Nat → chrI
 | .e a,_=>.l (a) (0)
 | .l s i,_=>.l (s) (i + 1)
def chrK : chrI → List Nat
 | .e _=>[]
 | .l _ _=>[0,3]
def chrM : chrI → Nat
 | .e a=>a.length + 2
 | .l s i=>((s.length : Int) - i).toNat + 1
def chrP (a0 : List UInt8) : chrI → Prop
 | .e a=>a = a0 ∧ a.length ≤ 1000000
 | .l s i=>s.length ≤ 1000000 ∧ 0 ≤ i ∧ i ≤ (s.length : Int)
theorem chrX : ExF Tryz.prog 281 arg1S (fun b=>.v (vT b)) chrQ (fun _ _=>True):=by
 intro a0 ha
 refine CallsF.ofV false Tryz.func281 kq kq (cuts hMu kq (T:=[cHas.e]) 40 chrC chrS chrN chrK (fun _=>[]) chrM (chrP a0) _ (fun i=>by cases i <;> kernel_rfl) (fun i=>by cases i <;> kernel_rfl) ?_ (fun i j hj=>?_) _ (.e a0) (Nat.lt_succ_self _) ⟨rfl,ha⟩)
 ·intro i hi
  cases i with
  | e a =>
   simp only [chrP] at hi
   obtain ⟨rfl,hi⟩:=hi
   simp only [Sh.okE,Sh.n,Nat.zero_add,Nat.add_zero,Nat.reduceAdd,and_true,true_and,List.length_append,List.length_nil,chrS,chrN,chrP,chrM]; omega
  | l s i =>
   simp only [chrP] at hi
   refine ⟨fun h0=>?_,fun h0=>?_⟩
   ·have h0:=of_decide_eq_true h0
    have o1 : 0 ≤ i ∧ i < (↑s.length : Int):=⟨by omega,by omega⟩
    have b2_0:=UInt8.toNat_lt (s.getD i.toNat 0)
    have o2 : hasQ ([65,88,57],(↑(s.getD i.toNat 0).toNat : Int)):=by simp only [allP,hasQ,List.length_cons,List.length_nil,List.length_take,List.length_drop,List.length_append]; omega
    refine ⟨⟨o1,o2⟩,?_⟩
    refine ⟨fun h1=>?_,fun h1=>?_⟩
    ·exact ⟨⟨_,rfl,trivial⟩,rfl⟩
    ·have o3 : inK IntKind.i64 (i + 1):=⟨by omega,by omega⟩
     refine ⟨o3,?_⟩
     simp only [Sh.okE,Sh.n,Nat.zero_add,Nat.add_zero,Nat.reduceAdd,and_true,true_and,List.length_append,List.length_nil,chrS,chrN,chrP,chrM]; omega
   ·have h0:=of_decide_eq_false h0
    have o4 : hasQ (s,65):=by simp only [allP,hasQ,List.length_cons,List.length_nil,List.length_take,List.length_drop,List.length_append]; omega
    have o5 : exV hasX (s,65) = false → hasQ (s,88):=fun g=>by (try simp only [Bool.or_eq_true,Bool.and_eq_true,Bool.or_eq_false_iff,Bool.and_eq_false_iff,decide_eq_true_eq,decide_eq_false_iff_not,Bool.not_eq_true',Bool.not_eq_false',Bool.not_eq_true,Bool.not_eq_false] at g); simp only [allP,hasQ,List.length_cons,List.length_nil,List.length_take,List.length_drop,List.length_append]; omega
    refine ⟨⟨o4,o5⟩,?_⟩
    exact ⟨⟨_,rfl,trivial⟩,rfl⟩
 ·cases i with
  | e a=>match j,hj with
   | 0,_=>exact ⟨kq,kq⟩
  | l s i=>match j,hj with
   | 0,_=>exact ⟨kq,kq⟩
noncomputable def cChr : Con Tryz.prog:=Con.ex chrX un1s (fun _ _=>un1s_ok) []
def driQ (a : List UInt8) : Prop:=a.length ≤ 1000000
inductive driI where
 | e (a : List UInt8)
 | l (s : List UInt8) (i : Int)
noncomputable def driTl : List Item:=headT 310 [cHas.e,cTimes.e] (entO Tryz.f310 (arg1S [])) 0
noncomputable def driC : driI → Cfg
 | .e a=>entO Tryz.f310 (arg1S a)
 | .l s i=>⟨driTl,st0 25 [(0,vS s),(3,vI i)]⟩
noncomputable def driS : driI → Sh
 | .e a=>.leaf
 | .l s i=>(.cond (decide (i < (↑s.length : Int))) (.ob [0 ≤ i ∧ i < (↑s.length : Int),hasQ ([36,83,43,45],(↑(s.getD i.toNat 0).toNat : Int)),exV hasX ([36,83,43,45],(↑(s.getD i.toNat 0).toNat : Int)) = true → 0 ≤ i ∧ i < (↑s.length : Int),exV hasX ([36,83,43,45],(↑(s.getD i.toNat 0).toNat : Int)) = true → timesQ (s,(↑(s.getD i.toNat 0).toNat : Int))] (.cond (exV hasX ([36,83,43,45],(↑(s.getD i.toNat 0).toNat : Int)) && decide (exV timesX (s,(↑(s.getD i.toNat 0).toNat : Int)) ≥ 2)) (.ob [0 ≤ i ∧ i < (↑s.length : Int)] (.ret (RV.v (CV.one (SV.int IntKind.u8 (↑(s.getD i.toNat 0).toNat : Int)))))) (.ob [inK IntKind.i64 (i + 1)] .leaf))) (.ret (RV.v (CV.one (SV.int IntKind.u8 0)))))
noncomputable def driN : driI → Nat → driI
 | .e a,_=>.l (a) (0)
 | .l s i,_=>.l (s) (i + 1)
def driK : driI → List Nat
 | .e _=>[]
 | .l _ _=>[0,3]
def driM : driI → Nat
 | .e a=>a.length + 2
 | .l s i=>((s.length : Int) - i).toNat + 1
def driP (a0 : List UInt8) : driI → Prop
 | .e a=>a = a0 ∧ a.length ≤ 1000000
 | .l s i=>s.length ≤ 1000000 ∧ 0 ≤ i ∧ i ≤ (s.length : Int)
theorem driX : ExF Tryz.prog 310 arg1S (fun b=>.v (vB b)) driQ (fun _ _=>True):=by
 intro a0 ha
 refine CallsF.ofV false Tryz.func310 kq kq (cuts hMu kq (T:=[cHas.e,cTimes.e]) 40 driC driS driN driK (fun _=>[]) driM (driP a0) _ (fun i=>by cases i <;> kernel_rfl) (fun i=>by cases i <;> kernel_rfl) ?_ (fun i j hj=>?_) _ (.e a0) (Nat.lt_succ_self _) ⟨rfl,ha⟩)
 ·intro i hi
  cases i with
  | e a =>
   simp only [driP] at hi
   obtain ⟨rfl,hi⟩:=hi
   simp only [Sh.okE,Sh.n,Nat.zero_add,Nat.add_zero,Nat.reduceAdd,and_true,true_and,List.length_append,List.length_nil,driS,driN,driP,driM]; omega
  | l s i =>
   simp only [driP] at hi
   refine ⟨fun h0=>?_,fun h0=>?_⟩
   ·have h0:=of_decide_eq_true h0
    have o1 : 0 ≤ i ∧ i < (↑s.length : Int):=⟨by omega,by omega⟩
    have b2_0:=UInt8.toNat_lt (s.getD i.toNat 0)
    have o2 : hasQ ([36,83,43,45],(↑(s.getD i.toNat 0).toNat : Int)):=by simp only [allP,hasQ,List.length_cons,List.length_nil,List.length_take,List.length_drop,List.length_append]; omega
    have b3_0:=UInt8.toNat_lt (s.getD i.toNat 0)
    have o3 : exV hasX ([36,83,43,45],(↑(s.getD i.toNat 0).toNat : Int)) = true → 0 ≤ i ∧ i < (↑s.length : Int):=fun g=>by (try simp only [Bool.or_eq_true,Bool.and_eq_true,Bool.or_eq_false_iff,Bool.and_eq_false_iff,decide_eq_true_eq,decide_eq_false_iff_not,Bool.not_eq_true',Bool.not_eq_false',Bool.not_eq_true,Bool.not_eq_false] at g); exact ⟨by omega,by omega⟩
    have b4_0:=UInt8.toNat_lt (s.getD i.toNat 0)
    have o4 : exV hasX ([36,83,43,45],(↑(s.getD i.toNat 0).toNat : Int)) = true → timesQ (s,(↑(s.getD i.toNat 0).toNat : Int)):=fun g=>by (try simp only [Bool.or_eq_true,Bool.and_eq_true,Bool.or_eq_false_iff,Bool.and_eq_false_iff,decide_eq_true_eq,decide_eq_false_iff_not,Bool.not_eq_true',Bool.not_eq_false',Bool.not_eq_true,Bool.not_eq_false] at g); simp only [allP,timesQ,List.length_cons,List.length_nil,List.length_take,List.length_drop,List.length_append]; omega
    refine ⟨⟨o1,o2,o3,o4⟩,?_⟩
    refine ⟨fun h1=>?_,fun h1=>?_⟩
    ·simp only [Bool.or_eq_true,Bool.and_eq_true,Bool.or_eq_false_iff,Bool.and_eq_false_iff,decide_eq_true_eq,decide_eq_false_iff_not,Bool.not_eq_true',Bool.not_eq_false',Bool.not_eq_true,Bool.not_eq_false] at h1
     have o5 : 0 ≤ i ∧ i < (↑s.length : Int):=⟨by omega,by omega⟩
     refine ⟨o5,?_⟩
     exact ⟨⟨_,rfl,trivial⟩,rfl⟩
    ·simp only [Bool.or_eq_true,Bool.and_eq_true,Bool.or_eq_false_iff,Bool.and_eq_false_iff,decide_eq_true_eq,decide_eq_false_iff_not,Bool.not_eq_true',Bool.not_eq_false',Bool.not_eq_true,Bool.not_eq_false] at h1
     have o6 : inK IntKind.i64 (i + 1):=⟨by omega,by omega⟩
     refine ⟨o6,?_⟩
     simp only [Sh.okE,Sh.n,Nat.zero_add,Nat.add_zero,Nat.reduceAdd,and_true,true_and,List.length_append,List.length_nil,driS,driN,driP,driM]; omega
   ·have h0:=of_decide_eq_false h0
    exact ⟨⟨_,rfl,trivial⟩,rfl⟩
 ·cases i with
  | e a=>match j,hj with
   | 0,_=>exact ⟨kq,kq⟩
  | l s i=>match j,hj with
   | 0,_=>exact ⟨kq,kq⟩
noncomputable def cDri : Con Tryz.prog:=Con.ex driX un1s (fun _ _=>un1s_ok) []
def argBI (a : Int × Int) : List CV:=[vB a.1,vI a.2]
def manyQ (a : Int × Int) : Prop:=0 ≤ a.1 ∧ a.1 ≤ 255 ∧ 0 ≤ a.2 ∧ a.2 ≤ 1000000
structure MnI where
 l : List UInt8
 q : Option Addr
 c : Nat
def mnSt (b : UInt8) (n : Int) (j : MnI) : St :=
 { n:=19,slots:=[(0,.v (vB (b.toNat : Int))),(1,.v (vI n)),(5,.v (.one (.row 0 j.q j.l.length j.c))),(6,.v (vI (j.l.length : Int)))],gs:=[],heap:=[],next:=0,
    rows:=[(0,rowL bsv 0 j.l j.q j.c 5 1 true)],nr:=1,pers:=[],wr:=false,fx:=0 }
theorem manyX : ExF Tryz.prog 305 argBI (fun s=>.v (vS s)) manyQ (fun a s=>s.length = a.2.toNat):=by
 rintro ⟨c,n⟩ ⟨h1,h2,h3,h4⟩
 simp only at h1 h2 h3 h4
 obtain ⟨b,rfl⟩ : ∃ b : UInt8,c = (b.toNat : Int):=⟨UInt8.ofNat c.toNat,by simp [UInt8.toNat_ofNat']; omega⟩
 refine ⟨.ret (.v (vS (List.replicate n.toNat b))),⟨_,rfl,by simp⟩,?_⟩
 refine CallsF.mk false Tryz.func305 kq kq (fun ρ w=>?_)
 refine V.q ?_
 refine V.rowB bsv 0 [] 5 1 0 kq (fun _=>rfl) (fun x y hy=>by simp only [bsv,List.mem_singleton] at hy; subst hy; trivial) (by show 0 ≤ maxLen; decide) (fun g=>kq) (fun g=>?_)
 refine V.slotRow 5 0 (rowL bsv 0 [] (some ⟨g,0,none⟩) 0 5 1 true) kq kq kq ?_
 refine V.loopK [0,1,5,6] [] (fun j : MnI=>n.toNat - j.l.length) (mnSt b n) (fun j=>j.l.length ≤ n.toNat ∧ j.l = List.replicate j.l.length b) ⟨[],some ⟨g,0,none⟩,0⟩ kq ⟨Nat.zero_le _,rfl⟩ (fun j hj ih=>?_)
 obtain ⟨l,q,cap⟩:=j
 obtain ⟨hi,hl⟩:=hj
 simp only at hi hl
 refine V.q ?_
 refine V.branch 10 (decide ((l.length : Int) < n)) kq (fun hb=>?_) (fun hb=>?_)
 ·have hlt : (l.length : Int) < n:=by simpa using hb
  refine V.q ?_
  refine V.push bsv 0 l b 0 q cap 5 1 [.int .u8 b.toNat] 1 kq (by omega) rfl (fun _ _=>kq) (fun q' cap'=>?_)
  refine V.runT [] [inK .i64 ((l.length : Int) + 1)] kq kq ⟨by omega,by omega⟩ ?_
  refine V.slotAs 6 (.one (.int .i64 ((l.length : Int) + 1))) (.one (.int .i64 ((l ++ [b]).length : Int))) kq kq (fun _=>by rw [List.length_append]; rfl) ?_
  refine V.againK [0,1,5,6] [] (ih ⟨l ++ [b],q',cap'⟩ ⟨by rw [List.length_append]; show l.length + 1 ≤ _; omega,?_⟩ (by simp only [List.length_append,List.length_singleton]; omega)) kq kq
  simp only [List.length_append,List.length_singleton]
  rw [List.replicate_succ',← hl]
 ·have hge : n ≤ (l.length : Int):=by simpa using hb
  refine V.q ?_
  refine V.toStr l 0 q cap 5 true kq kq ?_
  refine V.q ?_
  have e : l = List.replicate n.toNat b:=by rw [hl,show l.length = n.toNat from by omega]
  subst e
  exact V.retO kq kq kq
noncomputable def cMany : Con Tryz.prog:=Con.ex manyX un2bi (fun _ _=>un2bi_ok) []
def arg1B (a : Int) : List CV:=[.one (.int .u8 a)]
def un1b : List CV → Option Int
 | [.one (.int .u8 n)]=>some n
 | _=>none
theorem un1b_ok {xs : List CV} {a : Int} (h : un1b xs = some a) : xs = arg1B a:=by
 unfold un1b at h; split at h <;> cases h; rfl
def uppQ (a : Int) : Prop:=0 ≤ a ∧ a ≤ 255
inductive uppI where
 | e (a : Int)
noncomputable def uppC : uppI → Cfg
 | .e a=>entO Tryz.f304 (arg1B a)
noncomputable def uppS : uppI → Sh
 | .e a=>(.cond (decide (a ≥ 97) && decide (a ≤ 122)) (.ob [inK IntKind.u8 (a - 97),inK IntKind.u8 (a - 97 + 65)] (.ret (RV.v (CV.one (SV.int IntKind.u8 (a - 97 + 65)))))) (.ret (RV.v (CV.one (SV.int IntKind.u8 a)))))
noncomputable def uppN : uppI → Nat → uppI
 | .e a,_=>.e a
def uppK : uppI → List Nat
 | .e _=>[]
def uppM : uppI → Nat
 | .e a=>1
def uppP (a0 : Int) : uppI → Prop
 | .e a=>a = a0 ∧ 0 ≤ a ∧ a ≤ 255
theorem uppX : ExF Tryz.prog 304 arg1B (fun c=>.v (vB c)) uppQ (fun _ c=>0 ≤ c ∧ c ≤ 255):=by
 intro a0 ha
 refine CallsF.ofV false Tryz.func304 kq kq (cuts hMu kq (T:=[]) 40 uppC uppS uppN uppK (fun _=>[]) uppM (uppP a0) _ (fun i=>by cases i <;> kernel_rfl) (fun i=>by cases i <;> kernel_rfl) ?_ (fun i j hj=>?_) _ (.e a0) (Nat.lt_succ_self _) ⟨rfl,ha⟩)
 ·intro i hi
  cases i with
  | e a =>
   simp only [uppP] at hi
   obtain ⟨rfl,hi⟩:=hi
   refine ⟨fun h0=>?_,fun h0=>?_⟩
   ·simp only [Bool.or_eq_true,Bool.and_eq_true,Bool.or_eq_false_iff,Bool.and_eq_false_iff,decide_eq_true_eq,decide_eq_false_iff_not,Bool.not_eq_true',Bool.not_eq_false',Bool.not_eq_true,Bool.not_eq_false] at h0
    have o1 : inK IntKind.u8 (a - 97):=⟨by omega,by omega⟩
    have o2 : inK IntKind.u8 (a - 97 + 65):=⟨by omega,by omega⟩
    refine ⟨⟨o1,o2⟩,?_⟩
    exact ⟨⟨_,rfl,by constructor <;> omega⟩,rfl⟩
   ·simp only [Bool.or_eq_true,Bool.and_eq_true,Bool.or_eq_false_iff,Bool.and_eq_false_iff,decide_eq_true_eq,decide_eq_false_iff_not,Bool.not_eq_true',Bool.not_eq_false',Bool.not_eq_true,Bool.not_eq_false] at h0
    exact ⟨⟨_,rfl,by constructor <;> omega⟩,rfl⟩
 ·cases i with
  | e a=>exact absurd hj (Nat.not_lt_zero _)
noncomputable def cUpp : Con Tryz.prog:=Con.ex uppX un1b (fun _ _=>un1b_ok) []
def xpdQ (a : List UInt8) : Prop:=a.length ≤ 1000000
inductive xpdI where
 | e (a : List UInt8)
 | l (s : List UInt8) (o : List UInt8) (p : Int)
noncomputable def xpdTl : List Item:=headT 280 [cCnt.e,cUpp.e,cHas.e,cMany.e] (entO Tryz.f280 (arg1S [])) 0
noncomputable def xpdC : xpdI → Cfg
 | .e a=>entO Tryz.f280 (arg1S a)
 | .l s o p=>⟨xpdTl,st0 55 [(0,vS s),(4,vS o),(5,vI p)]⟩
noncomputable def xpdS : xpdI → Sh
 | .e a=>.leaf
 | .l s o p=>(.cond (decide (p < (↑s.length : Int))) (.ob [0 ≤ p ∧ p < (↑s.length : Int)] (.cond ((↑(s.getD p.toNat 0).toNat : Int) == 40) (.ob [inK IntKind.i64 (p + 1),cntQ (s,p + 1)] (.cond (decide ((exV cntX (s,p + 1)).fst < 1) || decide ((exV cntX (s,p + 1)).snd ≥ (↑s.length : Int))) (.ret (RV.tup [CV.one (SV.str []),CV.one (SV.int IntKind.i64 30)])) (.ob [0 ≤ (exV cntX (s,p + 1)).snd ∧ (exV cntX (s,p + 1)).snd < (↑s.length : Int),uppQ (↑(s.getD (exV cntX (s,p + 1)).snd.toNat 0).toNat : Int),hasQ ([57,86,90,42,89,84,73,82,83,43,45,36,44,46,47,66,67,68,65,88],exV uppX (↑(s.getD (exV cntX (s,p + 1)).snd.toNat 0).toNat : Int)),(!exV hasX ([57,86,90,42,89,84,73,82,83,43,45,36,44,46,47,66,67,68,65,88],exV uppX (↑(s.getD (exV cntX (s,p + 1)).snd.toNat 0).toNat : Int))) = false → inK IntKind.i64 ((↑o.length : Int) + (exV cntX (s,p + 1)).fst)] (.cond (!exV hasX ([57,86,90,42,89,84,73,82,83,43,45,36,44,46,47,66,67,68,65,88],exV uppX (↑(s.getD (exV cntX (s,p + 1)).snd.toNat 0).toNat : Int)) || decide ((↑o.length : Int) + (exV cntX (s,p + 1)).fst > 32)) (.ret (RV.tup [CV.one (SV.str []),CV.one (SV.int IntKind.i64 30)])) (.ob [manyQ (exV uppX (↑(s.getD (exV cntX (s,p + 1)).snd.toNat 0).toNat : Int),(exV cntX (s,p + 1)).fst),o.length + (exV manyX (exV uppX (↑(s.getD (exV cntX (s,p + 1)).snd.toNat 0).toNat : Int),(exV cntX (s,p + 1)).fst)).length ≤ 9223372036854775807,inK IntKind.i64 ((exV cntX (s,p + 1)).snd + 1)] .leaf))))) (.ob [0 ≤ p ∧ p < (↑s.length : Int),uppQ (↑(s.getD p.toNat 0).toNat : Int),hasQ ([57,86,90,42,89,84,73,82,83,43,45,36,44,46,47,66,67,68,65,88],exV uppX (↑(s.getD p.toNat 0).toNat : Int)),(!exV hasX ([57,86,90,42,89,84,73,82,83,43,45,36,44,46,47,66,67,68,65,88],exV uppX (↑(s.getD p.toNat 0).toNat : Int))) = false → inK IntKind.i64 ((↑o.length : Int) + 1)] (.cond (!exV hasX ([57,86,90,42,89,84,73,82,83,43,45,36,44,46,47,66,67,68,65,88],exV uppX (↑(s.getD p.toNat 0).toNat : Int)) || decide ((↑o.length : Int) + 1 > 32)) (.ret (RV.tup [CV.one (SV.str []),CV.one (SV.int IntKind.i64 30)])) (.ob [manyQ (exV uppX (↑(s.getD p.toNat 0).toNat : Int),1),o.length + (exV manyX (exV uppX (↑(s.getD p.toNat 0).toNat : Int),1)).length ≤ 9223372036854775807,inK IntKind.i64 (p + 1)] .leaf))))) (.cond (o == []) (.ret (RV.tup [CV.one (SV.str []),CV.one (SV.int IntKind.i64 30)])) (.ret (RV.tup [CV.one (SV.str o),CV.one (SV.int IntKind.i64 0)]))))
noncomputable def xpdN : xpdI → Nat → xpdI
 | .e a,_=>.l (a) ([]) (0)
 | .l s o p,0=>.l (s) (o ++ exV manyX (exV uppX (↑(s.getD (exV cntX (s,p + 1)).snd.toNat 0).toNat : Int),(exV cntX (s,p + 1)).fst)) ((exV cntX (s,p + 1)).snd + 1)
 | .l s o p,_=>.l (s) (o ++ exV manyX (exV uppX (↑(s.getD p.toNat 0).toNat : Int),1)) (p + 1)
def xpdK : xpdI → List Nat
 | .e _=>[]
 | .l _ _ _=>[0,4,5]
def xpdM : xpdI → Nat
 | .e a=>a.length + 2
 | .l s o p=>((s.length : Int) - p).toNat + 1
def xpdP (a0 : List UInt8) : xpdI → Prop
 | .e a=>a = a0 ∧ a.length ≤ 1000000
 | .l s o p=>s.length ≤ 1000000 ∧ o.length ≤ 32 ∧ 0 ≤ p ∧ p ≤ (s.length : Int)
theorem xpdX : ExF Tryz.prog 280 arg1S (fun r : List UInt8 × Int=>.tup [vS r.1,vI r.2]) xpdQ (fun _ r=>r.1.length ≤ 32):=by
 intro a0 ha
 refine CallsF.ofV false Tryz.func280 kq kq (cuts hMu kq (T:=[cCnt.e,cUpp.e,cHas.e,cMany.e]) 40 xpdC xpdS xpdN xpdK (fun _=>[]) xpdM (xpdP a0) _ (fun i=>by cases i <;> kernel_rfl) (fun i=>by cases i <;> kernel_rfl) ?_ (fun i j hj=>?_) _ (.e a0) (Nat.lt_succ_self _) ⟨rfl,ha⟩)
 ·intro i hi
  cases i with
  | e a =>
   simp only [xpdP] at hi
   obtain ⟨rfl,hi⟩:=hi
   simp only [Sh.okE,Sh.n,Nat.zero_add,Nat.add_zero,Nat.reduceAdd,and_true,true_and,List.length_append,List.length_nil,xpdS,xpdN,xpdP,xpdM]; omega
  | l s o p =>
   simp only [xpdP] at hi
   refine ⟨fun h0=>?_,fun h0=>?_⟩
   ·have h0:=of_decide_eq_true h0
    have o1 : 0 ≤ p ∧ p < (↑s.length : Int):=⟨by omega,by omega⟩
    refine ⟨o1,?_⟩
    refine ⟨fun h1=>?_,fun h1=>?_⟩
    ·have o2 : inK IntKind.i64 (p + 1):=⟨by omega,by omega⟩
     have o3 : cntQ (s,p + 1):=by simp only [allP,cntQ,List.length_cons,List.length_nil,List.length_take,List.length_drop,List.length_append]; omega
     have f3:=(exV_ok cntX (s,p + 1) o3).2
     (try simp only at f3)
     refine ⟨⟨o2,o3⟩,?_⟩
     refine ⟨fun h2=>?_,fun h2=>?_⟩
     ·simp only [Bool.or_eq_true,Bool.and_eq_true,Bool.or_eq_false_iff,Bool.and_eq_false_iff,decide_eq_true_eq,decide_eq_false_iff_not,Bool.not_eq_true',Bool.not_eq_false',Bool.not_eq_true,Bool.not_eq_false] at h2
      exact ⟨⟨(_,_),rfl,by simp; try omega⟩,rfl⟩
     ·simp only [Bool.or_eq_true,Bool.and_eq_true,Bool.or_eq_false_iff,Bool.and_eq_false_iff,decide_eq_true_eq,decide_eq_false_iff_not,Bool.not_eq_true',Bool.not_eq_false',Bool.not_eq_true,Bool.not_eq_false] at h2
      have o4 : 0 ≤ (exV cntX (s,p + 1)).snd ∧ (exV cntX (s,p + 1)).snd < (↑s.length : Int):=⟨by omega,by omega⟩
      have b5_0:=UInt8.toNat_lt (s.getD (exV cntX (s,p + 1)).snd.toNat 0)
      have o5 : uppQ (↑(s.getD (exV cntX (s,p + 1)).snd.toNat 0).toNat : Int):=by simp only [allP,uppQ,List.length_cons,List.length_nil,List.length_take,List.length_drop,List.length_append]; omega
      have f5:=(exV_ok uppX (↑(s.getD (exV cntX (s,p + 1)).snd.toNat 0).toNat : Int) o5).2
      (try simp only at f5)
      have b6_0:=UInt8.toNat_lt (s.getD (exV cntX (s,p + 1)).snd.toNat 0)
      have o6 : hasQ ([57,86,90,42,89,84,73,82,83,43,45,36,44,46,47,66,67,68,65,88],exV uppX (↑(s.getD (exV cntX (s,p + 1)).snd.toNat 0).toNat : Int)):=by simp only [allP,hasQ,List.length_cons,List.length_nil,List.length_take,List.length_drop,List.length_append]; omega
      have b7_0:=UInt8.toNat_lt (s.getD (exV cntX (s,p + 1)).snd.toNat 0)
      have o7 : (!exV hasX ([57,86,90,42,89,84,73,82,83,43,45,36,44,46,47,66,67,68,65,88],exV uppX (↑(s.getD (exV cntX (s,p + 1)).snd.toNat 0).toNat : Int))) = false → inK IntKind.i64 ((↑o.length : Int) + (exV cntX (s,p + 1)).fst):=fun g=>by (try simp only [Bool.or_eq_true,Bool.and_eq_true,Bool.or_eq_false_iff,Bool.and_eq_false_iff,decide_eq_true_eq,decide_eq_false_iff_not,Bool.not_eq_true',Bool.not_eq_false',Bool.not_eq_true,Bool.not_eq_false] at g); exact ⟨by omega,by omega⟩
      refine ⟨⟨o4,o5,o6,o7⟩,?_⟩
      refine ⟨fun h3=>?_,fun h3=>?_⟩
      ·simp only [Bool.or_eq_true,Bool.and_eq_true,Bool.or_eq_false_iff,Bool.and_eq_false_iff,decide_eq_true_eq,decide_eq_false_iff_not,Bool.not_eq_true',Bool.not_eq_false',Bool.not_eq_true,Bool.not_eq_false] at h3
       exact ⟨⟨(_,_),rfl,by simp; try omega⟩,rfl⟩
      ·simp only [Bool.or_eq_true,Bool.and_eq_true,Bool.or_eq_false_iff,Bool.and_eq_false_iff,decide_eq_true_eq,decide_eq_false_iff_not,Bool.not_eq_true',Bool.not_eq_false',Bool.not_eq_true,Bool.not_eq_false] at h3
       have b8_0:=UInt8.toNat_lt (s.getD (exV cntX (s,p + 1)).snd.toNat 0)
       have o8 : manyQ (exV uppX (↑(s.getD (exV cntX (s,p + 1)).snd.toNat 0).toNat : Int),(exV cntX (s,p + 1)).fst):=by simp only [allP,manyQ,List.length_cons,List.length_nil,List.length_take,List.length_drop,List.length_append]; omega
       have f8:=(exV_ok manyX (exV uppX (↑(s.getD (exV cntX (s,p + 1)).snd.toNat 0).toNat : Int),(exV cntX (s,p + 1)).fst) o8).2
       (try simp only at f8)
       have b9_0:=UInt8.toNat_lt (s.getD (exV cntX (s,p + 1)).snd.toNat 0)
       have o9 : o.length + (exV manyX (exV uppX (↑(s.getD (exV cntX (s,p + 1)).snd.toNat 0).toNat : Int),(exV cntX (s,p + 1)).fst)).length ≤ 9223372036854775807:=by omega
       have o10 : inK IntKind.i64 ((exV cntX (s,p + 1)).snd + 1):=⟨by omega,by omega⟩
       refine ⟨⟨o8,o9,o10⟩,?_⟩
       simp only [Sh.okE,Sh.n,Nat.zero_add,Nat.add_zero,Nat.reduceAdd,and_true,true_and,List.length_append,List.length_nil,xpdS,xpdN,xpdP,xpdM]; omega
    ·have o11 : 0 ≤ p ∧ p < (↑s.length : Int):=⟨by omega,by omega⟩
     have b12_0:=UInt8.toNat_lt (s.getD p.toNat 0)
     have o12 : uppQ (↑(s.getD p.toNat 0).toNat : Int):=by simp only [allP,uppQ,List.length_cons,List.length_nil,List.length_take,List.length_drop,List.length_append]; omega
     have f12:=(exV_ok uppX (↑(s.getD p.toNat 0).toNat : Int) o12).2
     (try simp only at f12)
     have b13_0:=UInt8.toNat_lt (s.getD p.toNat 0)
     have o13 : hasQ ([57,86,90,42,89,84,73,82,83,43,45,36,44,46,47,66,67,68,65,88],exV uppX (↑(s.getD p.toNat 0).toNat : Int)):=by simp only [allP,hasQ,List.length_cons,List.length_nil,List.length_take,List.length_drop,List.length_append]; omega
     have b14_0:=UInt8.toNat_lt (s.getD p.toNat 0)
     have o14 : (!exV hasX ([57,86,90,42,89,84,73,82,83,43,45,36,44,46,47,66,67,68,65,88],exV uppX (↑(s.getD p.toNat 0).toNat : Int))) = false → inK IntKind.i64 ((↑o.length : Int) + 1):=fun g=>by (try simp only [Bool.or_eq_true,Bool.and_eq_true,Bool.or_eq_false_iff,Bool.and_eq_false_iff,decide_eq_true_eq,decide_eq_false_iff_not,Bool.not_eq_true',Bool.not_eq_false',Bool.not_eq_true,Bool.not_eq_false] at g); exact ⟨by omega,by omega⟩
     refine ⟨⟨o11,o12,o13,o14⟩,?_⟩
     refine ⟨fun h2=>?_,fun h2=>?_⟩
     ·simp only [Bool.or_eq_true,Bool.and_eq_true,Bool.or_eq_false_iff,Bool.and_eq_false_iff,decide_eq_true_eq,decide_eq_false_iff_not,Bool.not_eq_true',Bool.not_eq_false',Bool.not_eq_true,Bool.not_eq_false] at h2
      exact ⟨⟨(_,_),rfl,by simp; try omega⟩,rfl⟩
     ·simp only [Bool.or_eq_true,Bool.and_eq_true,Bool.or_eq_false_iff,Bool.and_eq_false_iff,decide_eq_true_eq,decide_eq_false_iff_not,Bool.not_eq_true',Bool.not_eq_false',Bool.not_eq_true,Bool.not_eq_false] at h2
      have b15_0:=UInt8.toNat_lt (s.getD p.toNat 0)
      have o15 : manyQ (exV uppX (↑(s.getD p.toNat 0).toNat : Int),1):=by simp only [allP,manyQ,List.length_cons,List.length_nil,List.length_take,List.length_drop,List.length_append]; omega
      have f15:=(exV_ok manyX (exV uppX (↑(s.getD p.toNat 0).toNat : Int),1) o15).2
      (try simp only at f15)
      have b16_0:=UInt8.toNat_lt (s.getD p.toNat 0)
      have o16 : o.length + (exV manyX (exV uppX (↑(s.getD p.toNat 0).toNat : Int),1)).length ≤ 9223372036854775807:=by omega
      have o17 : inK IntKind.i64 (p + 1):=⟨by omega,by omega⟩
      refine ⟨⟨o15,o16,o17⟩,?_⟩
      simp only [Sh.okE,Sh.n,Nat.zero_add,Nat.add_zero,Nat.reduceAdd,and_true,true_and,List.length_append,List.length_nil,xpdS,xpdN,xpdP,xpdM]; omega
   ·have h0:=of_decide_eq_false h0
    refine ⟨fun h1=>?_,fun h1=>?_⟩
    ·exact ⟨⟨(_,_),rfl,by simp; try omega⟩,rfl⟩
    ·exact ⟨⟨(_,_),rfl,by simp; try omega⟩,rfl⟩
 ·cases i with
  | e a=>match j,hj with
   | 0,_=>exact ⟨kq,kq⟩
  | l s o p=>match j,hj with
   | 0,_=>exact ⟨kq,kq⟩
   | 1,_=>exact ⟨kq,kq⟩
noncomputable def cXpd : Con Tryz.prog:=Con.ex xpdX un1s (fun _ _=>un1s_ok) []
def crdQ (a : List UInt8) : Prop:=a.length ≤ 1000000
inductive crdI where
 | e (a : List UInt8)
noncomputable def crdC : crdI → Cfg
 | .e a=>entO Tryz.f306 (arg1S a)
noncomputable def crdS : crdI → Sh
 | .e a=>(.ob [decide ((↑a.length : Int) ≥ 2) = true → inK IntKind.i64 ((↑a.length : Int) - 2),decide ((↑a.length : Int) ≥ 2) = true → 0 ≤ (some ((↑a.length : Int) - 2)).getD 0 ∧ (some ((↑a.length : Int) - 2)).getD 0 ≤ (none : Option Int).getD (↑a.length : Int) ∧ (none : Option Int).getD (↑a.length : Int) ≤ (↑a.length : Int),(bif decide ((↑a.length : Int) ≥ 2) == true then List.drop ((some ((↑a.length : Int) - 2)).getD 0).toNat (List.take ((none : Option Int).getD (↑a.length : Int)).toNat a) == ([67,82] : List UInt8) else !false) = false → inK IntKind.i64 ((↑a.length : Int) - 2),(bif decide ((↑a.length : Int) ≥ 2) == true then List.drop ((some ((↑a.length : Int) - 2)).getD 0).toNat (List.take ((none : Option Int).getD (↑a.length : Int)).toNat a) == ([67,82] : List UInt8) else !false) = false → 0 ≤ (some ((↑a.length : Int) - 2)).getD 0 ∧ (some ((↑a.length : Int) - 2)).getD 0 ≤ (none : Option Int).getD (↑a.length : Int) ∧ (none : Option Int).getD (↑a.length : Int) ≤ (↑a.length : Int)] (.ret (RV.v (CV.one (SV.sb (decide ((↑a.length : Int) ≥ 2) && (List.drop ((some ((↑a.length : Int) - 2)).getD 0).toNat (List.take ((none : Option Int).getD (↑a.length : Int)).toNat a) == ([67,82] : List UInt8) || List.drop ((some ((↑a.length : Int) - 2)).getD 0).toNat (List.take ((none : Option Int).getD (↑a.length : Int)).toNat a) == ([68,66] : List UInt8))))))))
noncomputable def crdN : crdI → Nat → crdI
 | .e a,_=>.e a
def crdK : crdI → List Nat
 | .e _=>[]
def crdM : crdI → Nat
 | .e a=>a.length + 2
def crdP (a0 : List UInt8) : crdI → Prop
 | .e a=>a = a0 ∧ a.length ≤ 1000000
theorem crdX : ExF Tryz.prog 306 arg1S (fun b=>.v (vT b)) crdQ (fun a b=>b = true → 2 ≤ a.length):=by
 intro a0 ha
 refine CallsF.ofV false Tryz.func306 kq kq (cuts hMu kq (T:=([] : List (Ent Tryz.prog))) 40 crdC crdS crdN crdK (fun _=>[]) crdM (crdP a0) _ (fun i=>by cases i <;> kernel_rfl) (fun i=>by cases i <;> kernel_rfl) ?_ (fun i j hj=>?_) _ (.e a0) (Nat.lt_succ_self _) ⟨rfl,ha⟩)
 ·intro i hi
  cases i with
  | e a =>
   simp only [crdP] at hi
   obtain ⟨rfl,hi⟩:=hi
   have o1 : decide ((↑a.length : Int) ≥ 2) = true → inK IntKind.i64 ((↑a.length : Int) - 2):=fun g=>by
     have g:=of_decide_eq_true g
     exact ⟨by omega,by omega⟩
   have o2 : decide ((↑a.length : Int) ≥ 2) = true → 0 ≤ (some ((↑a.length : Int) - 2)).getD 0 ∧ (some ((↑a.length : Int) - 2)).getD 0 ≤ (none : Option Int).getD (↑a.length : Int) ∧ (none : Option Int).getD (↑a.length : Int) ≤ (↑a.length : Int):=fun g=>by
     have g:=of_decide_eq_true g
     simp only [Option.getD_some,Option.getD_none]; omega
   have o3 : (bif decide ((↑a.length : Int) ≥ 2) == true then List.drop ((some ((↑a.length : Int) - 2)).getD 0).toNat (List.take ((none : Option Int).getD (↑a.length : Int)).toNat a) == ([67,82] : List UInt8) else !false) = false → inK IntKind.i64 ((↑a.length : Int) - 2):=fun g=>by
     by_cases h : (2 : Int) ≤ a.length
     ·first | exact ⟨by omega,by omega⟩ | (simp only [Option.getD_some,Option.getD_none]; omega)
     ·have h3 : decide ((a.length : Int) ≥ 2) = false:=decide_eq_false h
      rw [h3] at g; cases g
   have o4 : (bif decide ((↑a.length : Int) ≥ 2) == true then List.drop ((some ((↑a.length : Int) - 2)).getD 0).toNat (List.take ((none : Option Int).getD (↑a.length : Int)).toNat a) == ([67,82] : List UInt8) else !false) = false → 0 ≤ (some ((↑a.length : Int) - 2)).getD 0 ∧ (some ((↑a.length : Int) - 2)).getD 0 ≤ (none : Option Int).getD (↑a.length : Int) ∧ (none : Option Int).getD (↑a.length : Int) ≤ (↑a.length : Int):=fun g=>by
     by_cases h : (2 : Int) ≤ a.length
     ·first | exact ⟨by omega,by omega⟩ | (simp only [Option.getD_some,Option.getD_none]; omega)
     ·have h3 : decide ((a.length : Int) ≥ 2) = false:=decide_eq_false h
      rw [h3] at g; cases g
   refine ⟨⟨o1,o2,o3,o4⟩,?_⟩
   exact ⟨⟨_,rfl,fun h=>by simp only [Bool.or_eq_true,Bool.and_eq_true,Bool.or_eq_false_iff,Bool.and_eq_false_iff,decide_eq_true_eq,decide_eq_false_iff_not,Bool.not_eq_true',Bool.not_eq_false',Bool.not_eq_true,Bool.not_eq_false] at h; omega⟩,rfl⟩
 ·cases i with
  | e a=>exact absurd hj (Nat.not_lt_zero _)
noncomputable def cCrd : Con Tryz.prog:=Con.ex crdX un1s (fun _ _=>un1s_ok) []
theorem bodyLen (s : List UInt8) : (List.drop ((none : Option Int).getD 0).toNat (List.take ((some ((s.length : Int) - 2)).getD (s.length : Int)).toNat s)).length = s.length - 2:=by simp; omega
end Go.Proofs
end
