/- A symbolic run of the program that Lean checks, and what the functions of the program come to by it: part 2 of 11. -/
import Derived.OrdersHeld
import Derived.Test.YticgechhgdgjlaaGreatDoorRAA
set_option linter.unusedVariables false
section
namespace Go.SX
open Go
def Fin (C : Ctx) (m : Machine) (cs : List Frame) (e : Ending) (w' : World) : Prop :=
 match C.round with
 | none=>∃ fr,Comes C.P m (lone fr cs w') e ∧ fr.fn = C.f ∧ fr.leaving C.P w' e
 | some _=>∃ c cs' v,cs = c :: cs' ∧ e = .returned v ∧ Steps C.P m (lone (c.finish v) cs' w')
theorem Fin.of_steps {C : Ctx} {m m1 : Machine} {cs : List Frame} {e : Ending} {w' : World} (hs : Steps C.P m m1) (h : Fin C m1 cs e w') : Fin C m cs e w':=by
 unfold Fin at h ⊢
 split at h
 ·obtain ⟨fr,h1,h2,h3⟩:=h
  exact ⟨fr,Comes.of_steps hs h1,h2,h3⟩
 ·obtain ⟨c,cs',v,h1,h2,h3⟩:=h
  exact ⟨c,cs',v,h1,h2,hs.trans h3⟩
def Ok (C : Ctx) (todo : List Item) (a : Act) (w : World) : Prop :=
 ∀ (b : Frame),b.fn = C.f → b.kind = .normal → b.roundOf = C.round → ∀ cs,(C.round.isSome = true → cs ≠ []) → ∃ e w',C.R e w' ∧ Fin C (lone (b.atR a todo) cs w) cs e w'
def V (C : Ctx) (c : Cfg) : Prop:=∀ ρ a w,Sat C ρ c.st a w → Ok C c.todo a w
theorem Ok.of_step {C : Ctx} {todo todo' : List Item} {a a' : Act} {w w' : World}
  (hs : ∀ (b : Frame) cs,b.roundOf = C.round → b.fn = C.f → Go.step C.P (lone (b.atR a todo) cs w) = .next (lone (b.atR a' todo') cs w')) (h : Ok C todo' a' w') : Ok C todo a w:=by
 intro b hb hk hr cs hcs
 obtain ⟨e,w2,h1,h2⟩:=h b hb hk hr cs hcs
 exact ⟨e,w2,h1,h2.of_steps (.one (hs b cs hr hb))⟩
theorem no_defer {o : Oper} {ρ : Operand → Value} {P : Program} {w w' : World} {n : Next} (hr : (execOp ρ o).run P w = .ok n w') (hn : ∀ d,n ≠ .defer d) : ∀ c,o.op ≠ .defer c:=by
 intro c hc
 unfold execOp at hr
 rw [hc] at hr
 simp only [Sem.run_bind] at hr
 cases h : (resolve ρ c o.type).run P w with
 | ok d w1=>rw [h] at hr; simp only [Result.andThen_ok,Sem.run_pure,Result.ok.injEq] at hr; exact hn d hr.1.symm
 | halt x w1=>rw [h] at hr; cases hr
section
variable {C : Ctx} {ρ : Nat → Nat} {s s' : St} {a : Act} {w w' : World} {ops : Array Oper} {i : Nat} {l : List Nat} {k : List Item} {o : Oper}
theorem Ok.op_value (ho : ops[i]? = some o) (hw : Region.wanted o (yielded ops a.tmps) = true) {v : Value} (hr : (execOp a.eval o).run C.P w = .ok (.value v) w')
  (h : Ok C (.inRegion ops l :: k) (a.put o.dst v) w') : Ok C (.inRegion ops (i :: l) :: k) a w:=by
 refine Ok.of_step (fun b cs _ _=>?_) h
 have hg:=stepGR_op (P:=C.P) (b:=b) (k:=k) (cs:=cs) (w:=w) (rest:=l) ho hw
 rw [Oper.semAt_eq _ _ _ (no_defer hr (by simp))] at hg
 have hfin : (b.atR a (.inRegion ops (i :: l) :: k)).finish v = b.atR (a.put o.dst v) (.inRegion ops l :: k):=by rw [Frame.finish_atR,ho]; rfl
 exact step_lone_go (by rw [hg,← hfin]; simp [stepG.apply,hr])
theorem Ok.op_skip (ho : ops[i]? = some o) (hw : Region.wanted o (yielded ops a.tmps) = true) (hr : (execOp a.eval o).run C.P w = .ok .skip w')
  (h : Ok C (.inRegion ops l :: k) (a.put o.dst undef) w') : Ok C (.inRegion ops (i :: l) :: k) a w:=by
 refine Ok.of_step (fun b cs _ _=>?_) h
 have hg:=stepGR_op (P:=C.P) (b:=b) (k:=k) (cs:=cs) (w:=w) (rest:=l) ho hw
 rw [Oper.semAt_eq _ _ _ (no_defer hr (by simp))] at hg
 have hfin : (b.atR a (.inRegion ops (i :: l) :: k)).finish undef = b.atR (a.put o.dst undef) (.inRegion ops l :: k):=by rw [Frame.finish_atR,ho]; rfl
 exact step_lone_go (by rw [hg,← hfin]; simp [stepG.apply,hr])
theorem Ok.op_pass (ho : ops[i]? = some o) (hw : Region.wanted o (yielded ops a.tmps) = false)
  (h : Ok C (.inRegion ops l :: k) (a.put o.dst undef) w) : Ok C (.inRegion ops (i :: l) :: k) a w:=by
 refine Ok.of_step (fun b cs _ _=>?_) h
 have hs:=stepR_op_skip (P:=C.P) (b:=b) (a:=a) (k:=k) (cs:=cs) (w:=w) (ops:=ops) (i:=i) (rest:=l) (by simp [ho,hw])
 simp only [ho,Option.bind_some] at hs
 exact hs
theorem Ok.op_call (ho : ops[i]? = some o) (hw : Region.wanted o (yielded ops a.tmps) = true) {f : FuncId} {args : Array Value} (hr : (execOp a.eval o).run C.P w = .ok (.enter f args) w')
  {R : Ending → World → Prop} (hc : Calls C.P f args w' R)
  (h : ∀ e w2,R e w2 → ∃ v,e = .returned v ∧ Ok C (.inRegion ops l :: k) (a.put o.dst v) w2) : Ok C (.inRegion ops (i :: l) :: k) a w:=by
 intro b hb hk hro cs hcs
 have hg:=stepGR_op (P:=C.P) (b:=b) (k:=k) (cs:=cs) (w:=w) (rest:=l) ho hw
 rw [Oper.semAt_eq _ _ _ (no_defer hr (by simp))] at hg
 obtain ⟨e,w2,fr,hR,hsteps,_,hleave⟩:=hc (b.atR a (.inRegion ops (i :: l) :: k) :: cs)
 obtain ⟨v,rfl,hOk⟩:=h e w2 hR
 have henter : Go.step C.P (lone (b.atR a (.inRegion ops (i :: l) :: k)) cs w) = .next (lone (Frame.enter C.P f args .normal) (b.atR a (.inRegion ops (i :: l) :: k) :: cs) w') :=
  step_lone_go (by rw [hg]; simp [stepG.apply,hr,Frame.atR])
 obtain ⟨e,w3,h1,h2⟩:=hOk b hb hk hro cs hcs
 have hfin : (b.atR a (.inRegion ops (i :: l) :: k)).finish v = b.atR (a.put o.dst v) (.inRegion ops l :: k):=by rw [Frame.finish_atR,ho]; rfl
 refine ⟨e,w3,h1,h2.of_steps (.head henter (hsteps.trans (.one ?_)))⟩
 rw [← hfin]; exact step_leave_returned hleave
theorem grd_yes (h : Sat C ρ s a w) (hg : grdOf s ops o.guard = .yes) : Region.wanted o (yielded ops a.tmps) = true:=by
 unfold grdOf at hg
 unfold Region.wanted
 split at hg
 ·rename_i e; rw [e]
 ·rename_i j pol e
  rw [e]
  split at hg
  ·cases hg
  ·rename_i oj hj
   split at hg
   ·cases hg
   ·rename_i g hd
    split at hg
    ·rename_i hl
     split at hg
     ·have:=(h.slots g _ hl).1
      simp [yielded,hj,hd,this,RV.den,CV.den,SV.den]
     ·cases hg
    ·rename_i hl
     split at hg
     ·cases hg
     ·have:=(h.slots g _ hl).1
      simp [yielded,hj,hd,this,RV.den,CV.den,SV.den]
    ·cases hg
    ·cases hg
    ·split at hg <;> cases hg
    ·cases hg
theorem grd_no (h : Sat C ρ s a w) (hg : grdOf s ops o.guard = .no) : Region.wanted o (yielded ops a.tmps) = false:=by
 unfold grdOf at hg
 unfold Region.wanted
 split at hg
 ·cases hg
 ·rename_i j pol e
  rw [e]
  split at hg
  ·cases hg
  ·rename_i oj hj
   split at hg
   ·cases hg
   ·rename_i g hd
    split at hg
    ·rename_i hl
     split at hg
     ·cases hg
     ·have:=(h.slots g _ hl).1
      simp [yielded,hj,hd,this,RV.den,CV.den,SV.den]
    ·rename_i hl
     split at hg
     ·have:=(h.slots g _ hl).1
      simp [yielded,hj,hd,this,RV.den,CV.den,SV.den]
     ·cases hg
    ·cases hg
    ·rename_i hl
     have:=(h.slots g _ hl).1
     simp [yielded,hj,hd,this,RV.den,CV.den,SV.den]
    ·split at hg <;> cases hg
    ·cases hg
theorem grd_ask {g : Nat} {pol c : Bool} (h : Sat C ρ s a w) (hg : grdOf s ops o.guard = .ask g pol c) :
  gOk (look s.slots g) pol c ∧ Region.wanted o (yielded ops a.tmps) = (c == pol):=by
 unfold grdOf at hg
 unfold Region.wanted
 split at hg
 ·cases hg
 ·rename_i j pol' e
  rw [e]
  split at hg
  ·cases hg
  ·rename_i oj hj
   split at hg
   ·cases hg
   ·rename_i g' hd
    split at hg
    ·rename_i hl
     split at hg <;> cases hg
    ·rename_i hl
     split at hg <;> cases hg
    ·rename_i c' hl
     cases hg
     have:=(h.slots g _ hl).1
     refine ⟨.sb _ hl,?_⟩
     simp [yielded,hj,hd,this,RV.den,CV.den,SV.den]
    ·cases hg
    ·rename_i g1 p1 c1 x hl
     split at hg
     ·rename_i b hb
      cases hg
      have:=(h.slots g _ hl).1
      refine ⟨.inr (.inl ⟨g1,p1,c1,x,b,hl,hb,rfl⟩),?_⟩
      have hbd : x.den ρ = .bool b:=by cases x <;> simp [bOf] at hb <;> (subst hb; rfl)
      cases hcp : c1 == p1 with
      | true =>
       have e1 : c1 = p1:=by simpa using hcp
       simp [yielded,hj,hd,this,RV.den,CV.den,hbd,e1]
      | false =>
       have e1 : ¬ c1 = p1:=by simpa using hcp
       simp [yielded,hj,hd,this,RV.den,e1,undef]
     ·cases hg
    ·cases hg
theorem impAll_mem {c pol : Bool} : ∀ {ob : List Prop},(∀ p ∈ impAll c pol ob,p) → c = pol → ∀ p ∈ ob,p
 | [],_,_,p,hp=>by simp at hp
 | q :: ob,h,hc,p,hp=>by
  simp only [impAll] at h
  rcases List.mem_cons.1 hp with rfl | hp
  ·exact h _ (List.mem_cons_self ..) hc
  ·exact impAll_mem (fun r hr=>h r (List.mem_cons_of_mem _ hr)) hc p hp
theorem hasNat_add (l : List Nat) (g i : Nat) : hasNat (addNat l g) i = true ↔ (i = g ∨ hasNat l i = true):=by
 unfold addNat
 cases h : hasNat l g with
 | true =>
  simp only
  constructor
  ·exact .inr
  ·rintro (rfl | h2)
   ·exact h
   ·exact h2
 | false=>simp only [hasNat_mem,List.mem_cons]
theorem Sat.addG (h : Sat C ρ s a w) (g : Nat) : Sat C ρ { s with gs:=addNat s.gs g } a w :=
 ⟨h.n,h.slots,fun i g' pol c x hl=>⟨(hasNat_add _ _ _).2 (.inr (h.grds i g' pol c x hl).1),(h.grds i g' pol c x hl).2⟩,h.heap,h.inj,h.lt,h.defers,h.chg,h.rows,h.rowsD,h.pers,h.fix⟩
theorem put_W {s s' : St} {d : Option Nat} {v : RV} (h : s.put d v = some s') : s'.W = s.W:=by
 unfold St.put at h
 split at h
 ·cases h; rfl
 ·split at h
  ·cases h
  ·split at h
   ·cases h
   ·cases h; rfl
theorem put_next {s s' : St} {d : Option Nat} {v : RV} (h : s.put d v = some s') : s'.next = s.next:=by
 unfold St.put at h
 split at h
 ·cases h; rfl
 ·split at h
  ·cases h
  ·split at h
   ·cases h
   ·cases h; rfl
theorem put_ne {s s' : St} {d : Option Nat} {v : RV} {g : Nat} (h : s.put d v = some s') (hg : hasNat s.gs g = true) : d ≠ some g:=by
 rintro rfl
 simp only [St.put] at h
 split at h
 ·cases h
 ·rw [hg] at h; cases h
theorem stepO_sound {ob : List Prop} (h : Sat C ρ s a w) (ho : ops[i]? = some o) (hst : stepO C.P ops o s = some (s',ob)) (hob : ∀ p ∈ ob,p)
  (hk : ∀ ρ' a' w',Sat C ρ' s' a' w' → Ok C (.inRegion ops l :: k) a' w') : Ok C (.inRegion ops (i :: l) :: k) a w:=by
 unfold stepO at hst
 split at hst
 ·rename_i hg
  have hw:=grd_yes h hg
  split at hst
  ·rename_i v ob' hop
   split at hst
   ·rename_i s1 hput
    cases hst
    obtain ⟨e1,e2,e3⟩:=opPure_sound h.toP (GcOk.none s) o hop hob
    exact Ok.op_value ho hw e1 (hk ρ _ _ (h.put hput e2 (fun g pol c x e=>absurd e (e3 g pol c x))))
   ·cases hst
  ·split at hst
   ·rename_i v s1 hop
    split at hst
    ·rename_i s2 hput
     cases hst
     obtain ⟨ρ',w2,e1,e2,e3,e4,_⟩:=opMem_sound h (GcOk.none s) o hop
     exact Ok.op_value ho hw e1 (hk ρ' _ _ (e2.put hput e3 (fun g pol c x e=>absurd e (e4 g pol c x))))
    ·cases hst
   ·split at hst
    ·rename_i s1 hop
     split at hst
     ·rename_i hd
      cases hst
      obtain ⟨_,w2,_,_,e1,e2,_⟩:=opStore_sound h (GcOk.none s) o hop
      refine Ok.op_skip ho hw e1 ?_
      rw [hd]
      exact hk ρ _ _ e2
     ·cases hst
    ·cases hst
 ·rename_i hg
  split at hst
  ·rename_i s1 hput
   cases hst
   exact Ok.op_pass ho (grd_no h hg) (hk ρ _ _ (h.put (v:=.v (.one (.val undef))) hput trivial (fun g pol c x e=>by cases e)))
  ·cases hst
 ·rename_i g pol c hg
  obtain ⟨hl,hwt⟩:=grd_ask h hg
  split at hst
  ·rename_i x ob' hop
   split at hst
   ·rename_i s1 hput
    cases hst
    have h2:=h.addG g
    have hgs : hasNat (addNat s.gs g) g = true:=(hasNat_add _ _ _).2 (.inl rfl)
    by_cases hc : c = pol
    ·subst hc
     have hgc : GcOk s (some (g,c)):=fun g' pol' e=>by cases e; exact hl.true rfl
     obtain ⟨e1,e2,e3⟩:=opPure_sound h.toP hgc o hop (impAll_mem hob rfl)
     refine Ok.op_value ho (by rw [hwt]; simp) e1 ?_
     have hd : (RV.v x).den ρ = (RV.grd g c c x).den ρ:=by simp [RV.den]
     rw [hd]
     exact hk ρ _ _ (h2.put hput (fun _=>e2) (fun g' pol' c' x' e=>by cases e; exact ⟨hgs,hl,put_ne hput hgs⟩))
    ·refine Ok.op_pass ho (by rw [hwt]; simp [hc]) ?_
     have hd : undef = (RV.grd g pol c x).den ρ:=by simp [RV.den,hc]
     rw [hd]
     exact hk ρ _ _ (h2.put hput (fun e=>absurd e hc) (fun g' pol' c' x' e=>by cases e; exact ⟨hgs,hl,put_ne hput hgs⟩))
   ·cases hst
  ·cases hst
 ·cases hst
end
end Go.SX
end
section
namespace Go.SX
open Go
theorem allP_mem : ∀ {ob : List Prop},allP ob → ∀ p ∈ ob,p
 | [],_,p,hp=>by simp at hp
 | [q],h,p,hp=>by rw [List.mem_singleton.1 hp]; exact h
 | q :: r :: l,h,p,hp=>by
  rcases List.mem_cons.1 hp with rfl | hp
  ·exact h.1
  ·exact allP_mem h.2 p hp
section
variable {C : Ctx}
theorem V.of_step {c c' : Cfg} (h : V C c') (hs : ∀ (b : Frame) cs a w,Go.step C.P (lone (b.atR a c.todo) cs w) = .next (lone (b.atR a c'.todo) cs w)) (he : c'.st = c.st) : V C c :=
 fun ρ a w hS=>Ok.of_step (fun b cs _ _=>hs b cs a w) (h ρ a w (he ▸ hS))
theorem sstep_sound {c c' : Cfg} {ob : List Prop} (hs : sstep C.P c = some (c',ob)) (hob : ∀ p ∈ ob,p) (h : V C c') : V C c:=by
 obtain ⟨todo,st⟩:=c
 unfold sstep at hs
 simp only at hs
 split at hs
 ·cases hs; exact V.of_step h (fun b cs a w=>stepR_skip) rfl
 ·cases hs; exact V.of_step h (fun b cs a w=>stepR_label) rfl
 ·cases hs; exact V.of_step h (fun b cs a w=>stepR_inBlock) rfl
 ·cases hs; exact V.of_step h (fun b cs a w=>step_lone_go (by simp [stepG,stepG.exec,Frame.atR])) rfl
 ·cases hs; exact V.of_step h (fun b cs a w=>stepR_seq) rfl
 ·cases hs; exact V.of_step h (fun b cs a w=>stepR_block) rfl
 ·cases hs; exact V.of_step h (fun b cs a w=>step_lone_go (by simp [stepG,stepG.exec,Frame.atR])) rfl
 ·split at hs
  ·rename_i k' he
   cases hs; exact V.of_step h (fun b cs a w=>stepR_exit he) rfl
  ·cases hs
 ·split at hs
  ·rename_i k' he
   cases hs; exact V.of_step h (fun b cs a w=>stepR_goto he) rfl
  ·cases hs
 ·split at hs
  ·rename_i hev
   cases hs
   intro ρ a w hS
   obtain ⟨e1,_⟩:=ev_sound hS.toP (GcOk.none _) hev
   exact Ok.of_step (fun b cs _ _=>stepR_cond (t:=true) e1) (h ρ a w hS)
  ·rename_i hev
   cases hs
   intro ρ a w hS
   obtain ⟨e1,_⟩:=ev_sound hS.toP (GcOk.none _) hev
   exact Ok.of_step (fun b cs _ _=>stepR_cond (t:=false) e1) (h ρ a w hS)
  ·cases hs
 ·cases hs; exact V.of_step h (fun b cs a w=>stepR_region) rfl
 ·cases hs; exact V.of_step h (fun b cs a w=>stepR_region_end) rfl
 ·split at hs
  ·rename_i o ho
   split at hs
   ·rename_i s' ob' hst
    cases hs
    intro ρ a w hS
    exact stepO_sound hS ho hst hob (fun ρ' a' w' hS'=>h ρ' a' w' hS')
   ·cases hs
  ·cases hs
 ·cases hs
def resl (g : Nat) (b : Bool) : List (Nat × RV) → List (Nat × RV)
 | []=>[]
 | (k,v) :: l=>(k,match v with
  | .grd g' pol c x=>match Nat.beq g g' with
   | true=>match pol == b with
    | true=>.v x
    | false=>.v (.one (.val undef))
   | false=>.grd g' pol c x
  | v=>match Nat.beq k g with
   | true=>.v (.one (.bool b))
   | false=>v) :: resl g b l
def St.know (s : St) (g : Nat) (b : Bool) : St:={ s with slots:=resl g b s.slots }
theorem look_resl (g : Nat) (b : Bool) : ∀ (l : List (Nat × RV)) (i : Nat),look (resl g b l) i = (look l i).map fun v=>match v with
  | .grd g' pol c x=>match Nat.beq g g' with
   | true=>match pol == b with
    | true=>.v x
    | false=>.v (.one (.val undef))
   | false=>.grd g' pol c x
  | v=>match Nat.beq i g with
   | true=>.v (.one (.bool b))
   | false=>v
 | [],i=>rfl
 | (k,v) :: l,i=>by
  simp only [resl,look]
  cases hk : Nat.beq k i with
  | true=>have:=(beq_iff k i).1 hk; subst this; rfl
  | false=>exact look_resl g b l i
theorem Sat.know {ρ : Nat → Nat} {s : St} {a : Act} {w : World} {g : Nat} {b : Bool} (h : Sat C ρ s a w) (hl : look s.slots g = some (.v (.one (.sb b)))) : Sat C ρ (s.know g b) a w:=by
 refine ⟨h.n,?_,?_,h.heap,h.inj,h.lt,h.defers,h.chg,h.rows,h.rowsD,h.pers,h.fix⟩
 ·intro i v hv
  simp only [St.know,look_resl,Option.map_eq_some_iff] at hv
  obtain ⟨u,hu,rfl⟩:=hv
  obtain ⟨h1,h2⟩:=h.slots i u hu
  cases u with
  | grd g' pol c x =>
   simp only
   cases hg : Nat.beq g g' with
   | true =>
    have:=(beq_iff g g').1 hg
    subst this
    have h3:=(h.grds i g pol c x hu).2
    have h4:=h3.ofSb hl
    subst h4
    cases hp : pol == c with
    | true =>
     have : pol = c:=by simpa using hp
     subst this
     exact ⟨by rw [h1]; simp [RV.den],h2 rfl⟩
    | false =>
     have : c ≠ pol:=fun e=>by subst e; simp at hp
     exact ⟨by rw [h1]; simp [RV.den,this,CV.den,SV.den],trivial⟩
   | false=>exact ⟨h1,h2⟩
  | v x =>
   simp only
   cases hk : Nat.beq i g with
   | true =>
    have:=(beq_iff i g).1 hk
    subst this
    rw [hl] at hu
    cases hu
    exact ⟨h1,trivial⟩
   | false=>exact ⟨h1,h2⟩
  | tup xs =>
   simp only
   cases hk : Nat.beq i g with
   | true =>
    have:=(beq_iff i g).1 hk
    subst this
    rw [hl] at hu
    cases hu
   | false=>exact ⟨h1,h2⟩
 ·intro i g' pol c x hv
  simp only [St.know,look_resl,Option.map_eq_some_iff] at hv ⊢
  obtain ⟨u,hu,hv⟩:=hv
  cases u with
  | grd g2 pol2 c2 x2 =>
   simp only at hv
   cases hg : Nat.beq g g2 with
   | true =>
    rw [hg] at hv
    cases hp : pol2 == b <;> rw [hp] at hv <;> cases hv
   | false =>
    rw [hg] at hv
    cases hv
    obtain ⟨h1,h2⟩:=h.grds i g' pol c x hu
    have hne : Nat.beq g' g = false:=by
     cases hb : Nat.beq g' g with
     | true=>exact absurd ((beq_iff _ _).1 hb).symm (beq_false hg)
     | false=>rfl
    refine ⟨h1,?_⟩
    rcases h2 with ⟨y,b',e,hb,hc⟩ | ⟨g1,p1,c1,y,b',e,hb,hc⟩ | ⟨v,e,hc⟩
    ·exact .inl ⟨y,b',by rw [e]; simp only [Option.map_some,hne],hb,hc⟩
    ·cases hg1 : Nat.beq g g1 with
     | false=>exact .inr (.inl ⟨g1,p1,c1,y,b',by rw [e]; simp only [Option.map_some,hg1],hb,hc⟩)
     | true =>
      have e1:=(beq_iff g g1).1 hg1
      subst e1
      have hc1:=(h.grds g' g p1 c1 _ e).2.ofSb hl
      subst hc1
      cases hp : p1 == c1 with
      | true =>
       have : p1 = c1:=by simpa using hp
       subst this
       refine .inl ⟨y,b',by rw [e]; simp only [Option.map_some,hg1,hp],hb,?_⟩
       simpa using hc
      | false =>
       have : ¬ c1 = p1:=fun e=>by subst e; simp at hp
       refine .inr (.inr ⟨_,by rw [e]; simp only [Option.map_some,hg1,hp]; rfl,?_⟩)
       rw [hc]
       have hcp : (c1 == p1) = false:=by simpa using this
       rw [hcp]
       cases pol <;> simp
    ·exact .inr (.inr ⟨v,by rw [e]; simp only [Option.map_some,hne],hc⟩)
  | v x2 =>
   simp only at hv
   cases hk : Nat.beq i g <;> rw [hk] at hv <;> cases hv
  | tup x2 =>
   simp only at hv
   cases hk : Nat.beq i g <;> rw [hk] at hv <;> cases hv
def rootG (sl : List (Nat × RV)) : Nat → Nat → Option (Nat × Bool)
 | 0,_=>none
 | n + 1,g=>match look sl g with
  | some (.v (.one (.sb b)))=>some (g,b)
  | some (.grd g1 _ _ _)=>rootG sl n g1
  | _=>none
theorem rootG_look {sl : List (Nat × RV)} : ∀ {n g g' : Nat} {b : Bool},rootG sl n g = some (g',b) → look sl g' = some (.v (.one (.sb b)))
 | 0,_,_,_,h=>by cases h
 | n + 1,g,g',b,h=>by
  simp only [rootG] at h
  split at h
  ·rename_i hl; cases h; exact hl
  ·exact rootG_look h
  ·cases h
def condOf (c : Cfg) : Option (Nat × Bool) :=
 match c.todo with
 | .code (.cond (.tmp t) _ _) :: _=>match look c.st.slots t with
  | some (.v (.one (.sb b)))=>some (t,b)
  | _=>none
 | .inRegion ops (i :: _) :: _=>match ops[i]? with
  | some o=>match grdOf c.st ops o.guard with
   | .ask g _ _=>rootG c.st.slots 20 g
   | _=>none
  | none=>none
 | _=>none
def Cfg.know (c : Cfg) (g : Nat) (b : Bool) : Cfg:=⟨c.todo,c.st.know g b⟩
theorem condOf_look {c : Cfg} {g : Nat} {b : Bool} (h : condOf c = some (g,b)) : look c.st.slots g = some (.v (.one (.sb b))):=by
 unfold condOf at h
 split at h
 ·split at h
  ·rename_i hl; cases h; exact hl
  ·cases h
 ·split at h
  ·rename_i o ho
   split at h
   ·exact rootG_look h
   ·cases h
  ·cases h
 ·cases h
theorem V.branch (g : Nat) (b : Bool) {c : Cfg} (hc : condOf c = some (g,b)) (h1 : b = true → V C (c.know g true)) (h2 : b = false → V C (c.know g false)) : V C c:=by
 intro ρ a w hS
 have hl:=condOf_look hc
 cases b with
 | true=>exact h1 rfl ρ a w (hS.know hl)
 | false=>exact h2 rfl ρ a w (hS.know hl)
theorem V.known (g : Nat) (b : Bool) (b' : Bool) {c : Cfg} (hc : look c.st.slots g = some (.v (.one (.sb b)))) (hb : b = b') (h : V C (c.know g b')) : V C c:=by
 subst hb
 exact fun ρ a w hS=>h ρ a w (hS.know hc)
end
end Go.SX
end
section
namespace Go.SX
open Go
def evs (s : St) (gc : Option (Nat × Bool)) : List Operand → Option (List CV)
 | []=>some []
 | o :: l=>match ev s gc o with
  | some x=>match evs s gc l with
   | some xs=>some (x :: xs)
   | none=>none
  | none=>none
def calleeS (s : St) (gc : Option (Nat × Bool)) : Callee → Option (FuncId × List CV)
 | .value o=>match ev s gc o with
  | some (.one (.fn f cap))=>some (f,cap.map fun b=>.one (.ptr b 0))
  | some (.one (.val (.func (.func f) first cap)))=>match first.toList with
   | []=>some (f,cap.toList.map ofVal)
   | _=>none
  | _=>none
 | _=>none
def callOf (c : Cfg) : Option (Option (Nat × Bool × Bool) × FuncId × List CV) :=
 match c.todo with
 | .inRegion ops (i :: _) :: _=>match ops[i]? with
  | some o=>match o.op with
   | .call cl=>match grdOf c.st ops o.guard with
    | .yes=>match calleeS c.st none cl.callee,evs c.st none cl.args.toList with
     | some (f,caps),some xs=>some (none,f,xs ++ caps)
     | _,_=>none
    | .ask g pol b=>match calleeS c.st (some (g,pol)) cl.callee,evs c.st (some (g,pol)) cl.args.toList with
     | some (f,caps),some xs=>some (some (g,pol,b),f,xs ++ caps)
     | _,_=>none
    | _=>none
   | _=>none
  | none=>none
 | _=>none
def afterOp (c : Cfg) (s : St) (v : RV) : Option Cfg :=
 match c.todo with
 | .inRegion ops (i :: l) :: k=>match ops[i]? with
  | some o=>match s.put o.dst v with
   | some s'=>some ⟨.inRegion ops l :: k,s'⟩
   | none=>none
  | none=>none
 | _=>none
section
variable {C : Ctx} {ρ : Nat → Nat} {s : St} {a : Act} {w : World} {gc : Option (Nat × Bool)}
theorem evs_sound {W : WF} (h : SatP ρ s W a w) (hg : GcOk s gc) : ∀ {os : List Operand} {xs : List CV},evs s gc os = some xs →
  os.map a.eval = xs.map (CV.den ρ) ∧ ∀ x ∈ xs,x.wf W
 | [],xs,hc=>by
  simp only [evs,Option.some.injEq] at hc
  subst hc
  simp
 | o :: os,xs,hc=>by
  simp only [evs] at hc
  split at hc
  ·rename_i x hev
   split at hc
   ·rename_i xs' hbs
    cases hc
    obtain ⟨e1,e2⟩:=ev_sound h hg hev
    obtain ⟨i1,i2⟩:=evs_sound h hg hbs
    refine ⟨by simp only [List.map_cons,i1,e1],?_⟩
    intro c hc
    rcases List.mem_cons.1 hc with rfl | hc
    ·exact e2
    ·exact i2 c hc
   ·cases hc
  ·cases hc
theorem calleeS_sound {cl : Call} {t : TypeId} {f : FuncId} {caps xs : List CV} {P : Program} {W : WF} (h : SatP ρ s W a w) (hg : GcOk s gc) (h1 : calleeS s gc cl.callee = some (f,caps)) (h2 : evs s gc cl.args.toList = some xs)
  (hent : ∀ args w,(callFunc f args).run P w = .ok (.enter f args) w) :
  (do let d ← resolve a.eval cl t; invoke d.target d.args : Sem Next).run P w = .ok (.enter f ((xs ++ caps).map (CV.den ρ)).toArray) w:=by
 obtain ⟨callee,args,argTypes⟩:=cl
 have ha : args.map a.eval = (xs.map (CV.den ρ)).toArray:=by
  have:=(evs_sound h hg h2).1
  apply Array.ext'
  simpa using this
 unfold calleeS at h1
 split at h1
 ·rename_i o hcallee
  simp only at hcallee
  subst hcallee
  split at h1
  ·rename_i f' cap hev
   cases h1
   obtain ⟨e1,_⟩:=ev_sound h hg hev
   simp only [resolve,e1,CV.den,SV.den,Deferred.ofValue,Sem.run_bind,Sem.run_pure,Result.andThen_ok,invoke,ha,hent]
   congr 3
   simp [List.map_map,Function.comp_def,CV.den,SV.den]
  ·rename_i f' first cap hev
   split at h1
   ·rename_i hf
    cases h1
    have hfe : first = #[]:=by apply Array.ext'; simpa using hf
    subst hfe
    obtain ⟨e1,_⟩:=ev_sound h hg hev
    simp only [resolve,e1,CV.den,SV.den,Deferred.ofValue,Sem.run_bind,Sem.run_pure,Result.andThen_ok,invoke,ha,hent]
    congr 3
    have : (CV.den ρ ∘ ofVal) = id:=funext (ofVal_den ρ)
    simp [List.map_map,this]
   ·cases h1
  ·cases h1
 ·cases h1
theorem V.callM {c : Cfg} {f : FuncId} {xs : List CV} (hc : callOf c = some (none,f,xs)) (hent : ∀ args w,(callFunc f args).run C.P w = .ok (.enter f args) w)
  (h : ∀ ρ a w,Sat C ρ c.st a w → ∃ R',Calls C.P f (xs.map (CV.den ρ)).toArray w R' ∧
   ∀ e w',R' e w' → ∃ ρ' v s1 c',e = .returned (v.den ρ') ∧ Sat C ρ' s1 a w' ∧ v.wf s1.W ∧ (∀ g pol b x,v ≠ .grd g pol b x) ∧ afterOp c s1 v = some c' ∧ V C c') : V C c:=by
 intro ρ a w hS
 obtain ⟨todo,st⟩:=c
 unfold callOf at hc
 simp only at hc h hS ⊢
 split at hc
 ·rename_i ops i l k
  split at hc
  ·rename_i o ho
   split at hc
   ·rename_i cl hop
    split at hc
    ·rename_i hg
     split at hc
     ·rename_i f' caps ys h1 h2
      simp only [Option.some.injEq,Prod.mk.injEq,true_and] at hc
      obtain ⟨rfl,rfl⟩:=hc
      obtain ⟨R',hcalls,hR⟩:=h ρ a w hS
      have hr:=calleeS_sound (t:=o.type) hS.toP (GcOk.none st) h1 h2 hent
      refine Ok.op_call ho (grd_yes hS hg) (by unfold execOp; rw [hop]; exact hr) hcalls (fun e w2 hq=>?_)
      obtain ⟨ρ',v,s1,c',rfl,hS1,hv,hng,haf,hV⟩:=hR e w2 hq
      refine ⟨_,rfl,?_⟩
      simp only [afterOp,ho] at haf
      split at haf
      ·rename_i s' hput
       cases haf
       exact hV ρ' _ _ (hS1.put hput hv (fun g pol b x e=>absurd e (hng g pol b x)))
      ·cases haf
     ·cases hc
    ·split at hc <;> cases hc
    ·cases hc
   ·cases hc
  ·cases hc
 ·cases hc
theorem Sat.below (h : Sat C ρ s a w) {w' : World} (hc : Chg (fun _=>False) w w') : Sat C ρ s a w':=by
 have hb : ∀ k,k < w.heap.size → w'.heap[k]? = w.heap[k]?:=fun k hk=>hc.block k hk id
 refine ⟨h.n,h.slots,h.grds,?_,h.inj,fun b hb'=>Nat.lt_of_lt_of_le (h.lt b hb') hc.size,h.defers,h.chg.trans hc (fun i hi=>hi.elim),?_,h.rowsD,?_,h.fix⟩
 ·intro b blk hl
  obtain ⟨h1,h2,h3,h4⟩:=h.heap b blk hl
  exact ⟨h1,(hb _ (h.lt b h1)).trans h2,h3,h4⟩
 ·intro r R hR
  obtain ⟨h0,h1,h2⟩:=h.rows r R hR
  refine ⟨h0,h1.congr (fun k hk=>hb k (h2 k hk).1),fun k hk=>?_⟩
  obtain ⟨k1,k2,k3⟩:=h2 k hk
  exact ⟨Nat.lt_of_lt_of_le k1 hc.size,k2,k3⟩
 ·intro p hp
  obtain ⟨h1,h2,h3⟩:=h.pers p hp
  have hk : ∀ k,p.D k → w'.heap[k]? = w.heap[k]?:=fun k hD=>hb k (h3 k hD).1
  refine ⟨h2 _ hk,fun w2 hw2=>h2 w2 (fun k hD=>(hw2 k hD).trans (hk k hD)),fun k hD=>?_⟩
  obtain ⟨k1,k2,k3⟩:=h3 k hD
  exact ⟨Nat.lt_of_lt_of_le k1 hc.size,k2,k3⟩
def Gives (v : Value) (w : World) (e : Ending) (w' : World) : Prop:=e = .returned v ∧ Chg (fun _=>False) w w'
theorem V.call (f : FuncId) (xs : List CV) (v : RV) {c c' : Cfg} (hc : callOf c = some (none,f,xs)) (hent : ∀ args w,(callFunc f args).run C.P w = .ok (.enter f args) w)
  (haf : afterOp c c.st v = some c') (hv : v.wf c.st.W) (hng : ∀ g pol b x,v ≠ .grd g pol b x)
  (h : ∀ ρ a w,Sat C ρ c.st a w → Calls C.P f (xs.map (CV.den ρ)).toArray w (Gives (v.den ρ) w)) (k : V C c') : V C c:=by
 refine V.callM hc hent (fun ρ a w hS=>⟨_,h ρ a w hS,?_⟩)
 rintro e w' ⟨rfl,hch⟩
 exact ⟨ρ,v,c.st,c',rfl,hS.below hch,hv,hng,haf,k⟩
theorem V.callA (g : Nat) (pol b : Bool) (f : FuncId) (xs : List CV) (x : CV) {c c' : Cfg} (hc : callOf c = some (some (g,pol,b),f,xs)) (hent : ∀ args w,(callFunc f args).run C.P w = .ok (.enter f args) w)
  (haf : afterOp c { c.st with gs:=addNat c.st.gs g } (.grd g pol b x) = some c') (hv : x.wf c.st.W)
  (h : b = pol → ∀ ρ a w,Sat C ρ c.st a w → Calls C.P f (xs.map (CV.den ρ)).toArray w (Gives (x.den ρ) w)) (k : V C c') : V C c:=by
 intro ρ a w hS
 obtain ⟨todo,st⟩:=c
 unfold callOf at hc
 simp only at hc h hS haf hv ⊢
 split at hc
 ·rename_i ops i l k'
  split at hc
  ·rename_i o ho
   split at hc
   ·rename_i cl hop
    split at hc
    ·split at hc <;> cases hc
    ·rename_i g' pol' b' hg
     split at hc
     ·rename_i f' caps ys h1 h2
      simp only [Option.some.injEq,Prod.mk.injEq] at hc
      obtain ⟨⟨rfl,rfl,rfl⟩,rfl,rfl⟩:=hc
      obtain ⟨hl,hwt⟩:=grd_ask hS hg
      have hgs : hasNat (addNat st.gs g') g' = true:=(hasNat_add _ _ _).2 (.inl rfl)
      simp only [afterOp,ho] at haf
      split at haf
      ·rename_i s' hput
       cases haf
       by_cases hbp : b' = pol'
       ·subst hbp
        have hgc : GcOk st (some (g',b')):=fun g2 pol2 e=>by cases e; exact hl.true rfl
        have hr:=calleeS_sound (t:=o.type) hS.toP hgc h1 h2 hent
        refine Ok.op_call ho (by rw [hwt]; simp) (by unfold execOp; rw [hop]; exact hr) (h rfl ρ a w hS) (fun e w2 hq=>?_)
        obtain ⟨rfl,hch⟩:=hq
        refine ⟨_,rfl,?_⟩
        have hd : x.den ρ = (RV.grd g' b' b' x).den ρ:=by simp [RV.den]
        rw [hd]
        exact k ρ _ _ (((hS.below hch).addG g').put hput (fun _=>hv) (fun g2 pol2 c2 x2 e=>by cases e; exact ⟨hgs,hl,put_ne hput hgs⟩))
       ·refine Ok.op_pass ho (by rw [hwt]; simp [hbp]) ?_
        have hd : undef = (RV.grd g' pol' b' x).den ρ:=by simp [RV.den,hbp]
        rw [hd]
        exact k ρ _ _ ((hS.addG g').put hput (fun e=>absurd e hbp) (fun g2 pol2 c2 x2 e=>by cases e; exact ⟨hgs,hl,put_ne hput hgs⟩))
      ·cases haf
     ·cases hc
    ·cases hc
   ·cases hc
  ·cases hc
 ·cases hc
end
end Go.SX
end
section
namespace Go.SX
open Go
def resOne (P : Program) (s : St) : ResultVar → Option CV
 | .tmp t=>match look s.slots t with
  | some (.v x)=>some x
  | _=>none
 | .cell ad t=>match look s.slots ad with
  | some (.v (.one (.ptr b off)))=>match look s.heap b with
   | some blk=>cellsAt P t blk.cells off
   | none=>none
  | _=>none
def resList (P : Program) (s : St) : List ResultVar → Option (List CV)
 | []=>some []
 | r :: l=>match resOne P s r with
  | some x=>match resList P s l with
   | some xs=>some (x :: xs)
   | none=>none
  | none=>none
def resOf0 (P : Program) (f : FuncId) (s : St) : Option RV :=
 match P.funcs[f]? with
 | some fn=>match resList P s fn.results.toList with
  | some [x]=>some (.v x)
  | some xs=>some (.tup xs)
  | none=>none
 | none=>none
def resOf (P : Program) (f : FuncId) (s : St) : Option RV :=
 match s.defs with
 | _ :: _=>none
 | []=>resOf0 P f s
theorem resOf_0 {P : Program} {f : FuncId} {s : St} {v : RV} (h : resOf P f s = some v) : resOf0 P f s = some v ∧ s.defs = []:=by
 unfold resOf at h
 split at h
 ·cases h
 ·rename_i e; exact ⟨h,e⟩
def endR (C : Ctx) (s : St) : Option RV :=
 match C.round with
 | none=>resOf C.P C.f s
 | some _=>none
theorem endR_ok {C : Ctx} {s : St} {v : RV} (h : endR C s = some v) : C.round = none ∧ resOf C.P C.f s = some v:=by
 unfold endR at h
 split at h
 ·rename_i e; exact ⟨e,h⟩
 ·cases h
def isEnd (todo : List Item) : Bool :=
 match todo with
 | []=>true
 | .code .ret :: _=>true
 | _=>false
section
variable {C : Ctx} {ρ : Nat → Nat} {s : St} {a : Act} {w : World}
def loadRes (tmps : Array Value) : ResultVar → Sem Value
 | .tmp t=>pure (tmps.getD t undef)
 | .cell ad t=>do loadVar t (← asAddr (tmps.getD ad undef))
theorem results_eq (fn : Func) (tmps : Array Value) : results fn tmps = (do
  let vs ← fn.results.mapM (loadRes tmps)
  pure (if h : vs.size = 1 then vs[0] else .tuple vs)):=by
 unfold results
 congr
theorem resOne_sound (h : Sat C ρ s a w) {r : ResultVar} {x : CV} (hr : resOne C.P s r = some x) : (loadRes a.tmps r).run C.P w = .ok (x.den ρ) w:=by
 cases r with
 | tmp t =>
  simp only [resOne] at hr
  split at hr
  ·rename_i y hl
   cases hr
   have:=(h.slots t _ hl).1
   simp only [loadRes,Sem.run_pure,Array.getD_eq_getD_getElem?,this]
   rfl
  ·cases hr
 | cell ad t =>
  simp only [resOne] at hr
  split at hr
  ·rename_i b off hl
   split at hr
   ·rename_i blk hb
    obtain ⟨h1,h2,h3,h4⟩:=h.heap b blk hb
    obtain ⟨l1,l2⟩:=cellsAt_load (ρ:=ρ) (w:=w) hr s.W h3 h2
    have:=(h.slots ad _ hl).1
    simp only [loadRes,Sem.run_bind,Array.getD_eq_getD_getElem?,this,Option.getD_some]
    simp only [RV.den,CV.den,SV.den,asAddr,Sem.run_pure,Result.andThen_ok]
    exact l1
   ·cases hr
  ·cases hr
theorem resList_sound (h : Sat C ρ s a w) : ∀ {l : List ResultVar} {xs : List CV},resList C.P s l = some xs →
  (l.mapM (loadRes a.tmps)).run C.P w = .ok (xs.map (CV.den ρ)) w
 | [],xs,hr=>by
  simp only [resList,Option.some.injEq] at hr
  subst hr
  simp
 | r :: l,xs,hr=>by
  simp only [resList] at hr
  split at hr
  ·rename_i x hx
   split at hr
   ·rename_i ys hys
    cases hr
    have h1:=resOne_sound h hx
    have h2:=resList_sound h hys
    simp only [List.mapM_cons,Sem.run_bind,h1,Result.andThen_ok,h2,Sem.run_pure,List.map_cons]
   ·cases hr
  ·cases hr
theorem resOf_sound (h : Sat C ρ s a w) {v : RV} (hr : resOf0 C.P C.f s = some v) :
  ∃ fn,C.P.funcs[C.f]? = some fn ∧ (results fn a.tmps).run C.P w = .ok (v.den ρ) w:=by
 unfold resOf0 at hr
 split at hr
 ·rename_i fn hfn
  refine ⟨fn,hfn,?_⟩
  rw [results_eq,Array.mapM_eq_mapM_toList]
  split at hr
  ·rename_i x hx
   cases hr
   have h1:=resList_sound h hx
   simp only [Sem.run_bind,Sem.run_map,h1,Result.andThen_ok]
   rfl
  ·rename_i xs hne hx
   cases hr
   have h1:=resList_sound h hx
   simp only [Sem.run_bind,Sem.run_map,h1,Result.andThen_ok,Sem.run_pure]
   have : ¬ (xs.map (CV.den ρ)).toArray.size = 1:=by
    intro e
    simp only [List.size_toArray,List.length_map] at e
    match xs,e with
    | [y],_=>exact hne y rfl
   rw [dif_neg this]
   rfl
  ·cases hr
 ·cases hr
theorem V.ret (v : RV) {c : Cfg} (hr : endR C c.st = some v) (he : isEnd c.todo = true)
  (h : ∀ ρ a w,Sat C ρ c.st a w → C.R (.returned (v.den ρ)) w) : V C c:=by
 intro ρ a w hS b hb hk hro cs _
 obtain ⟨hrd,hr⟩:=endR_ok hr
 obtain ⟨hr0,hd⟩:=resOf_0 hr
 obtain ⟨fn,hfn,hres⟩:=resOf_sound hS hr0
 have hro' : b.roundOf = none:=hro.trans hrd
 have hdef : a.defers = []:=hS.defers.trans hd
 obtain ⟨todo,st⟩:=c
 simp only at he
 unfold isEnd at he
 split at he
 ·exact ⟨_,w,h ρ a w hS,by unfold Fin; rw [hrd]; exact ⟨_,.one (stepR_end hro'),hb,rfl,hdef,hk,fn,by show C.P.funcs[b.fn]? = some fn; rw [hb]; exact hfn,hres⟩⟩
 ·exact ⟨_,w,h ρ a w hS,by unfold Fin; rw [hrd]; exact ⟨_,.one (stepR_ret hro'),hb,rfl,hdef,hk,fn,by show C.P.funcs[b.fn]? = some fn; rw [hb]; exact hfn,hres⟩⟩
 ·cases he
def iter (c : Cfg) : Cfg :=
 match c.todo with
 | .inLoop b :: k=>⟨.code b :: .inLoop b :: k,c.st⟩
 | .code (.loop b) :: k=>⟨.code b :: .inLoop b :: k,c.st⟩
 | _=>c
theorem V.iter {c : Cfg} (h : V C (iter c)) : V C c:=by
 obtain ⟨todo,st⟩:=c
 unfold SX.iter at h
 split at h
 ·rename_i e; simp only at e; subst e; exact V.of_step h (fun _ _ _ _=>stepR_inLoop) rfl
 ·rename_i e; simp only at e; subst e; exact V.of_step h (fun _ _ _ _=>stepR_loop) rfl
 ·exact h
theorem iter_st (c : Cfg) : (iter c).st = c.st:=by
 unfold iter; split <;> rfl
def idx : List Nat → Nat → Nat → Option Nat
 | [],_,_=>none
 | h :: l,b,i=>match Nat.beq h b with
  | true=>some i
  | false=>idx l b (i + 1)
def idxs (hs : List Nat) : List Nat → Option (List Nat)
 | []=>some []
 | b :: l=>match idx hs b 0 with
  | some i=>match idxs hs l with
   | some is=>some (i :: is)
   | none=>none
  | none=>none
def SV.ren (hs rs : List Nat) : SV → Option SV
 | .ptr b off=>match idx hs b 0 with
  | some i=>some (.ptr i off)
  | none=>none
 | .fn f cap=>match idxs hs cap with
  | some is=>some (.fn f is)
  | none=>none
 | .sli b n cap=>match idx hs b 0 with
  | some i=>some (.sli i n cap)
  | none=>none
 | .row r q n cap=>match idx rs r 0 with
  | some i=>some (.row i q n cap)
  | none=>none
 | .el r q size i j=>match idx rs r 0 with
  | some r'=>some (.el r' q size i j)
  | none=>none
 | x=>some x
def renL (hs rs : List Nat) : List SV → Option (List SV)
 | []=>some []
 | x :: l=>match x.ren hs rs with
  | some y=>match renL hs rs l with
   | some ys=>some (y :: ys)
   | none=>none
  | none=>none
def CV.ren (hs rs : List Nat) : CV → Option CV
 | .one x=>match x.ren hs rs with
  | some y=>some (.one y)
  | none=>none
 | .agg xs=>match renL hs rs xs with
  | some ys=>some (.agg ys)
  | none=>none
def renC (hs rs : List Nat) : List CV → Option (List CV)
 | []=>some []
 | x :: l=>match x.ren hs rs with
  | some y=>match renC hs rs l with
   | some ys=>some (y :: ys)
   | none=>none
  | none=>none
def RV.ren (hs rs : List Nat) : RV → Option RV
 | .v x=>match x.ren hs rs with
  | some y=>some (.v y)
  | none=>none
 | .tup xs=>match renC hs rs xs with
  | some ys=>some (.tup ys)
  | none=>none
 | .grd _ _ _ _=>none
def pickSlots (hs rs : List Nat) (sl : List (Nat × RV)) : List Nat → Option (List (Nat × RV))
 | []=>some []
 | k :: l=>match look sl k with
  | some v=>match v.ren hs rs with
   | some u=>match pickSlots hs rs sl l with
    | some r=>some ((k,u) :: r)
    | none=>none
   | none=>none
  | none=>none
def pickHeap (hs rs : List Nat) (hp : List (Nat × Blk)) : List Nat → Nat → Option (List (Nat × Blk))
 | [],_=>some []
 | b :: l,i=>match look hp b with
  | some blk=>match renL hs rs blk.cells with
   | some cs=>match pickHeap hs rs hp l (i + 1) with
    | some r=>some ((i,⟨cs,blk.elem,blk.rw⟩) :: r)
    | none=>none
   | none=>none
  | none=>none
def pickRows (rows : List (Nat × Row)) : List Nat → Nat → Option (List (Nat × Row))
 | [],_=>some []
 | r :: l,i=>match look rows r with
  | some R=>match pickRows rows l (i + 1) with
   | some q=>some ((i,R) :: q)
   | none=>none
  | none=>none
def keepP : List Bool → List Pers → List Pers
 | true :: m,x :: l=>x :: keepP m l
 | false :: m,_ :: l=>keepP m l
 | [],_=>[]
 | _ :: _,[]=>[]
def noDup : List Nat → Bool
 | []=>true
 | b :: l=>match hasNat l b with
  | true=>false
  | false=>noDup l
def preN : Nat → List Nat → Nat → Bool
 | 0,_,_=>true
 | n + 1,b :: l,i=>match Nat.beq b i with
  | true=>preN n l (i + 1)
  | false=>false
 | _ + 1,[],_=>false
def fxOf (n : Nat) (hs : List Nat) : Nat :=
 match preN n hs 0 with
 | true=>n
 | false=>0
theorem preN_spec : ∀ {n : Nat} {l : List Nat} {i b : Nat},preN n l i = true → b < n → l[b]? = some (i + b)
 | n + 1,c :: l,i,b,h,hb=>by
  simp only [preN] at h
  split at h
  ·rename_i e
   have:=(beq_iff _ _).1 e
   subst this
   cases b with
   | zero=>simp
   | succ b =>
    have:=preN_spec h (show b < n by omega)
    simp only [List.getElem?_cons_succ,this]
    congr 1
    omega
  ·cases h
 | _ + 1,[],_,_,h,_=>by cases h
 | 0,_,_,b,_,hb=>absurd hb (Nat.not_lt_zero b)
theorem fxOf_spec {n : Nat} {hs : List Nat} {b : Nat} (hb : b < fxOf n hs) : b < n ∧ hs[b]? = some b:=by
 unfold fxOf at hb
 split at hb
 ·rename_i e
  exact ⟨hb,by simpa using preN_spec e hb⟩
 ·exact absurd hb (Nat.not_lt_zero b)
def pickSt (ks hs rs : List Nat) (pm : List Bool) (s : St) : Option St :=
 match noDup hs,noDup rs,pickSlots hs rs s.slots ks,pickHeap hs rs s.heap hs 0,pickRows s.rows rs 0 with
 | true,true,some sl,some hp,some rows=>some { n:=s.n,slots:=sl,gs:=[],heap:=hp,next:=hs.length,rows:=rows,nr:=rs.length,pers:=keepP pm s.pers,wr:=s.wr,fx:=fxOf s.fx hs,defs:=s.defs }
 | _,_,_,_,_=>none
theorem idx_spec : ∀ {hs : List Nat} {b i j : Nat},idx hs b i = some j → ∃ n,j = i + n ∧ hs[n]? = some b
 | [],b,i,j,h=>by simp [idx] at h
 | h0 :: l,b,i,j,h=>by
  simp only [idx] at h
  split at h
  ·rename_i e
   cases h
   exact ⟨0,rfl,by simp [(beq_iff _ _).1 e]⟩
  ·obtain ⟨n,h1,h2⟩:=idx_spec h
   exact ⟨n + 1,by omega,by simpa using h2⟩
theorem idx_ok {hs : List Nat} {b j : Nat} (h : idx hs b 0 = some j) : hs[j]? = some b ∧ j < hs.length:=by
 obtain ⟨n,h1,h2⟩:=idx_spec h
 have : j = n:=by omega
 subst this
 exact ⟨h2,(List.getElem?_eq_some_iff.1 h2).1⟩
theorem idxs_ok {hs : List Nat} : ∀ {l is : List Nat},idxs hs l = some is → is.map (fun i=>hs.getD i 0) = l ∧ ∀ i ∈ is,i < hs.length
 | [],is,h=>by simp only [idxs,Option.some.injEq] at h; subst h; simp
 | b :: l,is,h=>by
  simp only [idxs] at h
  split at h
  ·rename_i i hi
   split at h
   ·rename_i js hjs
    cases h
    obtain ⟨h1,h2⟩:=idx_ok hi
    obtain ⟨h3,h4⟩:=idxs_ok hjs
    refine ⟨by simp only [List.map_cons,h3]; simp [List.getD,h1],?_⟩
    intro j hj
    rcases List.mem_cons.1 hj with rfl | hj
    ·exact h2
    ·exact h4 j hj
   ·cases h
  ·cases h
def RowsRen (rs : List Nat) (W W' : WF) : Prop:=∀ (r' r : Nat) (R : Row),rs[r']? = some r → look W'.rows r' = some R → look W.rows r = some R
section ren
variable {hs rs : List Nat} {W W' : WF} (hn : W'.n = hs.length) (hnr : W'.nr = rs.length) (hR : RowsRen rs W W')
include hn hnr hR
theorem SV.ren_ok {x y : SV} (h : x.ren hs rs = some y) : y.den (fun i=>ρ (hs.getD i 0)) = x.den ρ ∧ (x.wf W → y.wf W'):=by
 cases x with
 | ptr b off =>
  simp only [SV.ren] at h
  split at h
  ·rename_i i hi
   cases h
   obtain ⟨h1,h2⟩:=idx_ok hi
   exact ⟨by simp [SV.den,List.getD,h1],fun _=>by show i < W'.n; omega⟩
  ·cases h
 | fn f cap =>
  simp only [SV.ren] at h
  split at h
  ·rename_i is hi
   cases h
   obtain ⟨h1,h2⟩:=idxs_ok hi
   refine ⟨?_,fun _ c hc=>by have:=h2 c hc; omega⟩
   simp only [SV.den]
   congr 2
   rw [← h1,List.map_map]
   rfl
  ·cases h
 | sli b n cap =>
  simp only [SV.ren] at h
  split at h
  ·rename_i i hi
   cases h
   obtain ⟨h1,h2⟩:=idx_ok hi
   exact ⟨by simp [SV.den,List.getD,h1],fun _=>by show i < W'.n; omega⟩
  ·cases h
 | row r q n cap =>
  simp only [SV.ren] at h
  split at h
  ·rename_i i hi
   cases h
   obtain ⟨h1,h2⟩:=idx_ok hi
   exact ⟨rfl,fun hw=>⟨by omega,fun R hR'=>hw.2 R (hR i r R h1 hR')⟩⟩
  ·cases h
 | el r q size i j =>
  simp only [SV.ren] at h
  split at h
  ·rename_i i hi
   cases h
   obtain ⟨h1,h2⟩:=idx_ok hi
   exact ⟨rfl,fun hw=>⟨by omega,fun R hR'=>hw.2 R (hR i r R h1 hR')⟩⟩
  ·cases h
 | _ =>
  simp only [SV.ren,Option.some.injEq] at h
  subst h
  exact ⟨rfl,fun _=>trivial⟩
theorem renL_ok : ∀ {l m : List SV},renL hs rs l = some m → m.map (SV.den (fun i=>ρ (hs.getD i 0))) = l.map (SV.den ρ) ∧ ((∀ x ∈ l,x.wf W) → ∀ x ∈ m,x.wf W')
 | [],m,h=>by simp only [renL,Option.some.injEq] at h; subst h; simp
 | x :: l,m,h=>by
  simp only [renL] at h
  split at h
  ·rename_i y hy
   split at h
   ·rename_i ys hys
    cases h
    obtain ⟨h1,h2⟩:=SV.ren_ok (ρ:=ρ) hn hnr hR hy
    obtain ⟨h3,h4⟩:=renL_ok hys
    refine ⟨by simp only [List.map_cons,h1,h3],?_⟩
    intro hw j hj
    rcases List.mem_cons.1 hj with rfl | hj
    ·exact h2 (hw x (List.mem_cons_self ..))
    ·exact h4 (fun z hz=>hw z (List.mem_cons_of_mem _ hz)) j hj
   ·cases h
  ·cases h
theorem CV.ren_ok {x y : CV} (h : x.ren hs rs = some y) : y.den (fun i=>ρ (hs.getD i 0)) = x.den ρ ∧ (x.wf W → y.wf W'):=by
 cases x with
 | one x =>
  simp only [CV.ren] at h
  split at h
  ·rename_i z hz; cases h; exact SV.ren_ok hn hnr hR hz
  ·cases h
 | agg xs =>
  simp only [CV.ren] at h
  split at h
  ·rename_i z hz
   cases h
   obtain ⟨h1,h2⟩:=renL_ok (ρ:=ρ) hn hnr hR hz
   exact ⟨by simp only [CV.den,h1],h2⟩
  ·cases h
theorem renC_ok : ∀ {l m : List CV},renC hs rs l = some m → m.map (CV.den (fun i=>ρ (hs.getD i 0))) = l.map (CV.den ρ) ∧ ((∀ x ∈ l,x.wf W) → ∀ x ∈ m,x.wf W')
 | [],m,h=>by simp only [renC,Option.some.injEq] at h; subst h; simp
 | x :: l,m,h=>by
  simp only [renC] at h
  split at h
  ·rename_i y hy
   split at h
   ·rename_i ys hys
    cases h
    obtain ⟨h1,h2⟩:=CV.ren_ok (ρ:=ρ) hn hnr hR hy
    obtain ⟨h3,h4⟩:=renC_ok hys
    refine ⟨by simp only [List.map_cons,h1,h3],?_⟩
    intro hw j hj
    rcases List.mem_cons.1 hj with rfl | hj
    ·exact h2 (hw x (List.mem_cons_self ..))
    ·exact h4 (fun z hz=>hw z (List.mem_cons_of_mem _ hz)) j hj
   ·cases h
  ·cases h
theorem RV.ren_ok {x y : RV} (h : x.ren hs rs = some y) : y.den (fun i=>ρ (hs.getD i 0)) = x.den ρ ∧ (x.wf W → y.wf W') ∧ ∀ g pol c z,y ≠ .grd g pol c z:=by
 cases x with
 | v x =>
  simp only [RV.ren] at h
  split at h
  ·rename_i z hz
   cases h
   obtain ⟨h1,h2⟩:=CV.ren_ok (ρ:=ρ) hn hnr hR hz
   exact ⟨h1,h2,by simp⟩
  ·cases h
 | tup xs =>
  simp only [RV.ren] at h
  split at h
  ·rename_i z hz
   cases h
   obtain ⟨h1,h2⟩:=renC_ok (ρ:=ρ) hn hnr hR hz
   exact ⟨by simp only [RV.den,h1],h2,by simp⟩
  ·cases h
 | grd=>simp [RV.ren] at h
end ren
theorem pickSlots_ok {hs rs : List Nat} {sl : List (Nat × RV)} : ∀ {ks : List Nat} {r : List (Nat × RV)},pickSlots hs rs sl ks = some r → ∀ i u,look r i = some u → ∃ v,look sl i = some v ∧ v.ren hs rs = some u
 | [],r,h,i,u,hl=>by simp only [pickSlots,Option.some.injEq] at h; subst h; simp [look] at hl
 | k :: ks,r,h,i,u,hl=>by
  simp only [pickSlots] at h
  split at h
  ·rename_i v hv
   split at h
   ·rename_i x hx
    split at h
    ·rename_i r' hr'
     cases h
     simp only [look] at hl
     split at hl
     ·rename_i e
      cases hl
      have:=(beq_iff _ _).1 e
      subst this
      exact ⟨v,hv,hx⟩
     ·exact pickSlots_ok hr' i u hl
    ·cases h
   ·cases h
  ·cases h
theorem pickHeap_ok {hs rs : List Nat} {hp : List (Nat × Blk)} : ∀ {l : List Nat} {i0 : Nat} {r : List (Nat × Blk)},pickHeap hs rs hp l i0 = some r →
  ∀ i blk,look r i = some blk → ∃ b blk0,i0 ≤ i ∧ l[i - i0]? = some b ∧ look hp b = some blk0 ∧ renL hs rs blk0.cells = some blk.cells ∧ blk.elem = blk0.elem ∧ blk.rw = blk0.rw
 | [],i0,r,h,i,blk,hl=>by simp only [pickHeap,Option.some.injEq] at h; subst h; simp [look] at hl
 | b :: l,i0,r,h,i,blk,hl=>by
  simp only [pickHeap] at h
  split at h
  ·rename_i blk0 hb
   split at h
   ·rename_i cs hcs
    split at h
    ·rename_i r' hr'
     cases h
     simp only [look] at hl
     split at hl
     ·rename_i e
      cases hl
      have:=(beq_iff _ _).1 e
      subst this
      exact ⟨b,blk0,Nat.le_refl _,by simp,hb,hcs,rfl,rfl⟩
     ·obtain ⟨b',blk',h1,h2,h3⟩:=pickHeap_ok hr' i blk hl
      refine ⟨b',blk',by omega,?_,h3⟩
      rw [show i - i0 = (i - (i0 + 1)) + 1 by omega]
      simpa using h2
    ·cases h
   ·cases h
  ·cases h
theorem pickRows_ok {rows : List (Nat × Row)} : ∀ {l : List Nat} {i0 : Nat} {q : List (Nat × Row)},pickRows rows l i0 = some q →
  ∀ i R,look q i = some R → ∃ r,i0 ≤ i ∧ l[i - i0]? = some r ∧ look rows r = some R
 | [],i0,q,h,i,R,hl=>by simp only [pickRows,Option.some.injEq] at h; subst h; simp [look] at hl
 | b :: l,i0,q,h,i,R,hl=>by
  simp only [pickRows] at h
  split at h
  ·rename_i R0 hb
   split at h
   ·rename_i q' hq'
    cases h
    simp only [look] at hl
    split at hl
    ·rename_i e
     cases hl
     have:=(beq_iff _ _).1 e
     subst this
     exact ⟨b,Nat.le_refl _,by simp,hb⟩
    ·obtain ⟨r,h1,h2,h3⟩:=pickRows_ok hq' i R hl
     refine ⟨r,by omega,?_,h3⟩
     rw [show i - i0 = (i - (i0 + 1)) + 1 by omega]
     simpa using h2
   ·cases h
  ·cases h
theorem noDup_ok : ∀ {l : List Nat},noDup l = true → l.Nodup
 | [],_=>List.nodup_nil
 | b :: l,h=>by
  simp only [noDup] at h
  split at h
  ·cases h
  ·rename_i hn
   refine List.nodup_cons.2 ⟨fun hm=>?_,noDup_ok h⟩
   rw [(hasNat_mem l b).2 hm] at hn
   cases hn
theorem nodup_inj {l : List Nat} (h : l.Nodup) {i j x : Nat} (hi : l[i]? = some x) (hj : l[j]? = some x) : i = j:=by
 obtain ⟨h1,h2⟩:=List.getElem?_eq_some_iff.1 hi
 obtain ⟨h3,h4⟩:=List.getElem?_eq_some_iff.1 hj
 exact (List.getElem_inj h).1 (h2.trans h4.symm)
theorem keepP_sub : ∀ (m : List Bool) (l : List Pers),∀ p ∈ keepP m l,p ∈ l
 | true :: m,x :: l,p,hp=>by
  simp only [keepP] at hp
  rcases List.mem_cons.1 hp with rfl | hp
  ·exact List.mem_cons_self ..
  ·exact List.mem_cons_of_mem _ (keepP_sub m l p hp)
 | false :: m,x :: l,p,hp=>List.mem_cons_of_mem _ (keepP_sub m l p hp)
 | [],l,p,hp=>by simp [keepP] at hp
 | _ :: _,[],p,hp=>by simp [keepP] at hp
theorem Sat.pick (h : Sat C ρ s a w) {ks hs rs : List Nat} {pm : List Bool} {s' : St} (hp : pickSt ks hs rs pm s = some s') :
  Sat C (fun i=>ρ (hs.getD i 0)) s' a w:=by
 unfold pickSt at hp
 split at hp
 ·rename_i sl hpp rows hnd hndr hsl hhp hrows
  cases hp
  have hlook : ∀ b,b ∈ hs → ∃ blk,look s.heap b = some blk:=by
   intro b hb
   have : ∀ (l : List Nat) (i0 : Nat) (r : List (Nat × Blk)),pickHeap hs rs s.heap l i0 = some r → ∀ b ∈ l,∃ blk,look s.heap b = some blk:=by
    intro l
    induction l with
    | nil=>intro i0 r _ b hb; simp at hb
    | cons c l ih =>
     intro i0 r hr b hb
     simp only [pickHeap] at hr
     split at hr
     ·rename_i blk hc
      split at hr
      ·split at hr
       ·rename_i r' hr'
        rcases List.mem_cons.1 hb with rfl | hb
        ·exact ⟨blk,hc⟩
        ·exact ih _ _ hr' b hb
       ·cases hr
      ·cases hr
     ·cases hr
   exact this hs 0 hpp hhp b hb
  have hltn : ∀ i,i < hs.length → hs.getD i 0 < s.next:=by
   intro i hi
   have hm : hs.getD i 0 ∈ hs:=by simp [List.getD,List.getElem?_eq_getElem hi]
   obtain ⟨blk,hb⟩:=hlook _ hm
   exact (h.heap _ blk hb).1
  have hRR : RowsRen rs s.W ⟨hs.length,rs.length,rows⟩:=by
   intro r' r R hr hl
   obtain ⟨r2,_,h2,h3⟩:=pickRows_ok hrows r' R hl
   simp only [Nat.sub_zero] at h2
   rw [hr] at h2
   cases h2
   exact h3
  refine ⟨h.n,?_,?_,?_,?_,?_,h.defers,h.chg,?_,?_,?_,fun b hb=>?_⟩
  ·intro i u hu
   obtain ⟨v,hv,hr⟩:=pickSlots_ok hsl i u hu
   obtain ⟨r1,r2,r3⟩:=RV.ren_ok (ρ:=ρ) (W:=s.W) (W':=⟨hs.length,rs.length,rows⟩) rfl rfl hRR hr
   exact ⟨by rw [r1]; exact (h.slots i v hv).1,r2 (h.slots i v hv).2⟩
  ·intro i g pol c x hu
   obtain ⟨v,hv,hr⟩:=pickSlots_ok hsl i _ hu
   exact absurd rfl ((RV.ren_ok (ρ:=ρ) (W:=s.W) (W':=⟨hs.length,rs.length,rows⟩) rfl rfl hRR hr).2.2 g pol c x)
  ·intro i blk hl
   obtain ⟨b,blk0,h1,h2,h3,h4,h5,h6⟩:=pickHeap_ok hhp i blk hl
   simp only [Nat.sub_zero] at h2
   obtain ⟨k1,k2,k3,k4⟩:=h.heap b blk0 h3
   obtain ⟨r1,r2⟩:=renL_ok (ρ:=ρ) (W:=s.W) (W':=⟨hs.length,rs.length,rows⟩) rfl rfl hRR h4
   have hg : hs.getD i 0 = b:=by simp [List.getD,h2]
   refine ⟨(List.getElem?_eq_some_iff.1 h2).1,?_,r2 k3,?_⟩
   ·simp only [hg,r1,h5]; exact k2
   ·simp only [hg,h6]; exact k4
  ·intro i j hi hj he
   have e:=h.inj _ _ (hltn i hi) (hltn j hj) he
   have hi' : i < hs.length:=hi
   have hj' : j < hs.length:=hj
   simp only [List.getD,List.getElem?_eq_getElem hi',List.getElem?_eq_getElem hj',Option.getD_some] at e
   exact (List.getElem_inj (noDup_ok hnd)).1 e
  ·intro i hi; exact h.lt _ (hltn i hi)
  ·intro r R hR
   obtain ⟨r2,_,h2,h3⟩:=pickRows_ok hrows r R hR
   simp only [Nat.sub_zero] at h2
   obtain ⟨_,h1,h4⟩:=h.rows r2 R h3
   exact ⟨(List.getElem?_eq_some_iff.1 h2).1,h1,fun k hk=>⟨(h4 k hk).1,fun i hi=>(h4 k hk).2.1 _ (hltn i hi),(h4 k hk).2.2⟩⟩
  ·intro r r' R R' hR hR' hne
   obtain ⟨r2,_,h2,h3⟩:=pickRows_ok hrows r R hR
   obtain ⟨r2',_,h2',h3'⟩:=pickRows_ok hrows r' R' hR'
   simp only [Nat.sub_zero] at h2 h2'
   exact h.rowsD r2 r2' R R' h3 h3' (fun e=>hne (by subst e; exact nodup_inj (noDup_ok hndr) h2 h2'))
  ·intro p hp
   obtain ⟨h1,h2,h3⟩:=h.pers p (keepP_sub _ _ p hp)
   refine ⟨h1,h2,fun k hD=>⟨(h3 k hD).1,fun i hi=>(h3 k hD).2.1 _ (hltn i hi),fun r R hR=>?_⟩⟩
   obtain ⟨r2,_,_,h3'⟩:=pickRows_ok hrows r R hR
   exact (h3 k hD).2.2 r2 R h3'
  ·obtain ⟨f1,f2⟩:=fxOf_spec hb
   refine ⟨(List.getElem?_eq_some_iff.1 f2).1,?_⟩
   have : hs.getD b 0 = b:=by simp [List.getD,f2]
   rw [this]
   exact (h.fix b f1).2
 ·cases hp
theorem V.pick (ks hs rs : List Nat) (pm : List Bool) (s' : St) {c : Cfg} (hp : pickSt ks hs rs pm c.st = some s') (h : V C ⟨c.todo,s'⟩) : V C c :=
 fun _ a w hS=>h _ a w (hS.pick hp)
theorem V.loop {ι : Type} {T : List Item} (μ : ι → Nat) (st : ι → St) (pre : ι → Prop)
  (hstep : ∀ i,pre i → (∀ j,pre j → μ j < μ i → V C ⟨T,st j⟩) → V C ⟨T,st i⟩) (i : ι) (hi : pre i) : V C ⟨T,st i⟩:=by
 have key : ∀ n i,μ i = n → pre i → V C ⟨T,st i⟩:=by
  intro n
  induction n using Nat.strongRecOn with
  | _ n ih =>
   intro i hn hp
   exact hstep i hp (fun j hj hlt=>ih (μ j) (hn ▸ hlt) j rfl hj)
 exact key _ i rfl hi
theorem V.loopAt (ks hs rs : List Nat) (pm : List Bool) {ι : Type} (μ : ι → Nat) (st : ι → St) (pre : ι → Prop) (i : ι) {c : Cfg}
  (hp : pickSt ks hs rs pm c.st = some (st i)) (hi : pre i)
  (hstep : ∀ i,pre i → (∀ j,pre j → μ j < μ i → V C ⟨(SX.iter c).todo,st j⟩) → V C ⟨(SX.iter c).todo,st i⟩) : V C c:=by
 refine V.iter ?_
 refine V.pick ks hs rs pm (st i) (by rw [iter_st]; exact hp) ?_
 exact V.loop μ st pre hstep i hi
theorem V.again (ks hs rs : List Nat) (pm : List Bool) {T : List Item} {s' : St} {c : Cfg} (h : V C ⟨T,s'⟩) (hT : (SX.iter c).todo = T)
  (hp : pickSt ks hs rs pm c.st = some s') : V C c:=by
 refine V.iter ?_
 refine V.pick ks hs rs pm s' (by rw [iter_st]; exact hp) ?_
 rw [hT]; exact h
def enum : List CV → Nat → List (Nat × RV)
 | [],_=>[]
 | x :: l,i=>(i,.v x) :: enum l (i + 1)
theorem look_enum : ∀ (l : List CV) (i j : Nat) (v : RV),look (enum l i) j = some v → ∃ x,v = .v x ∧ i ≤ j ∧ l[j - i]? = some x
 | [],i,j,v,h=>by simp [enum,look] at h
 | x :: l,i,j,v,h=>by
  simp only [enum,look] at h
  split at h
  ·rename_i e
   cases h
   have:=(beq_iff _ _).1 e
   subst this
   exact ⟨x,rfl,Nat.le_refl _,by simp⟩
  ·obtain ⟨y,h1,h2,h3⟩:=look_enum l (i + 1) j v h
   refine ⟨y,h1,by omega,?_⟩
   rw [show j - i = (j - (i + 1)) + 1 by omega]
   simpa using h3
def st0 (n : Nat) (xs : List CV) (hp : List (Nat × Blk)) (next : Nat) (rows : List (Nat × Row)) (nr : Nat) (pers : List Pers) (wr : Bool) : St :=
 { n:=n,slots:=enum xs 0,gs:=[],heap:=hp,next:=next,rows:=rows,nr:=nr,pers:=pers,wr:=wr }
def bodyOf (fn : Func) : Code:=fn.body.getD .skip
theorem Calls.of_V {P : Program} {f : FuncId} {fn : Func} {R : Ending → World → Prop} {w : World} (S : Nat → Prop) (ρ base : Nat → Nat) (xs : List CV) (s0 : St)
  (hf : P.funcs[f]? = some fn) (hb : fn.body.isSome = true) (hle : Nat.ble xs.length fn.ntmps = true)
  (hS : ∀ a : Act,a.tmps.size = fn.ntmps → a.defers = [] → (∀ (i : Nat) (x : CV),xs[i]? = some x → a.tmps[i]? = some (x.den ρ)) → Sat ⟨P,f,R,S,w,base,none⟩ ρ s0 a w)
  (h : V ⟨P,f,R,S,w,base,none⟩ ⟨[.code (bodyOf fn)],s0⟩) : Calls P f (xs.map (CV.den ρ)).toArray w R:=by
 intro cs
 obtain ⟨body,hb'⟩:=Option.isSome_iff_exists.1 hb
 have hbo : bodyOf fn = body:=by simp [bodyOf,hb']
 have hle' : xs.length ≤ fn.ntmps:=Nat.le_of_ble_eq_true hle
 let a : Act:={ tmps:=(xs.map (CV.den ρ)).toArray ++ Array.replicate (fn.ntmps - xs.length) undef,defers:=[] }
 have hsz : a.tmps.size = fn.ntmps:=by simp [a]; omega
 have hget : ∀ (i : Nat) (x : CV),xs[i]? = some x → a.tmps[i]? = some (x.den ρ):=by
  intro i x hx
  have hi:=(List.getElem?_eq_some_iff.1 hx).1
  simp only [a]
  rw [Array.getElem?_append_left (by simpa using hi)]
  simp [hx]
 have hsat:=hS a hsz rfl hget
 let b : Frame:={ (default : Frame) with fn:=f,kind:=.normal }
 have henter : Frame.enter P f (xs.map (CV.den ρ)).toArray .normal = b.atR a [.code (bodyOf fn)]:=by
  simp [Frame.enter,Frame.atR,hf,hb',b,a,hbo]
  rfl
 rw [henter]
 obtain ⟨e,w',h1,fr,h2⟩:=h ρ a w hsat b rfl rfl rfl cs (fun h=>by cases h)
 exact ⟨e,w',fr,h1,h2⟩
end
end Go.SX
end
section
namespace Go.SX
open Go
def deps (ops : Array Oper) (k : Nat) : List Nat :=
 match ops[k]? with
 | some o=>(o.after.toList.filter (Region.binds .any)).map (·.on)
 | none=>[]
def addAll : List Nat → List Nat → List Nat
 | [],l=>l
 | k :: m,l=>match hasNat l k with
  | true=>addAll m l
  | false=>addAll m (k :: l)
def downs (ops : Array Oper) : Nat → List Nat → List Nat
 | 0,l=>l
 | n + 1,l=>downs ops n (addAll (l.flatMap (deps ops)) l)
def compAll (ops : Array Oper) (i : Nat) : Bool:=match downs ops 3 (deps ops i) with
 | l=>(List.range ops.size).all fun k=>match Nat.beq k i,hasNat l k with
  | false,false=>hasNat (deps ops k) i
  | _,_=>true
def tailOp (ops : Array Oper) (L i : Nat) : Bool:=match Nat.beq i L with
 | true=>true
 | false=>compAll ops i
theorem tailOpL (ops : Array Oper) (L : Nat) : tailOp ops L L = true:=by
 unfold tailOp
 rw [(beq_iff L L).2 rfl]
def wpAnyE (P : Program) (ops : Array Oper) (Q : Exit → Act → World → Prop) (S : World → Prop) (L : Nat) : Nat → Array Bool → Act → World → Prop
 | 0,listed,a,w=>Region.ready .any ops listed = [] ∧ Q .normal a w
 | fuel + 1,listed,a,w =>
  (Region.ready .any ops listed = [] → Q .normal a w) ∧
  ∀ i ∈ Region.ready .any ops listed,wpOp P ops Q i (fun a' w'=>(tailOp ops L i = false → S w') ∧ wpAnyE P ops Q S L fuel (listed.setIfInBounds i true) a' w') a w
theorem wpAny_of_E {P : Program} {ops : Array Oper} {Q : Exit → Act → World → Prop} {S : World → Prop} {L : Nat} : ∀ (fuel : Nat) (listed : Array Bool) (a : Act) (w : World),wpAnyE P ops Q S L fuel listed a w → wpAny P .any ops Q fuel listed a w
 | 0,_,_,_,h=>h
 | fuel + 1,_,_,_,h=>⟨h.1,fun i hi=>wpOp_mono (fun a' w' h'=>wpAny_of_E fuel _ a' w' h'.2) (h.2 i hi)⟩
def Closed (ops : Array Oper) (listed : Array Bool) : Prop :=
 ∀ k o,ops[k]? = some o → listed.getD k true = true → ∀ e ∈ o.after,Region.binds .any e = true → listed.getD e.on false = true
def LastOp (ops : Array Oper) (L : Nat) : Prop:=∀ listed,listed.size = ops.size → Closed ops listed → L ∈ Region.ready .any ops listed → ∀ k,k < ops.size → k ≠ L → listed.getD k true = true
theorem Closed.set {ops : Array Oper} {listed : Array Bool} {i : Nat} (h : Closed ops listed) (hi : i ∈ Region.ready .any ops listed) : Closed ops (listed.setIfInBounds i true):=by
 intro k o ho hk e he hb
 by_cases hki : i = k
 ·subst hki
  obtain ⟨_,o',ho',hall⟩:=mem_ready.1 hi
  rw [ho] at ho'
  cases ho'
  exact getD_set_true (hall e he hb)
 ·rw [getD_set_ne true hki] at hk
  exact getD_set_true (h k o ho hk e he hb)
theorem Closed.start (ops : Array Oper) : Closed ops (Array.replicate ops.size false):=by
 intro k o ho hk
 have hlt : k < ops.size:=by
  rcases Nat.lt_or_ge k ops.size with h | h
  ·exact h
  ·rw [Array.getElem?_eq_none h] at ho; cases ho
 simp [hlt] at hk
def lastB (ops : Array Oper) (L : Nat) : Bool :=
 match downs ops ops.size (deps ops L) with
 | l=>(List.range ops.size).all fun k=>Nat.beq k L || hasNat l k
theorem addAll_mem : ∀ {m l : List Nat} {k : Nat},k ∈ addAll m l → k ∈ m ∨ k ∈ l
 | [],_,_,h=>.inr h
 | j :: m,l,k,h=>by
  simp only [addAll] at h
  split at h
  ·rcases addAll_mem h with h | h
   ·exact .inl (List.mem_cons_of_mem _ h)
   ·exact .inr h
  ·rcases addAll_mem h with h | h
   ·exact .inl (List.mem_cons_of_mem _ h)
   ·rcases List.mem_cons.1 h with rfl | h
    ·exact .inl (List.mem_cons_self ..)
    ·exact .inr h
theorem deps_listed {ops : Array Oper} {listed : Array Bool} (hs : listed.size = ops.size) (hc : Closed ops listed) {k j : Nat} (hk : listed.getD k false = true) (hj : j ∈ deps ops k) : listed.getD j false = true:=by
 unfold deps at hj
 split at hj
 ·rename_i o ho
  obtain ⟨e,he,rfl⟩:=List.mem_map.1 hj
  obtain ⟨h1,h2⟩:=List.mem_filter.1 he
  have hlt : k < ops.size:=by
   rcases Nat.lt_or_ge k ops.size with h | h
   ·exact h
   ·rw [Array.getElem?_eq_none h] at ho; cases ho
  refine hc k o ho ?_ e (by simpa using h1) h2
  have hlt' : k < listed.size:=by omega
  simp [hlt'] at hk ⊢
  exact hk
 ·cases hj
theorem downs_listed {ops : Array Oper} {listed : Array Bool} (hs : listed.size = ops.size) (hc : Closed ops listed) : ∀ (n : Nat) {l : List Nat},(∀ k ∈ l,listed.getD k false = true) → ∀ k ∈ downs ops n l,listed.getD k false = true
 | 0,_,h=>h
 | n + 1,l,h=>by
  refine downs_listed hs hc n (fun k hk=>?_)
  rcases addAll_mem hk with hk | hk
  ·obtain ⟨j,hj,hkj⟩:=List.mem_flatMap.1 hk
   exact deps_listed hs hc (h j hj) hkj
  ·exact h k hk
theorem lastB_ok {ops : Array Oper} {L : Nat} (h : lastB ops L = true) : LastOp ops L:=by
 intro listed hs hc hL k hk hkL
 obtain ⟨_,o,ho,hall⟩:=mem_ready.1 hL
 have h0 : ∀ j ∈ deps ops L,listed.getD j false = true:=by
  intro j hj
  unfold deps at hj
  rw [ho] at hj
  obtain ⟨e,he,rfl⟩:=List.mem_map.1 hj
  obtain ⟨h1,h2⟩:=List.mem_filter.1 he
  exact hall e (by simpa using h1) h2
 have h1:=downs_listed hs hc ops.size h0
 unfold lastB at h
 have h2:=List.all_eq_true.1 h k (List.mem_range.2 hk)
 rw [Bool.or_eq_true] at h2
 rcases h2 with h2 | h2
 ·exact absurd ((beq_iff _ _).1 h2) hkL
 ·have:=h1 k ((hasNat_mem _ _).1 h2)
  have hlt : k < listed.size:=by omega
  simp [hlt] at this ⊢
  exact this
theorem ready_deps {ops : Array Oper} {listed : Array Bool} {i j : Nat} (hj : j ∈ Region.ready .any ops listed) (h : i ∈ deps ops j) : listed.getD i false = true:=by
 obtain ⟨_,o,ho,hall⟩:=mem_ready.1 hj
 unfold deps at h
 rw [ho] at h
 obtain ⟨e,he,rfl⟩:=List.mem_map.1 h
 obtain ⟨h1,h2⟩:=List.mem_filter.1 he
 exact hall e (by simpa using h1) h2
theorem ready_comp {ops : Array Oper} {listed : Array Bool} (hs : listed.size = ops.size) (hcl : Closed ops listed) {i j : Nat} (hi : i ∈ Region.ready .any ops listed) (hj : j ∈ Region.ready .any ops listed) (hji : j ≠ i) : compAll ops j = false:=by
 cases hc : compAll ops j with
 | false=>rfl
 | true =>
  have key : ∀ m,listed.getD m false = true → m ∈ Region.ready .any ops listed → False:=fun m h1 hm'=>by
   have h0:=(mem_ready.1 hm').1
   rcases Nat.lt_or_ge m listed.size with h' | h'
   ·simp [h'] at h0 h1; rw [h0] at h1; cases h1
   ·simp [Array.getElem?_eq_none h'] at h1
  have hilt : i < ops.size:=by
   obtain ⟨_,o,ho,_⟩:=mem_ready.1 hi
   rcases Nat.lt_or_ge i ops.size with h | h
   ·exact h
   ·rw [Array.getElem?_eq_none h] at ho; cases ho
  unfold compAll at hc
  have h2:=List.all_eq_true.1 hc i (List.mem_range.2 hilt)
  split at h2
  ·exact (key j (ready_deps hi ((hasNat_mem _ _).1 h2)) hj).elim
  ·rename_i hne
   cases hb : Nat.beq i j with
   | true=>exact absurd ((beq_iff _ _).1 hb).symm hji
   | false =>
    cases hl : hasNat (downs ops 3 (deps ops j)) i with
    | true=>exact (key i (downs_listed hs hcl 3 (fun k hk=>ready_deps hj hk) i ((hasNat_mem _ _).1 hl)) hi).elim
    | false=>exact (hne hb hl).elim
theorem wpAnyE_first {P : Program} {ops : Array Oper} {Q : Exit → Act → World → Prop} {S : World → Prop} {L : Nat} (hL : LastOp ops L ∨ ops.size ≤ L) {i : Nat} {oi : Oper} {v : Value} (hi : ops[i]? = some oi) (hsel : ∀ (j : Nat) (o : Oper) cs b,ops[j]? = some o → o.op ≠ .select cs b)
  (hQ : ∀ c a w,Q (.panic c) (a.put oi.dst v) w → Q (.panic c) a w) :
  ∀ (fuel : Nat) (listed : Array Bool) (a : Act) (w : World),listed.size = ops.size → Closed ops listed →
   (∀ j oj,ops[j]? = some oj → j ≠ i → listed.getD j true = false → (∀ e ∈ oj.after,Region.binds .any e = true → e.on ≠ i) → oi.apart ops oj = true) →
   i ∈ Region.ready .any ops listed → YieldsIf P ops S oi v a → S w →
   wpAnyE P ops Q S L fuel (listed.setIfInBounds i true) (a.put oi.dst v) w → wpAnyE P ops Q S L (fuel + 1) listed a w:=by
 intro fuel
 induction fuel with
 | zero =>
  intro listed a w _ _ _ hr hy hS H
  refine ⟨fun h=>(by rw [h] at hr; cases hr),fun j hj=>?_⟩
  by_cases hji : j = i
  ·subst hji; exact hy.wpOp hi hS ⟨fun _=>hS,H⟩
  ·have:=ready_mono hj hji
   rw [H.1] at this
   cases this
 | succ fuel ih =>
  intro listed a w hsz hcl hfree hr hy hS H
  refine ⟨fun h=>(by rw [h] at hr; cases hr),fun j hj=>?_⟩
  by_cases hji : j = i
  ·subst hji; exact hy.wpOp hi hS ⟨fun _=>hS,H⟩
  ·have h1:=H.2 j (ready_mono hj hji)
   obtain ⟨hjun,oj,hoj,hall⟩:=mem_ready.1 hj
   have hjlt : j < ops.size:=by
    rcases Nat.lt_or_ge j ops.size with h | h
    ·exact h
    ·rw [Array.getElem?_eq_none h] at hoj; cases hoj
   have hilt : i < ops.size:=by
    rcases Nat.lt_or_ge i ops.size with h | h
    ·exact h
    ·rw [Array.getElem?_eq_none h] at hi; cases hi
   have hjL : j ≠ L:=by
    intro e
    rcases hL with hL | hL
    ·have h0:=(mem_ready.1 hr).1
     rw [hL listed hsz hcl (e ▸ hj) i hilt (fun e'=>hji (e.trans e'.symm))] at h0
     cases h0
    ·omega
   have hjF : tailOp ops L j = false:=by
    unfold tailOp
    rw [show Nat.beq j L = false from by
     cases hb : Nat.beq j L with
     | false=>rfl
     | true=>exact absurd ((beq_iff _ _).1 hb) hjL]
    exact ready_comp hsz hcl hr hj hji
   have hnot : ∀ e ∈ oj.after,Region.binds .any e = true → e.on ≠ i:=fun e he hb heq=>by
    have h1:=hall e he hb
    have h0:=(mem_ready.1 hr).1
    rw [heq] at h1
    rcases Nat.lt_or_ge i listed.size with h' | h'
    ·simp [h'] at h0 h1; rw [h0] at h1; cases h1
    ·simp [Array.getElem?_eq_none h'] at h1
   have h2:=wpOp_putIf hoj (hfree j oj hoj hji hjun hnot) (fun cs b=>hsel i oi cs b hi) (fun cs b=>hsel j oj cs b hoj) hQ hy h1
   have hfree' : ∀ k ok,ops[k]? = some ok → k ≠ i → (listed.setIfInBounds j true).getD k true = false →
     (∀ e ∈ ok.after,Region.binds .any e = true → e.on ≠ i) → oi.apart ops ok = true:=fun k ok hk hki hun hno=>by
    refine hfree k ok hk hki ?_ hno
    by_cases hjk : j = k
    ·subst hjk; exact hjun
    ·rw [getD_set_ne true hjk] at hun; exact hun
   refine wpOp_mono (fun a' w' h3=>?_) h2
   have hSw:=h3.2.1 hjF
   refine ⟨fun _=>hSw,ih (listed.setIfInBounds j true) a' w' (by simpa using hsz) (hcl.set hj) hfree' (ready_mono hr (Ne.symm hji)) h3.1 hSw ?_⟩
   rw [Array.setIfInBounds_comm _ _ hji]
   exact h3.2.2
theorem wpAnyE_all {P : Program} {ops : Array Oper} {Q : Exit → Act → World → Prop} {S : World → Prop} {L : Nat} {rs : List Nat} {fuel : Nat} {listed : Array Bool} {a : Act} {w : World} (hr : Region.ready .any ops listed = rs) (hne : rs ≠ [])
  (h : ∀ i ∈ rs,wpOp P ops Q i (fun a' w'=>(tailOp ops L i = false → S w') ∧ wpAnyE P ops Q S L fuel (listed.setIfInBounds i true) a' w') a w) : wpAnyE P ops Q S L (fuel + 1) listed a w :=
 ⟨fun h0=>absurd (hr ▸ h0) hne,hr ▸ h⟩
theorem wpAnyE_done {P : Program} {ops : Array Oper} {Q : Exit → Act → World → Prop} {S : World → Prop} {L : Nat} {listed : Array Bool} {a : Act} {w : World} (hr : Region.ready .any ops listed = []) (h : Q .normal a w) :
  ∀ fuel,wpAnyE P ops Q S L fuel listed a w
 | 0=>⟨hr,h⟩
 | _ + 1=>⟨fun _=>h,by rw [hr]; simp⟩
def stepPure (P : Program) (ops : Array Oper) (h0 : List (Nat × Blk)) (r0 : List (Nat × Row)) (o : Oper) (s : St) : Option (St × List Prop) :=
 match grdOf s ops o.guard with
 | .yes=>match opPure P { s with heap:=h0,rows:=r0 } none o.op with
  | some (v,ob)=>match s.put o.dst v with
   | some s'=>some (s',ob)
   | none=>none
  | none=>none
 | .no=>match s.put o.dst (.v (.one (.val undef))) with
  | some s'=>some (s',[])
  | none=>none
 | .ask g pol c=>match opPure P { s with heap:=h0,rows:=r0 } (some (g,pol)) o.op with
  | some (.v x,ob)=>match ({ s with gs:=addNat s.gs g } : St).put o.dst (.grd g pol c x) with
   | some s'=>some (s',impAll c pol ob)
   | none=>none
  | _=>none
 | .bad=>none
def takeD (P : Program) (ops : Array Oper) (h0 : List (Nat × Blk)) (r0 : List (Nat × Row)) (listed : Array Bool) (s : St) : List Nat → Option (Nat × St × List Prop)
 | []=>none
 | i :: l=>match ops[i]? with
  | none=>takeD P ops h0 r0 listed s l
  | some o=>match Region.free .any ops listed i with
   | false=>takeD P ops h0 r0 listed s l
   | true=>match stepPure P ops h0 r0 o s with
    | some (s',ob)=>some (i,s',ob)
    | none=>takeD P ops h0 r0 listed s l
structure DCfg where
 fuel : Nat
 listed : Array Bool
 st : St
structure Held where
 ws : World
 TS : Nat → Prop
 ρ0 : Nat → Nat
 n0 : Nat
 h0 : List (Nat × Blk)
 nr0 : Nat
 r0 : List (Nat × Row)
 w0 : List (Nat × Row)
 L : Nat
def Held.W (D : Held) : WF:=⟨D.n0,D.nr0,D.w0⟩
structure Held.ok (D : Held) : Prop where
 blk : ∀ b blk,look D.h0 b = some blk → b < D.n0 ∧ D.ρ0 b < D.ws.heap.size ∧ ¬ D.TS (D.ρ0 b) ∧
  D.ws.heap[D.ρ0 b]? = some (.cells (blk.cells.map (SV.den D.ρ0)).toArray blk.elem (0,0)) ∧ (∀ x ∈ blk.cells,x.wf D.W)
 row : ∀ r R,look D.r0 r = some R → R.ok D.ws ∧ ∀ k,R.uses k → k < D.ws.heap.size ∧ ¬ D.TS k
def Held.rows (D : Held) (s : St) : Prop:=(∀ r R,look D.r0 r = some R → look s.rows r = some R) ∧ D.W.le s.W
def Qd (C : Ctx) (k : List Item) : Exit → Act → World → Prop
 | .normal,a,w=>Ok C k a w
 | _,_,_=>False
def VD (C : Ctx) (D : Held) (ops : Array Oper) (k : List Item) (d : DCfg) : Prop :=
 ∀ ρ a w,Sat C ρ d.st a w → (∀ b,b < D.n0 → ρ b = D.ρ0 b) → D.n0 ≤ d.st.next → Chg D.TS D.ws w → Closed ops d.listed → d.listed.size = ops.size → wpAnyE C.P ops (Qd C k) (Chg D.TS D.ws) D.L d.fuel d.listed a w
section
variable {C : Ctx} {D : Held} {ops : Array Oper} {k : List Item}
theorem Qd_panic {C : Ctx} {k : List Item} {d : Option Tmp} {v : Value} : ∀ c a w,Qd C k (.panic c) (a.put d v) w → Qd C k (.panic c) a w:=fun _ _ _ h=>h
theorem stepPure_sound {o : Oper} {s s' : St} {ob : List Prop} {ρ : Nat → Nat} {a : Act} {w : World} (hD : D.ok) 
  (hst : stepPure C.P ops D.h0 D.r0 o s = some (s',ob)) (hob : ∀ p ∈ ob,p) (h : Sat C ρ s a w) (hρ : ∀ b,b < D.n0 → ρ b = D.ρ0 b) (_hn : D.n0 ≤ s.next) (hrw : D.rows s) :
  ∃ v,YieldsIf C.P ops (Chg D.TS D.ws) o v a ∧ Sat C ρ s' (a.put o.dst v) w ∧ s'.W = s.W:=by
 have hle:=hrw.2
 have hP : ∀ w2,Chg D.TS D.ws w2 → SatP ρ { s with heap:=D.h0,rows:=D.r0 } s.W a w2:=fun w2 hc =>
  ⟨h.slots,h.grds,fun b blk hb=>by
   obtain ⟨h1,h2,h3,h4,h5⟩:=hD.blk b blk hb
   refine ⟨?_,fun x hx=>SV.wf_mono hle x (h5 x hx)⟩
   rw [hρ b h1,SV.den_map_congr (W:=D.W) hρ _ h5]
   exact (hc.block _ h2 h3).trans h4,
    fun r R hR=>by
   obtain ⟨h1,h2⟩:=hD.row r R hR
   exact ⟨h1.congr (fun k hk=>hc.block k (h2 k hk).1 (h2 k hk).2),hrw.1 r R hR⟩,
    fun r R hR=>(h.rows r R (hrw.1 r R hR)).1⟩
 unfold stepPure at hst
 split at hst
 ·rename_i hg
  have hw:=grd_yes h hg
  split at hst
  ·rename_i v ob' hop
   split at hst
   ·rename_i s1 hput
    cases hst
    have key : ∀ w2,Chg D.TS D.ws w2 → (execOp a.eval o).run C.P w2 = .ok (.value (v.den ρ)) w2 ∧ v.wf s.W ∧ ∀ g pol c x,v ≠ .grd g pol c x :=
     fun w2 hc=>opPure_sound (hP w2 hc) (GcOk.none _) o hop hob
    refine ⟨v.den ρ,.inl ⟨hw,fun w2 hc=>(key w2 hc).1⟩,?_,put_W hput⟩
    obtain ⟨_,k2,k3⟩:=key D.ws (Chg.refl _ _)
    exact h.put hput k2 (fun g pol c x e=>absurd e (k3 g pol c x))
   ·cases hst
  ·cases hst
 ·rename_i hg
  split at hst
  ·rename_i s1 hput
   cases hst
   exact ⟨undef,.inr ⟨grd_no h hg,rfl⟩,h.put (v:=.v (.one (.val undef))) hput trivial (fun g pol c x e=>by cases e),put_W hput⟩
  ·cases hst
 ·rename_i g pol c hg
  obtain ⟨hl,hwt⟩:=grd_ask h hg
  split at hst
  ·rename_i x ob' hop
   split at hst
   ·rename_i s1 hput
    cases hst
    have h2:=h.addG g
    have hgs : hasNat (addNat s.gs g) g = true:=(hasNat_add _ _ _).2 (.inl rfl)
    by_cases hc : c = pol
    ·subst hc
     have hgc : GcOk { s with heap:=D.h0,rows:=D.r0 } (some (g,c)):=fun g' pol' e=>by cases e; exact hl.true rfl
     have key : ∀ w2,Chg D.TS D.ws w2 → (execOp a.eval o).run C.P w2 = .ok (.value ((RV.v x).den ρ)) w2 ∧ (RV.v x).wf s.W ∧ ∀ g pol c x',RV.v x ≠ .grd g pol c x' :=
      fun w2 hc=>opPure_sound (hP w2 hc) hgc o hop (impAll_mem hob rfl)
     have hd : (RV.v x).den ρ = (RV.grd g c c x).den ρ:=by simp [RV.den]
     refine ⟨(RV.v x).den ρ,.inl ⟨by rw [hwt]; simp,fun w2 hc=>(key w2 hc).1⟩,?_,by rw [put_W hput]; rfl⟩
     rw [hd]
     exact h2.put hput (fun _=>(key D.ws (Chg.refl _ _)).2.1) (fun g' pol' c' x' e=>by cases e; exact ⟨hgs,hl,put_ne hput hgs⟩)
    ·have hd : undef = (RV.grd g pol c x).den ρ:=by simp [RV.den,hc]
     refine ⟨undef,.inr ⟨by rw [hwt]; simp [hc],rfl⟩,?_,by rw [put_W hput]; rfl⟩
     rw [hd]
     exact h2.put hput (fun e=>absurd e hc) (fun g' pol' c' x' e=>by cases e; exact ⟨hgs,hl,put_ne hput hgs⟩)
   ·cases hst
  ·cases hst
 ·cases hst
theorem takeD_spec {h0 : List (Nat × Blk)} {r0 : List (Nat × Row)} {listed : Array Bool} {s s' : St} {i : Nat} {ob : List Prop} {P : Program} : ∀ {l : List Nat},takeD P ops h0 r0 listed s l = some (i,s',ob) →
  i ∈ l ∧ ∃ o,ops[i]? = some o ∧ Region.free .any ops listed i = true ∧ stepPure P ops h0 r0 o s = some (s',ob)
 | [],h=>by simp [takeD] at h
 | j :: l,h=>by
  simp only [takeD] at h
  split at h
  ·obtain ⟨h1,h2⟩:=takeD_spec h; exact ⟨List.mem_cons_of_mem _ h1,h2⟩
  ·rename_i o ho
   split at h
   ·obtain ⟨h1,h2⟩:=takeD_spec h; exact ⟨List.mem_cons_of_mem _ h1,h2⟩
   ·rename_i hf
    split at h
    ·rename_i s1 ob1 hs
     cases h
     exact ⟨List.mem_cons_self ..,o,ho,hf,hs⟩
    ·obtain ⟨h1,h2⟩:=takeD_spec h; exact ⟨List.mem_cons_of_mem _ h1,h2⟩
theorem VD.done {d : DCfg} (hr : (Region.ready .any ops d.listed).isEmpty = true) (h : V C ⟨k,d.st⟩) : VD C D ops k d :=
 fun ρ a w hS _ _ _ _ _=>wpAnyE_done (by simpa using hr) (h ρ a w hS) d.fuel
def noDefer (ops : Array Oper) : Bool:=ops.toList.all fun o=>match o.op with
 | .defer _=>false
 | _=>true
theorem noDefer_ok {ops : Array Oper} (h : noDefer ops = true) {i : Nat} {o : Oper} (ho : ops[i]? = some o) : ∀ c,o.op ≠ .defer c:=by
 intro c hc
 have:=List.all_eq_true.1 h o (Array.mem_toList_iff.2 (Array.mem_of_getElem? ho))
 rw [hc] at this
 cases this
theorem Ok.of_ops (hnd : noDefer ops = true) : ∀ (l : List Nat) (a : Act) (w : World),wpOps C.P ops (Qd C k) l a w → Ok C (.inRegion ops l :: k) a w
 | [],a,w,h=>Ok.of_step (fun b cs _ _=>stepR_region_end) (show Ok C k a w from h)
 | i :: l,a,w,h=>by
  simp only [wpOps] at h
  cases ho : ops[i]? with
  | none =>
   rw [ho] at h
   have h':=Ok.of_ops hnd l a w h
   refine Ok.of_step (fun b cs _ _=>?_) h'
   have hs:=stepR_op_skip (P:=C.P) (b:=b) (a:=a) (k:=k) (cs:=cs) (w:=w) (ops:=ops) (i:=i) (rest:=l) (by simp [ho])
   simpa [ho,Act.put] using hs
  | some o =>
   rw [ho] at h
   simp only at h
   split at h
   ·rename_i hw
    have hq : ¬ LetsOut (Qd C k):=by rintro ⟨a,w,h⟩; exact h
    rcases h with h | h
    ·unfold Oper.wp at h
     cases hr : (execOp a.eval o).run C.P w with
     | ok n w1 =>
      rw [hr] at h
      cases n with
      | value v=>exact Ok.op_value ho hw hr (Ok.of_ops hnd l _ _ h)
      | skip=>exact Ok.op_skip ho hw hr (Ok.of_ops hnd l _ _ h)
      | enter f args =>
       refine Ok.op_call ho hw hr h (fun e w2 he=>?_)
       cases e with
       | returned v=>exact ⟨v,rfl,Ok.of_ops hnd l _ _ he⟩
       | panicked ch=>exact he.elim
       | outgrown=>exact absurd he hq
      | row r args =>
       intro b hb hk hro cs hcs
       obtain ⟨v,w2,hv,hst⟩:=h (b.atR a (.inRegion ops (i :: l) :: k)) cs
       have hg:=stepGR_op (P:=C.P) (b:=b) (k:=k) (cs:=cs) (w:=w) (rest:=l) ho hw
       rw [Oper.semAt_eq _ _ _ (noDefer_ok hnd ho)] at hg
       have henter : Go.step C.P (lone (b.atR a (.inRegion ops (i :: l) :: k)) cs w) = .next (lone (Frame.ofRow C.P r args .normal) (b.atR a (.inRegion ops (i :: l) :: k) :: cs) w1) :=
        step_lone_go (by rw [hg]; simp [stepG.apply,hr,Frame.atR])
       have hfin : (b.atR a (.inRegion ops (i :: l) :: k)).finish v = b.atR (a.put o.dst v) (.inRegion ops l :: k):=by rw [Frame.finish_atR,ho]; rfl
       obtain ⟨e,w3,h1,h2⟩:=Ok.of_ops hnd l _ _ hv b hb hk hro cs hcs
       rw [hfin] at hst
       exact ⟨e,w3,h1,h2.of_steps (.head henter hst)⟩
      | defer d =>
       refine Ok.of_step (fun b cs _ _=>?_) (Ok.of_ops hnd l _ _ h)
       have hg:=stepGR_op (P:=C.P) (b:=b) (k:=k) (cs:=cs) (w:=w) (rest:=l) ho hw
       rw [Oper.semAt_eq _ _ _ (noDefer_ok hnd ho)] at hg
       have hfin : ({ b.atR a (.inRegion ops (i :: l) :: k) with defers:=d :: a.defers } : Frame).finish undef = b.atR ({ a with defers:=d :: a.defers }.put o.dst undef) (.inRegion ops l :: k):=by
        have:=Frame.finish_atR b { a with defers:=d :: a.defers } ops i l k undef
        rw [ho] at this
        exact this
       exact step_lone_go (by rw [hg,← hfin]; simp [stepG.apply,hr,Frame.atR])
      | _=>exact h.elim
     | halt x w1 =>
      rw [hr] at h
      cases x <;> exact h.elim
    ·exact absurd h.2 hq
   ·rename_i hw
    exact Ok.op_pass ho (by simpa using hw) (Ok.of_ops hnd l _ _ h)
def heldOf {α : Type} (T : List Nat) : List (Nat × α) → List (Nat × α)
 | []=>[]
 | (b,blk) :: l=>match hasNat T b with
  | true=>heldOf T l
  | false=>(b,blk) :: heldOf T l
theorem look_heldOf' {α : Type} {T : List Nat} : ∀ {l : List (Nat × α)} {b : Nat} {blk : α},look (heldOf T l) b = some blk → b ∉ T ∧ look l b = some blk
 | [],b,blk,h=>by simp [heldOf,look] at h
 | (c,u) :: l,b,blk,h=>by
  simp only [heldOf] at h
  split at h
  ·rename_i hT
   obtain ⟨h1,h2⟩:=look_heldOf' h
   refine ⟨h1,?_⟩
   simp only [look]
   cases hb : Nat.beq c b with
   | true=>have:=(beq_iff _ _).1 hb; subst this; exact absurd ((hasNat_mem T c).1 hT) h1
   | false=>exact h2
  ·rename_i hT
   simp only [look] at h ⊢
   cases hb : Nat.beq c b with
   | true =>
    rw [hb] at h
    cases h
    have:=(beq_iff _ _).1 hb
    subst this
    refine ⟨fun hm=>?_,rfl⟩
    rw [(hasNat_mem T c).2 hm] at hT; cases hT
   | false =>
    rw [hb] at h
    exact look_heldOf' h
def drawOf (c : Cfg) : Option (Array Oper × List Item) :=
 match c.todo with
 | .code (.region _ ops true) :: k=>match noDefer ops with
  | true=>some (ops,k)
  | false=>none
 | _=>none
theorem V.draw (T TR : List Nat) (L : Nat) (ops : Array Oper) (k : List Item) {c : Cfg} (hc : drawOf c = some (ops,k)) (hm : C.P.follows .mixedOrders = true)
  (h : ∀ D : Held,D.ok → D.h0 = heldOf T c.st.heap → D.n0 = c.st.next → D.r0 = heldOf TR c.st.rows → D.L = L → D.nr0 = c.st.nr ∧ D.w0 = c.st.rows → D.rows c.st →
   (∀ b ∈ T,b < c.st.next → D.TS (D.ρ0 b)) → (∀ r ∈ TR,∀ R,look c.st.rows r = some R → ∀ k,R.uses k → D.TS k) →
   VD C D ops k ⟨ops.size,Array.replicate ops.size false,c.st⟩)
  (hTR : ∀ r ∈ TR,∀ R,look c.st.rows r = some R → R.own = true) : V C c:=by
 intro ρ a w hS
 obtain ⟨todo,st⟩:=c
 unfold drawOf at hc
 simp only at hc h hTR hS ⊢
 split at hc
 ·rename_i id ops' k'
  split at hc
  case h_2=>cases hc
  rename_i hnd
  cases hc
  let TS : Nat → Prop:=fun i=>(∃ b ∈ T,b < st.next ∧ ρ b = i) ∨ ∃ r ∈ TR,∃ R,look st.rows r = some R ∧ R.uses i
  let w1 : World:={ w with drawn:=w.drawn + 1 }
  have key : wpAny C.P .any ops (Qd C k) ops.size (Array.replicate ops.size false) a w1 → Ok C (.code (.region id ops true) :: k) a w:=fun hw=>by
   intro b hb hk hro cs hcs
   have hsch : Region.schedule (C.P.follows .mixedOrders) ops (w.tape w.drawn (.order b.fn id)) = Region.linearise.go .any ops ops.size (w.tape w.drawn (.order b.fn id)) (Array.replicate ops.size false) []:=by
    simp only [Region.schedule,hm,Bool.true_or,if_true]; rfl
   have h1:=Ok.of_ops hnd _ _ _ (wpAny_sound ops.size (w.tape w.drawn (.order b.fn id)) _ a _ hw) b hb hk hro cs hcs
   obtain ⟨e,w3,h2,h3⟩:=h1
   refine ⟨e,w3,h2,h3.of_steps (.one ?_)⟩
   rw [← hsch]
   exact stepR_region_draw
  refine key (wpAny_of_E (S:=Chg TS w1) (L:=L) _ _ _ _ ?_)
  have hS1 : Sat C ρ st a w1:=hS.below ⟨rfl,rfl,rfl,Nat.le_refl _,fun _ _ _=>rfl⟩
  let D : Held:=⟨w1,TS,ρ,st.next,heldOf T st.heap,st.nr,heldOf TR st.rows,st.rows,L⟩
  have hD : D.ok:=by
   refine ⟨fun b blk hb=>?_,fun r R hR=>?_⟩
   ·obtain ⟨h1,h2⟩:=look_heldOf' hb
    obtain ⟨k1,k2,k3,k4⟩:=hS1.heap b blk h2
    refine ⟨k1,hS1.lt b k1,?_,k2,k3⟩
    rintro (⟨b',hb',hlt,he⟩ | ⟨r,hr,R,hR,hu⟩)
    ·exact h1 (hS1.inj _ _ hlt k1 he ▸ hb')
    ·exact ((hS1.rows r R hR).2.2 _ hu).2.1 b k1 rfl
   ·obtain ⟨h1,h2⟩:=look_heldOf' hR
    obtain ⟨k1,k2,k3⟩:=hS1.rows r R h2
    refine ⟨k2,fun k hk=>⟨(k3 k hk).1,?_⟩⟩
    rintro (⟨b',hb',hlt,he⟩ | ⟨r',hr',R',hR',hu⟩)
    ·exact (k3 k hk).2.1 b' hlt he
    ·exact hS1.rowsD r' r R' R hR' h2 (fun e=>h1 (e ▸ hr')) (hTR r' hr' R' hR') k hu hk
  exact h D hD rfl rfl rfl rfl ⟨rfl,rfl⟩ ⟨fun r R hR=>(look_heldOf' hR).2,WF.le.refl _⟩ (fun b hb hlt=>.inl ⟨b,hb,hlt,rfl⟩) (fun r hr R hR k hk=>.inr ⟨r,hr,R,hR,hk⟩)
   ρ a w1 hS1 (fun _ _=>rfl) (Nat.le_refl _) (Chg.refl _ _) (Closed.start ops) (by simp)
 ·cases hc
theorem VD.mem (i : Nat) {o : Oper} {d : DCfg} {n : Nat} {v : RV} {s1 s' : St} (hr : Region.ready .any ops d.listed = [i]) (hf : d.fuel = n + 1) (ho : ops[i]? = some o) (hg : grdOf d.st ops o.guard = .yes)
  (hop : opMem C.P d.st none o.op = some (v,s1)) (hst : s1.put o.dst v = some s')
  (h : VD C D ops k ⟨n,d.listed.setIfInBounds i true,s'⟩) : VD C D ops k d:=by
 intro ρ a w hS hρ hn hc hcl hsz
 have hi : i ∈ Region.ready .any ops d.listed:=by rw [hr]; simp
 rw [hf]
 refine wpAnyE_all hr (by simp) (fun j hj=>?_)
 have : j = i:=by simpa using hj
 subst this
 obtain ⟨ρ',w2,e1,e2,e3,e4,e5,e6,e7⟩:=opMem_sound hS (GcOk.none d.st) o hop
 have hc2 : Chg D.TS D.ws w2:=hc.trans e7 (fun i hi=>hi.elim)
 unfold wpOp
 simp only [ho,grd_yes hS hg,if_true]
 refine .inl ?_
 unfold Oper.wp
 rw [e1]
 refine ⟨fun _=>hc2,h ρ' _ w2 (e2.put hst e3 (fun g pol c x e=>absurd e (e4 g pol c x))) (fun b hb=>(e5 b (by omega)).trans (hρ b hb)) ?_ hc2 (hcl.set hi) (by simpa using hsz)⟩
 show D.n0 ≤ s'.next
 rw [put_next hst]; omega
theorem VD.last {o : Oper} {d : DCfg} {n : Nat} {s1 : St} (hr : Region.ready .any ops d.listed = [D.L]) (hf : d.fuel = n + 1) (ho : ops[D.L]? = some o) (hg : grdOf d.st ops o.guard = .yes)
  (hop : opStore C.P d.st none o.op = some s1) (hd : o.dst = none) (he : (Region.ready .any ops (d.listed.setIfInBounds D.L true)).isEmpty = true)
  (h : V C ⟨k,s1⟩) : VD C D ops k d:=by
 intro ρ a w hS hρ hn0 hc hcl hsz
 rw [hf]
 refine wpAnyE_all hr (by simp) (fun j hj=>?_)
 have hj' : j = D.L:=by simpa using hj
 obtain ⟨b',w2,e0,e1,e2,e3,e4,e5⟩:=opStore_sound hS (GcOk.none d.st) o hop
 unfold wpOp
 simp only [hj',ho,grd_yes hS hg,if_true]
 refine .inl ?_
 unfold Oper.wp
 rw [e2]
 refine ⟨fun hne=>(by rw [tailOpL] at hne; cases hne),?_⟩
 rw [hd]
 exact wpAnyE_done (by simpa using he) (h ρ a w2 e3) n
def callD (ops : Array Oper) (i : Nat) (s : St) : Option (Option (Nat × Bool × Bool) × FuncId × List CV):=callOf ⟨[.inRegion ops [i]],s⟩
theorem VD.call (i : Nat) (f : FuncId) (xs : List CV) (v : RV) {o : Oper} {d : DCfg} {n : Nat} {s' : St} (hr : Region.ready .any ops d.listed = [i]) (hf : d.fuel = n + 1) (ho : ops[i]? = some o)
  (hc : callD ops i d.st = some (none,f,xs)) (hent : ∀ args w,(callFunc f args).run C.P w = .ok (.enter f args) w)
  (hst : d.st.put o.dst v = some s') (hv : v.wf d.st.W) (hng : ∀ g pol b x,v ≠ .grd g pol b x)
  (hcall : ∀ ρ a w,Sat C ρ d.st a w → Calls C.P f (xs.map (CV.den ρ)).toArray w (Gives (v.den ρ) w))
  (h : VD C D ops k ⟨n,d.listed.setIfInBounds i true,s'⟩) : VD C D ops k d:=by
 intro ρ a w hS hρ hn0 hch hcl hsz
 have hi : i ∈ Region.ready .any ops d.listed:=by rw [hr]; simp
 rw [hf]
 refine wpAnyE_all hr (by simp) (fun j hj=>?_)
 have : j = i:=by simpa using hj
 subst this
 unfold callD callOf at hc
 simp only [ho] at hc
 split at hc
 ·rename_i cl hop
  split at hc
  ·rename_i hg
   split at hc
   ·rename_i f' caps ys h1 h2
    simp only [Option.some.injEq,Prod.mk.injEq,true_and] at hc
    obtain ⟨rfl,rfl⟩:=hc
    have hrun:=calleeS_sound (t:=o.type) hS.toP (GcOk.none d.st) h1 h2 hent
    unfold wpOp
    simp only [ho,grd_yes hS hg,if_true]
    refine .inl ?_
    unfold Oper.wp execOp
    rw [hop]
    simp only
    rw [hrun]
    refine (hcall ρ a w hS).mono ?_
    rintro e w2 ⟨rfl,hcw⟩
    have hc2 : Chg D.TS D.ws w2:=hch.trans hcw (fun i hi=>hi.elim)
    exact ⟨fun _=>hc2,h ρ _ w2 ((hS.below hcw).put hst hv (fun g pol b x e=>absurd e (hng g pol b x))) hρ (by show D.n0 ≤ s'.next; rw [put_next hst]; exact hn0) hc2 (hcl.set hi) (by simpa using hsz)⟩
   ·cases hc
  ·split at hc <;> cases hc
  ·cases hc
 ·cases hc
theorem VD.callG (i g : Nat) (pol b : Bool) (f : FuncId) (xs : List CV) (x : CV) {o : Oper} {d : DCfg} {n : Nat} {s' : St} (hr : Region.ready .any ops d.listed = [i]) (hf : d.fuel = n + 1) (ho : ops[i]? = some o)
  (hc : callD ops i d.st = some (some (g,pol,b),f,xs)) (hent : ∀ args w,(callFunc f args).run C.P w = .ok (.enter f args) w)
  (hst : ({ d.st with gs:=addNat d.st.gs g } : St).put o.dst (.grd g pol b x) = some s') (hv : x.wf d.st.W)
  (hcall : b = pol → ∀ ρ a w,Sat C ρ d.st a w → Calls C.P f (xs.map (CV.den ρ)).toArray w (Gives (x.den ρ) w))
  (h : VD C D ops k ⟨n,d.listed.setIfInBounds i true,s'⟩) : VD C D ops k d:=by
 intro ρ a w hS hρ hn0 hch hcl hsz
 have hi : i ∈ Region.ready .any ops d.listed:=by rw [hr]; simp
 rw [hf]
 refine wpAnyE_all hr (by simp) (fun j hj=>?_)
 have : j = i:=by simpa using hj
 subst this
 unfold callD callOf at hc
 simp only [ho] at hc
 split at hc
 ·rename_i cl hop
  split at hc
  ·split at hc <;> cases hc
  ·rename_i g' pol' b' hg
   split at hc
   ·rename_i f' caps ys h1 h2
    simp only [Option.some.injEq,Prod.mk.injEq] at hc
    obtain ⟨⟨rfl,rfl,rfl⟩,rfl,rfl⟩:=hc
    obtain ⟨hl,hwt⟩:=grd_ask hS hg
    have hgs : hasNat (addNat d.st.gs g') g' = true:=(hasNat_add _ _ _).2 (.inl rfl)
    unfold wpOp
    simp only [ho]
    by_cases hbp : b' = pol'
    ·subst hbp
     have hgc : GcOk d.st (some (g',b')):=fun g2 pol2 e=>by cases e; exact hl.true rfl
     have hrun:=calleeS_sound (t:=o.type) hS.toP hgc h1 h2 hent
     rw [if_pos (by rw [hwt]; simp)]
     refine .inl ?_
     unfold Oper.wp execOp
     rw [hop]
     simp only
     rw [hrun]
     refine (hcall rfl ρ a w hS).mono ?_
     rintro e w2 ⟨rfl,hcw⟩
     have hc2 : Chg D.TS D.ws w2:=hch.trans hcw (fun i hi=>hi.elim)
     have hd : x.den ρ = (RV.grd g' b' b' x).den ρ:=by simp [RV.den]
     rw [hd]
     exact ⟨fun _=>hc2,h ρ _ w2 (((hS.below hcw).addG g').put hst (fun _=>hv) (fun g2 pol2 c2 x2 e=>by cases e; exact ⟨hgs,hl,put_ne hst hgs⟩)) hρ (by show D.n0 ≤ s'.next; rw [put_next hst]; exact hn0) hc2 (hcl.set hi) (by simpa using hsz)⟩
    ·rw [if_neg (by rw [hwt]; simp [hbp])]
     have hd : undef = (RV.grd g' pol' b' x).den ρ:=by simp [RV.den,hbp]
     rw [hd]
     exact ⟨fun _=>hch,h ρ _ w ((hS.addG g').put hst (fun e=>absurd e hbp) (fun g2 pol2 c2 x2 e=>by cases e; exact ⟨hgs,hl,put_ne hst hgs⟩)) hρ (by show D.n0 ≤ s'.next; rw [put_next hst]; exact hn0) hch (hcl.set hi) (by simpa using hsz)⟩
   ·cases hc
  ·cases hc
 ·cases hc
end
end Go.SX
end
section
namespace Go.SX
open Go
structure Src (P : Program) (u : TypeId) (size : Nat) (x : Value) (m : Nat) (news : List Value) (w : World) : Prop where
 ty : (∃ e,P.underlying u = some (.slice e)) ∨ P.underlying u = some .string
 len : ∀ w',(Builtin.lenOf x).run P w' = .ok m w'
 cells : ∀ w',w'.heap = w.heap → (Builtin.firstCells size m x).run P w' = .ok news.toArray w'
 size : news.length = m * size
 one : ∀ v ∈ news,v.oneCell' = true
section
variable {P : Program} {w : World}
theorem zeros_no {u : TypeId} (h : (∃ e,P.underlying u = some (.slice e)) ∨ P.underlying u = some .string) :
  (do pure ((← underlying u) matches .int _) : Sem Bool).run P w = .ok false w:=by
 rcases h with ⟨e,h⟩ | h <;> simp [under_run h]
theorem app_nil0 (t u ty e : TypeId) (i : TypeInfo) (ht : P.underlying t = some (.slice e)) (hi : P.info? e = some i) (x : Value)
  (hx : Src P u i.size x 0 [] w) : (Builtin.append_ #[t,u] ty #[.slice none 0 0,x]).run P w = .ok (.slice none 0 0) w:=by
 have hz:=zeros_no (P:=P) (w:=w) hx.ty
 have h1:=hx.len w
 have h2:=hx.cells w rfl
 simp only [Builtin.append_,Sem.run_bind] at hz ⊢
 simp [under_run ht,sizeOf,typeInfo,hi]
 rcases hx.ty with ⟨e',h⟩ | h <;> simp [under_run h,h1,h2]
set_option maxHeartbeats 1000000 in
theorem app_nil (t u ty e : TypeId) (i : TypeInfo) (z : Value) (ht : P.underlying t = some (.slice e)) (hi : P.info? e = some i) (hz : i.zero = some z) (x : Value) (m : Nat) (news : List Value)
  (hx : Src P u i.size x m news w) (hm : m ≠ 0) (hbytes : m * i.bytes ≤ 140737488355328) (hb1 : 0 < i.bytes) :
  (Builtin.append_ #[t,u] ty #[.slice none 0 0,x]).run P w = .ok (.slice (some ⟨w.heap.size,0,none⟩) m (grownCap w m 0 e)) (w.drew.alloc (.cells (news.toArray ++ Builtin.zeroCells z.cells (grownCap w m 0 e - m)) e)):=by
 have hmm : m ≤ 140737488355328:=Nat.le_trans (Nat.le_mul_of_pos_right _ hb1) hbytes
 have hfit : ¬ (281474976710656 < Builtin.nextslicecap m 0 * i.bytes):=by rw [nextslicecap_zero (by omega)]; omega
 have hmi : ¬ (9223372036854775807 < (m : Int)):=by omega
 have h1:=hx.len w
 have h2:=hx.cells w.drew rfl
 rcases hx.ty with ⟨e',h⟩ | h <;>
  simp [Builtin.append_,under_run ht,under_run h,sizeOf,typeInfo,zeroValue,hi,hz,h1,hm,hmi,hfit,Question.forced,run_firstCells_none,h2,newRow,grownCap]
set_option maxHeartbeats 1000000 in
theorem app_room (t u ty e : TypeId) (i : TypeInfo) (ht : P.underlying t = some (.slice e)) (hi : P.info? e = some i) (x : Value) (n m cap g : Nat) (cur : Array Value) (news : List Value)
  (hx : Src P u i.size x m news w) (hroom : n + m ≤ cap) (hg : w.heap[g]? = some (.cells cur e (0,0))) (hfit : n * i.size + news.length ≤ cur.size) :
  (Builtin.append_ #[t,u] ty #[.slice (some ⟨g,0,none⟩) n cap,x]).run P w = .ok (.slice (some ⟨g,0,none⟩) (n + m) cap) (w.setRow g (cur.toList.take (n * i.size) ++ news ++ cur.toList.drop (n * i.size + news.length)).toArray):=by
 have hst:=run_storeCells_at P g (n * i.size) e news 0 cur w hg (by simpa using hfit) hx.one
 simp only [Nat.add_zero] at hst
 have h1:=hx.len w
 have h2:=hx.cells w rfl
 rcases hx.ty with ⟨e',h⟩ | h <;>
  simp [Builtin.append_,under_run ht,under_run h,sizeOf,typeInfo,hi,h1,hroom,h2,Addr_add_lit,hst]
set_option maxHeartbeats 1000000 in
theorem app_grow (t u ty e : TypeId) (i : TypeInfo) (z : Value) (ht : P.underlying t = some (.slice e)) (hi : P.info? e = some i) (hz : i.zero = some z) (x : Value) (n m cap g : Nat) (xs news : List Value)
  (hx : Src P u i.size x m news w) (hroom : ¬ n + m ≤ cap) (hxs : xs.length = n * i.size) (hcells : ∀ j v,xs[j]? = some v → w.cell? ((⟨g,0,none⟩ : Addr).add j) = some v)
  (hbytes : (n + m) * i.bytes ≤ 140737488355328) (hb1 : 0 < i.bytes) :
  (Builtin.append_ #[t,u] ty #[.slice (some ⟨g,0,none⟩) n cap,x]).run P w = .ok (.slice (some ⟨w.heap.size,0,none⟩) (n + m) (grownCap w (n + m) cap e))
   (w.drew.alloc (.cells (xs.toArray ++ news.toArray ++ Builtin.zeroCells z.cells (grownCap w (n + m) cap e - (n + m))) e)):=by
 have hnm : n + m ≤ 140737488355328:=Nat.le_trans (Nat.le_mul_of_pos_right _ hb1) hbytes
 have hfit : ¬ (281474976710656 < Builtin.nextslicecap (n + m) cap * i.bytes):=by
  have:=growslice_fits (need:=n + m) (old:=cap) (bytes:=i.bytes) (by omega) hbytes
  omega
 have hmi : ¬ (9223372036854775807 < (n : Int) + (m : Int)):=by omega
 have h1:=hx.len w
 have h2:=hx.cells w.drew rfl
 have hold:=run_firstCells_some (P:=P) w.drew i.size n ⟨g,0,none⟩ n cap xs hxs (by simpa using hcells)
 rcases hx.ty with ⟨e',h⟩ | h <;>
  simp [Builtin.append_,under_run ht,under_run h,sizeOf,typeInfo,zeroValue,hi,hz,h1,hroom,hmi,hfit,Question.forced,hold,h2,newRow,grownCap] <;>
  (congr 2; apply Array.ext'; simp)
theorem run_app_own (t u ty e : TypeId) (i : TypeInfo) (z : Value) (ht : P.underlying t = some (.slice e)) (hi : P.info? e = some i) (hz : i.zero = some z) (hzs : z.cells.size = i.size)
  (s : Option Addr) (n cap : Nat) (xs : List Value) (hown : w.ownsRow 0 e i.size (.slice s n cap) n xs) (x : Value) (m : Nat) (news : List Value) (hx : Src P u i.size x m news w)
  (hbytes : (n + m) * i.bytes ≤ 140737488355328) (hb1 : 0 < i.bytes) :
  ∃ s' cap' w',(Builtin.append_ #[t,u] ty #[.slice s n cap,x]).run P w = .ok (.slice s' (n + m) cap') w' ∧
   w'.ownsRow 0 e i.size (.slice s' (n + m) cap') (n + m) (xs ++ news) ∧ w.grownBy w' (Value.slice s n cap).ownBlock ∧
   (∀ a,s' = some a → s = some a ∨ a.block = w.heap.size) ∧ (s = none → m = 0 → s' = none):=by
 have hnm : n + m ≤ 140737488355328:=Nat.le_trans (Nat.le_mul_of_pos_right _ hb1) hbytes
 have hmax : n + m ≤ maxLen:=by simp only [maxLen]; omega
 have hlen : (xs ++ news).length = (n + m) * i.size:=by rw [List.length_append,hown.1,hx.size,Nat.add_mul]
 have grown : ∀ (old : Nat),old < n + m → ∀ row,
      (w.drew.alloc (.cells (xs.toArray ++ news.toArray ++ Builtin.zeroCells z.cells (grownCap w (n + m) old e - (n + m))) e)).ownsRow 0 e i.size
    (.slice (some ⟨w.heap.size,0,none⟩) (n + m) (grownCap w (n + m) old e)) (n + m) (xs ++ news) ∧
   w.grownBy (w.drew.alloc (.cells (xs.toArray ++ news.toArray ++ Builtin.zeroCells z.cells (grownCap w (n + m) old e - (n + m))) e)) row:=by
  intro old ho row
  have hge:=grownCap_ge w (n + m) old e
  have hcm : grownCap w (n + m) old e ≤ maxLen:=grownCap_le_maxLen w (n + m) old e hmax
  refine ⟨⟨hlen,.inr ⟨w.heap.size,_,_,rfl,Nat.zero_le _,heap_alloc_new w.drew _,hge,hcm,?_,?_⟩⟩,⟨rfl,rfl,rfl,by simp,fun k hk _=>Go.RowKit.Below.heap_alloc w.drew _ k hk⟩⟩
  ·simp only [Array.size_append,List.size_toArray,size_zeroCells,hzs]
   rw [← List.length_append,hlen,← Nat.add_mul]
   congr 1; omega
  ·simp only [Array.toList_append,List.append_assoc]
   rw [← List.append_assoc,← hlen]
   exact List.take_left
 rcases hown.2 with ⟨hv,hn0⟩ | ⟨g,cap0,cur,hv,_,hg,hnc,hcm,hcs,htake⟩
 ·injection hv with h1 h2 h3
  subst h1; subst h2; subst h3
  have hxs : xs = []:=List.eq_nil_of_length_eq_zero (by simpa using hown.1)
  subst hxs
  by_cases hm : m = 0
  ·subst hm
   have hn : news = []:=List.eq_nil_of_length_eq_zero (by simpa using hx.size)
   subst hn
   refine ⟨none,0,w,?_,World.ownsRow_nil w 0 e i.size,⟨rfl,rfl,rfl,Nat.le_refl _,fun _ _ _=>rfl⟩,by simp,fun _ _=>rfl⟩
   exact app_nil0 t u ty e i ht hi x hx
  ·have hr:=app_nil t u ty e i z ht hi hz x m news hx hm (by simpa using hbytes) hb1
   have hgr:=grown 0 (by omega) (Value.ownBlock (.slice none 0 0))
   simp only [Nat.zero_add,List.nil_append,Array.empty_append] at hgr hr ⊢
   exact ⟨_,_,_,hr,hgr.1,hgr.2,fun a ha=>.inr (by injection ha with ha; rw [← ha]),fun _ h=>absurd h hm⟩
 ·injection hv with h1 h2 h3
  subst h1; subst h3
  by_cases hroom : n + m ≤ cap
  ·have hfit : n * i.size + news.length ≤ cur.size:=by rw [hx.size,hcs,← Nat.add_mul]; exact Nat.mul_le_mul_right _ hroom
   have hr:=app_room t u ty e i ht hi x n m cap g cur news hx hroom hg hfit
   refine ⟨_,_,_,hr,⟨hlen,.inr ⟨g,cap,_,rfl,Nat.zero_le _,setRow_heap w g cur _ e _ hg,hroom,hcm,?_,?_⟩⟩,⟨rfl,rfl,rfl,by rw [size_setRow]; exact Nat.le_refl _,fun k _ hk=>setRow_other w g k _ (fun e=>hk (by simp [Value.ownBlock,e]))⟩,fun a ha=>.inl ha,fun h=>by cases h⟩
   ·simp only [List.size_toArray,List.length_append,List.length_take,List.length_drop,Array.length_toList]
    omega
   ·rw [htake,← hlen]
    exact List.take_left
  ·have hcells : ∀ j v,xs[j]? = some v → w.cell? ((⟨g,0,none⟩ : Addr).add j) = some v:=hown.cells (g:=g) rfl
   have hr:=app_grow t u ty e i z ht hi hz x n m cap g xs news hx hroom hown.1 hcells hbytes hb1
   have hgr:=grown cap (by omega) (Value.ownBlock (.slice (some ⟨g,0,none⟩) n cap))
   exact ⟨_,_,_,hr,hgr.1,hgr.2,fun a ha=>.inr (by injection ha with ha; rw [← ha]),fun h=>by cases h⟩
end
theorem flat_length (f : Nat → List Value) (size : Nat) : ∀ (n : Nat),(∀ i,i < n → (f i).length = size) → ((List.range n).flatMap f).length = n * size
 | 0,_=>by simp
 | n + 1,h=>by
  rw [List.range_succ,List.flatMap_append,List.length_append,flat_length f size n (fun i hi=>h i (by omega))]
  simp [h n (by omega),Nat.add_mul]
theorem flat_get (f : Nat → List Value) (size : Nat) : ∀ (n : Nat),(∀ i,i < n → (f i).length = size) → ∀ i j v,i < n → (f i)[j]? = some v → ((List.range n).flatMap f)[i * size + j]? = some v
 | 0,_,i,_,_,hi,_=>absurd hi (Nat.not_lt_zero _)
 | n + 1,h,i,j,v,hi,hv=>by
  have hl:=flat_length f size n (fun i hi=>h i (by omega))
  have hj : j < size:=by have:=(List.getElem?_eq_some_iff.1 hv).1; rw [h i hi] at this; exact this
  rw [List.range_succ,List.flatMap_append]
  by_cases e : i = n
  ·subst e
   rw [List.getElem?_append_right (by omega),hl,Nat.add_sub_cancel_left]
   simpa using hv
  ·have hin : i < n:=by omega
   have : i * size + j < n * size:=by
    have:=Nat.mul_le_mul_right size (show i + 1 ≤ n by omega)
    rw [Nat.add_mul] at this; omega
   rw [List.getElem?_append_left (by omega)]
   exact flat_get f size n (fun i hi=>h i (by omega)) i j v hin hv
def eraseK {α : Type} (r : Nat) : List (Nat × α) → List (Nat × α)
 | []=>[]
 | (k,v) :: l=>match Nat.beq k r with
  | true=>eraseK r l
  | false=>(k,v) :: eraseK r l
theorem look_eraseK {α : Type} {r : Nat} : ∀ {l : List (Nat × α)} {i : Nat} {v : α},look (eraseK r l) i = some v → i ≠ r ∧ look l i = some v
 | [],i,v,h=>by simp [eraseK,look] at h
 | (k,u) :: l,i,v,h=>by
  simp only [eraseK] at h
  cases hk : Nat.beq k r with
  | true =>
   rw [hk] at h
   obtain ⟨h1,h2⟩:=look_eraseK h
   refine ⟨h1,?_⟩
   simp only [look]
   have hkr:=(beq_iff _ _).1 hk
   cases hi : Nat.beq k i with
   | true=>have:=(beq_iff _ _).1 hi; omega
   | false=>exact h2
  | false =>
   rw [hk] at h
   simp only [look] at h ⊢
   cases hi : Nat.beq k i with
   | true =>
    rw [hi] at h
    have h1:=(beq_iff _ _).1 hi
    have h2:=beq_false hk
    exact ⟨by omega,h⟩
   | false=>rw [hi] at h; exact look_eraseK h
def Row.next (R : Row) (s : Option Addr) (m cap : Nat) (get : Nat → List SV) : Row:=⟨s,R.n + m,cap,R.elem,R.size,get,true,none⟩
def St.rowTo (s : St) (r : Nat) (R : Row) : St:={ s with rows:=(s.nr,R) :: eraseK r s.rows,nr:=s.nr + 1 }
theorem rowTo_le (s : St) (r : Nat) (R : Row) : s.W.le (s.rowTo r R).W:=by
 refine ⟨Nat.le_refl _,Nat.le_succ _,fun q hq R' hR'=>?_⟩
 have hq' : q < s.nr:=hq
 simp only [St.rowTo,St.W,look] at hR'
 split at hR'
 ·rename_i e; have:=(beq_iff _ _).1 e; omega
 ·exact (look_eraseK hR').2
section
variable {C : Ctx} {ρ : Nat → Nat} {s : St} {a : Act} {w w' : World}
theorem Sat.append (h : Sat C ρ s a w) {r : Nat} {R : Row} (hR : look s.rows r = some R) (ho : R.own = true) {q : Option Addr} {m cap : Nat} {news : List Value}
  (hown : w'.ownsRow 0 R.elem R.size (.slice q (R.n + m) cap) (R.n + m) (R.flat ++ news)) (hg : w.grownBy w' (Value.slice R.s R.n R.cap).ownBlock)
  (hq : ∀ ad,q = some ad → R.s = some ad ∨ ad.block = w.heap.size) (get : Nat → List SV) (h1 : ∀ i,i < R.n → get i = R.get i)
  (h2 : (List.range m).flatMap (fun i=>(get (R.n + i)).map SV.den0) = news) (h3 : ∀ i,i < m → (get (R.n + i)).length = R.size ∧ ∀ x ∈ get (R.n + i),x.plain) :
  Sat C ρ (s.rowTo r (R.next q m cap get)) a w':=by
 obtain ⟨hr0,hok,huse⟩:=h.rows r R hR
 have hblk : ∀ k,(Value.slice R.s R.n R.cap).ownBlock = some k → R.uses k:=by
  intro k hk
  cases hs : R.s with
  | none=>rw [hs] at hk; cases hk
  | some ad=>rw [hs] at hk; simp only [Value.ownBlock,Option.some.injEq] at hk; exact ⟨ad,hs,hk,.inl ho⟩
 have hsame : ∀ k,k < w.heap.size → ¬ R.uses k → w'.heap[k]? = w.heap[k]?:=fun k hk hn=>hg.block k hk (fun e=>hn (hblk k e.symm))
 have hle:=rowTo_le s r (R.next q m cap get)
 have hflat : (R.next q m cap get).flat = R.flat ++ news:=by
  simp only [Row.flat,Row.next]
  rw [List.range_add,List.flatMap_append,← h2]
  congr 1
  ·have : ∀ (l : List Nat),(∀ i ∈ l,i < R.n) → l.flatMap (fun i=>(get i).map SV.den0) = l.flatMap (fun i=>(R.get i).map SV.den0):=by
    intro l
    induction l with
    | nil=>intro _; rfl
    | cons c l ih=>intro hl; simp only [List.flatMap_cons]; rw [h1 c (hl c (List.mem_cons_self ..)),ih (fun i hi=>hl i (List.mem_cons_of_mem _ hi))]
   exact this _ (fun i hi=>List.mem_range.1 hi)
  ·rw [List.flatMap_map]
 have hlens : ∀ i,i < R.n + m → (get i).length = R.size ∧ ∀ x ∈ get i,x.plain:=by
  intro i hi
  by_cases hin : i < R.n
  ·rw [h1 i hin]; exact hok.len i hin
  ·have:=h3 (i - R.n) (by omega)
   rwa [show R.n + (i - R.n) = i by omega] at this
 have hokN : (R.next q m cap get).ok w':=by
  refine ⟨hlens,fun hpos=>?_,fun _ _=>(by rw [hflat]; exact hown),fun o ho=>(by cases ho)⟩
  have hpos' : 0 < R.n + m:=hpos
  rcases hown.2 with ⟨hv,hz⟩ | ⟨g,cap0,cur,hv,_⟩
  ·omega
  ·injection hv with e1 e2 e3
   refine ⟨g,0,e1,fun i j x hi hx=>?_⟩
   have hcell:=World.ownsRow.cells (w:=w') hown (g:=g) (by rw [e1]; rfl)
   have hf:=flat_get (fun i=>(get i).map SV.den0) R.size (R.n + m) (fun i hi=>by rw [List.length_map]; exact (hlens i hi).1) i j x.den0 hi (by
    have hx' : (get i)[j]? = some x:=hx
    simp [hx'])
   have hf' : (R.flat ++ news)[i * R.size + j]? = some x.den0:=by rw [← hflat]; exact hf
   have:=hcell _ _ hf'
   rw [Addr_add_lit] at this
   exact this
 have huseN : ∀ k,(R.next q m cap get).uses k → R.uses k ∨ k = w.heap.size ∧ k < w'.heap.size:=by
  rintro k ⟨ad,hs,hk,_⟩
  rcases hq ad hs with e | e
  ·exact .inl ⟨ad,e,hk,.inl ho⟩
  ·refine .inr ⟨by omega,?_⟩
   have hlt : ∀ k,(Value.slice q (R.n + m) cap).ownBlock = some k → k < w'.heap.size:=fun k hk=>(World.ownsRow.lt hown k hk).2
   have hs' : q = some ad:=hs
   exact hlt k (by rw [hs']; simp [Value.ownBlock,hk])
 refine ⟨h.n,fun i v hv=>⟨(h.slots i v hv).1,RV.wf_mono hle v (h.slots i v hv).2⟩,h.grds,?_,h.inj,fun b hb=>Nat.lt_of_lt_of_le (h.lt b hb) hg.size,h.defers,?_,?_,?_,?_,h.fix⟩
 ·intro b blk hb
  obtain ⟨k1,k2,k3,k4⟩:=h.heap b blk hb
  refine ⟨k1,?_,fun x hx=>SV.wf_mono hle x (k3 x hx),k4⟩
  rw [hsame _ (h.lt b k1) (fun hu=>(huse _ hu).2.1 b k1 rfl)]
  exact k2
 ·refine ⟨hg.os.trans h.chg.os,hg.tape.trans h.chg.tape,hg.output.trans h.chg.output,Nat.le_trans h.chg.size hg.size,fun k hk hS=>?_⟩
  rw [hsame k (Nat.lt_of_lt_of_le hk h.chg.size) (fun hu=>?_)]
  ·exact h.chg.block k hk hS
  ·rcases (huse k hu).2.2 ho with e | e
   ·omega
   ·exact hS e
 ·intro r' R' hR'
  simp only [St.rowTo,look] at hR'
  split at hR'
  ·rename_i e
   cases hR'
   have:=(beq_iff _ _).1 e
   refine ⟨by show r' < s.nr + 1; omega,hokN,fun k hk=>?_⟩
   rcases huseN k hk with hu | ⟨rfl,hlt⟩
   ·obtain ⟨u1,u2,u3⟩:=huse k hu
    exact ⟨Nat.lt_of_lt_of_le u1 hg.size,u2,fun _=>u3 ho⟩
   ·exact ⟨hlt,fun b hb=>by have:=h.lt b hb; omega,fun _=>.inl h.chg.size⟩
  ·obtain ⟨hne,hl⟩:=look_eraseK hR'
   obtain ⟨k0,k1,k2⟩:=h.rows r' R' hl
   refine ⟨by show r' < s.nr + 1; omega,k1.congr (fun k hk=>hsame k (k2 k hk).1 (fun hu=>h.rowsD r r' R R' hR hl (fun e=>hne e.symm) ho k hu hk)),fun k hk=>?_⟩
   obtain ⟨u1,u2,u3⟩:=k2 k hk
   exact ⟨Nat.lt_of_lt_of_le u1 hg.size,u2,u3⟩
 ·intro r1 r2 R1 R2 hR1 hR2 hne ho1 k hk1 hk2
  simp only [St.rowTo,look] at hR1 hR2
  split at hR1
  ·rename_i e1
   cases hR1
   split at hR2
   ·rename_i e2; have:=(beq_iff _ _).1 e1; have:=(beq_iff _ _).1 e2; omega
   ·obtain ⟨hne2,hl2⟩:=look_eraseK hR2
    rcases huseN k hk1 with hu | ⟨rfl,_⟩
    ·exact h.rowsD r r2 R R2 hR hl2 (fun e=>hne2 e.symm) ho k hu hk2
    ·have:=((h.rows r2 R2 hl2).2.2 _ hk2).1; omega
  ·obtain ⟨hne1,hl1⟩:=look_eraseK hR1
   split at hR2
   ·cases hR2
    rcases huseN k hk2 with hu | ⟨rfl,_⟩
    ·exact h.rowsD r1 r R1 R hl1 hR hne1 ho1 k hk1 hu
    ·have:=((h.rows r1 R1 hl1).2.2 _ hk1).1; omega
   ·obtain ⟨hne2,hl2⟩:=look_eraseK hR2
    exact h.rowsD r1 r2 R1 R2 hl1 hl2 hne ho1 k hk1 hk2
 ·intro p hp
  obtain ⟨p1,p2,p3⟩:=h.pers p hp
  have hk : ∀ k,p.D k → w'.heap[k]? = w.heap[k]?:=fun k hD=>hsame k (p3 k hD).1 ((p3 k hD).2.2 r R hR ho)
  refine ⟨p2 _ hk,fun w2 hw2=>p2 w2 (fun k hD=>(hw2 k hD).trans (hk k hD)),fun k hD=>?_⟩
  obtain ⟨u1,u2,u3⟩:=p3 k hD
  refine ⟨Nat.lt_of_lt_of_le u1 hg.size,u2,fun r' R' hR' ho' hu'=>?_⟩
  simp only [St.rowTo,look] at hR'
  split at hR'
  ·cases hR'
   rcases huseN k hu' with hu | ⟨rfl,_⟩
   ·exact u3 r R hR ho hu
   ·omega
  ·exact u3 r' R' (look_eraseK hR').2 ho' hu'
theorem Sat.nilRow (h : Sat C ρ s a w) (e : TypeId) (size : Nat) (get : Nat → List SV) :
  Sat C ρ { s with rows:=(s.nr,⟨none,0,0,e,size,get,true,none⟩) :: s.rows,nr:=s.nr + 1 } a w:=by
 have hle : s.W.le ⟨s.next,s.nr + 1,(s.nr,⟨none,0,0,e,size,get,true,none⟩) :: s.rows⟩:=by
  refine ⟨Nat.le_refl _,Nat.le_succ _,fun r hr R hR=>?_⟩
  have hr' : r < s.nr:=hr
  simp only [look] at hR
  split at hR
  ·rename_i e; have:=(beq_iff _ _).1 e; omega
  ·exact hR
 have hno : ∀ k,¬ (⟨none,0,0,e,size,get,true,none⟩ : Row).uses k:=by
  rintro k ⟨ad,hs,_⟩; cases hs
 have hlt : ∀ r R,look s.rows r = some R → r < s.nr:=fun r R hR=>(h.rows r R hR).1
 refine ⟨h.n,fun i v hv=>⟨(h.slots i v hv).1,RV.wf_mono hle v (h.slots i v hv).2⟩,h.grds,?_,h.inj,h.lt,h.defers,h.chg,?_,?_,?_,h.fix⟩
 ·intro b blk hb
  obtain ⟨k1,k2,k3,k4⟩:=h.heap b blk hb
  exact ⟨k1,k2,fun x hx=>SV.wf_mono hle x (k3 x hx),k4⟩
 ·intro r R hR
  simp only [look] at hR
  split at hR
  ·rename_i e'
   cases hR
   have:=(beq_iff _ _).1 e'
   exact ⟨by show r < s.nr + 1; omega,⟨fun i hi=>absurd hi (Nat.not_lt_zero _),fun hp=>absurd hp (Nat.lt_irrefl _),fun _ _=>World.ownsRow_nil w 0 e size,fun o ho=>(by cases ho)⟩,fun k hk=>absurd hk (hno k)⟩
  ·obtain ⟨k0,k1,k2⟩:=h.rows r R hR
   exact ⟨by show r < s.nr + 1; omega,k1,k2⟩
 ·intro r1 r2 R1 R2 h1 h2 hne ho k hk1 hk2
  simp only [look] at h1 h2
  split at h1
  ·cases h1; exact hno k hk1
  ·split at h2
   ·cases h2; exact hno k hk2
   ·exact h.rowsD r1 r2 R1 R2 h1 h2 hne ho k hk1 hk2
 ·intro p hp
  obtain ⟨p1,p2,p3⟩:=h.pers p hp
  refine ⟨p1,p2,fun k hD=>⟨(p3 k hD).1,(p3 k hD).2.1,fun r R hR ho=>?_⟩⟩
  simp only [look] at hR
  split at hR
  ·cases hR; exact hno k
  ·exact (p3 k hD).2.2 r R hR ho
end
end Go.SX
end
section
namespace Go.SX
open Go
def plainB : SV → Bool
 | .int _ _ | .bool _ | .sb _ | .str _ | .val _=>true
 | _=>false
def allPlain : List SV → Bool
 | []=>true
 | x :: l=>match plainB x with
  | true=>match x.fit with
   | true=>allPlain l
   | false=>false
  | false=>false
structure App where
 t : TypeId
 u : TypeId
 e : TypeId
 bytes : Nat
 r : Nat
 R : Row
 m : Nat
 get : Nat → List SV
def fitRows (get : Nat → List SV) : Nat → Bool
 | 0=>true
 | n + 1=>match fitRows get n with
  | true=>allPlain (get n)
  | false=>false
def srcS (P : Program) (s : St) (u : TypeId) (sz : Nat) : CV → Option (Nat × (Nat → List SV))
 | .one (.sli b m _)=>match look s.heap b with
  | some blk=>match allPlain blk.cells,Nat.beq blk.cells.length (m * sz),P.underlying u with
   | true,true,some (.slice _)=>some (m,fun j=>(blk.cells.drop (j * sz)).take sz)
   | _,_,_=>none
  | none=>none
 | .one (.str l)=>match Nat.beq sz 1,P.underlying u with
  | true,some .string=>some (l.length,fun j=>[.int .u8 ((l.getD j 0).toNat : Int)])
  | _,_=>none
 | .one (.row r _ _ _)=>match look s.rows r with
  | some R=>match Nat.beq R.size sz,fitRows R.get R.n,P.underlying u with
   | true,true,some (.slice _)=>some (R.n,R.get)
   | _,_,_=>none
  | none=>none
 | _=>none
def appS (P : Program) (s : St) (cl : Call) : Option App :=
 match cl.callee with
 | .builtin .append=>match cl.args.toList,cl.argTypes.toList with
  | [x,y],[t,u]=>match ev s none x,ev s none y with
   | some (.one (.row r _ _ _)),some src=>match look s.rows r,P.underlying t with
    | some R,some (.slice e)=>match R.own,Nat.beq R.elem e,P.info? e,R.obj with
     | true,true,some i,none=>match Nat.beq i.size R.size,Nat.blt 0 i.bytes,i.zero with
      | true,true,some z=>match Nat.beq z.cells.size i.size,srcS P s u R.size src with
       | true,some (m,get)=>some ⟨t,u,e,i.bytes,r,R,m,get⟩
       | _,_=>none
      | _,_,_=>none
     | _,_,_,_=>none
    | _,_=>none
   | _,_=>none
  | _,_=>none
 | _=>none
section
variable {C : Ctx} {ρ : Nat → Nat} {s : St} {a : Act} {w : World}
theorem plainB_ok {x : SV} (h : plainB x = true) : x.plain:=by
 cases x <;> first | trivial | (simp [plainB] at h)
theorem allPlain_ok : ∀ {l : List SV},allPlain l = true → ∀ x ∈ l,x.plain ∧ x.fit = true
 | [],_,x,hx=>by simp at hx
 | y :: l,h,x,hx=>by
  simp only [allPlain] at h
  split at h
  ·rename_i hp
   split at h
   ·rename_i hf
    rcases List.mem_cons.1 hx with rfl | hx
    ·exact ⟨plainB_ok hp,hf⟩
    ·exact allPlain_ok h x hx
   ·cases h
  ·cases h
theorem flatMap_drop_take {α : Type} (sz : Nat) : ∀ (m : Nat) (l : List α),l.length = m * sz → (List.range m).flatMap (fun j=>(l.drop (j * sz)).take sz) = l
 | 0,l,h=>by
  have : l = []:=List.eq_nil_of_length_eq_zero (by simpa using h)
  simp [this]
 | m + 1,l,h=>by
  rw [List.range_succ,List.flatMap_append]
  have hl : (l.take (m * sz)).length = m * sz:=by rw [List.length_take,h,Nat.add_mul]; omega
  have ih:=flatMap_drop_take sz m (l.take (m * sz)) hl
  have e : (List.range m).flatMap (fun j=>(l.drop (j * sz)).take sz) = (List.range m).flatMap (fun j=>((l.take (m * sz)).drop (j * sz)).take sz):=by
   have : ∀ (r : List Nat),(∀ j ∈ r,j < m) → r.flatMap (fun j=>(l.drop (j * sz)).take sz) = r.flatMap (fun j=>((l.take (m * sz)).drop (j * sz)).take sz):=by
    intro r
    induction r with
    | nil=>intro _; rfl
    | cons c r ih =>
     intro hr
     simp only [List.flatMap_cons]
     rw [ih (fun j hj=>hr j (List.mem_cons_of_mem _ hj))]
     congr 1
     have hc:=hr c (List.mem_cons_self ..)
     have : c * sz + sz ≤ m * sz:=by
      have:=Nat.mul_le_mul_right sz (show c + 1 ≤ m by omega)
      rw [Nat.add_mul] at this; omega
     rw [List.drop_take,List.take_take,Nat.min_eq_left (by omega)]
   exact this _ (fun j hj=>List.mem_range.1 hj)
  rw [e,ih]
  simp only [List.flatMap_cons,List.flatMap_nil,List.append_nil]
  have : (l.drop (m * sz)).take sz = l.drop (m * sz):=List.take_of_length_le (by rw [List.length_drop,h,Nat.add_mul]; omega)
  rw [this,List.take_append_drop]
theorem fitRows_ok {get : Nat → List SV} : ∀ {n : Nat},fitRows get n = true → ∀ i,i < n → allPlain (get i) = true
 | 0,_,i,hi=>absurd hi (Nat.not_lt_zero i)
 | n + 1,h,i,hi=>by
  simp only [fitRows] at h
  split at h
  ·rename_i h1
   by_cases e : i = n
   ·rw [e]; exact h
   ·exact fitRows_ok h1 i (by omega)
  ·cases h
theorem flatAtN {get : Nat → List SV} {sz : Nat} : ∀ (n : Nat),(∀ i,i < n → (get i).length = sz) → ∀ (p : Nat) (v : Value),((List.range n).flatMap fun i=>(get i).map SV.den0)[p]? = some v → ∃ i j x,i < n ∧ j < sz ∧ p = i * sz + j ∧ (get i)[j]? = some x ∧ x.den0 = v
 | 0,_,p,v,h=>by simp at h
 | n + 1,hl,p,v,h=>by
  have hlen:=flat_length (fun i=>(get i).map SV.den0) sz n (fun i hi=>by rw [List.length_map]; exact hl i (by omega))
  rw [List.range_succ,List.flatMap_append] at h
  by_cases hp : p < n * sz
  ·rw [List.getElem?_append_left (by omega)] at h
   obtain ⟨i,j,x,h1,h2,h3,h4,h5⟩:=flatAtN n (fun i hi=>hl i (by omega)) p v h
   exact ⟨i,j,x,by omega,h2,h3,h4,h5⟩
  ·rw [List.getElem?_append_right (by omega),hlen] at h
   simp only [List.flatMap_cons,List.flatMap_nil,List.append_nil,List.getElem?_map,Option.map_eq_some_iff] at h
   obtain ⟨x,hx,hv⟩:=h
   have hj:=(List.getElem?_eq_some_iff.1 hx).1
   rw [hl n (by omega)] at hj
   exact ⟨n,p - n * sz,x,by omega,hj,by omega,hx,hv⟩
theorem srcS_sound {W : WF} (h : SatP ρ s W a w) {u : TypeId} {sz : Nat} {x : CV} {m : Nat} {get : Nat → List SV} {P : Program} (hx : x.wf W) (hs : srcS P s u sz x = some (m,get)) :
  Src P u sz (x.den ρ) m ((List.range m).flatMap fun i=>(get i).map SV.den0) w ∧ ∀ i,i < m → (get i).length = sz ∧ ∀ y ∈ get i,y.plain:=by
 unfold srcS at hs
 split at hs
 ·rename_i b m' cap
  split at hs
  ·rename_i blk hb
   split at hs
   ·rename_i e hap hl hu
    cases hs
    obtain ⟨h2,h3⟩:=h.heap b blk hb
    have hlen:=(beq_iff _ _).1 hl
    have hpl:=allPlain_ok hap
    have hmap : blk.cells.map (SV.den ρ) = blk.cells.map SV.den0:=List.map_congr_left fun x hx=>SV.plain_den (hpl x hx).1 ρ
    have hflat : ((List.range m).flatMap fun i=>((blk.cells.drop (i * sz)).take sz).map SV.den0) = blk.cells.map (SV.den ρ):=by
     rw [hmap]
     conv=>rhs; rw [← flatMap_drop_take sz m blk.cells hlen]
     rw [List.map_flatMap]
    refine ⟨?_,fun i hi=>⟨?_,fun y hy=>(hpl y (List.mem_of_mem_drop (List.mem_of_mem_take hy))).1⟩⟩
    ·rw [hflat]
     refine ⟨.inl ⟨_,hu⟩,fun w'=>rfl,fun w' hw'=>?_,by simpa using hlen,?_⟩
     ·refine run_firstCells_some (P:=P) w' sz m ⟨ρ b,0,none⟩ m cap _ (by simpa using hlen) (fun j v hj=>?_)
      rw [Addr_add_lit]
      simp only [World.cell?,hw',h2]
      simpa using hj
     ·intro v hv
      obtain ⟨x,hx,rfl⟩:=List.mem_map.1 hv
      exact fit_sound (hpl x hx).2
    ·have : i * sz + sz ≤ m * sz:=by
      have:=Nat.mul_le_mul_right sz (show i + 1 ≤ m by omega)
      rw [Nat.add_mul] at this; omega
     rw [List.length_take,List.length_drop,hlen]; omega
   ·cases hs
  ·cases hs
 ·rename_i l
  split at hs
  ·rename_i hsz hu
   cases hs
   have:=(beq_iff _ _).1 hsz
   subst this
   refine ⟨?_,fun i hi=>⟨rfl,fun y hy=>by simp at hy; subst hy; trivial⟩⟩
   have hflat : ((List.range l.length).flatMap fun i=>[SV.int IntKind.u8 ((l.getD i 0).toNat : Int)].map SV.den0) = l.map fun b=>Value.int .u8 (b.toNat : Int):=by
    have : ∀ (n : Nat),n ≤ l.length → ((List.range n).flatMap fun i=>[SV.int IntKind.u8 ((l.getD i 0).toNat : Int)].map SV.den0) = (l.take n).map fun b=>Value.int .u8 (b.toNat : Int):=by
     intro n
     induction n with
     | zero=>intro _; simp
     | succ n ih =>
      intro hn
      rw [List.range_succ,List.flatMap_append,ih (by omega),List.take_succ_eq_append_getElem (show n < l.length by omega),List.map_append]
      congr 1
      simp [SV.den0,SV.den,List.getElem?_eq_getElem (show n < l.length by omega)]
    have:=this l.length (Nat.le_refl _)
    rwa [List.take_length] at this
   rw [hflat]
   refine ⟨.inr hu,fun w'=>rfl,fun w' _=>?_,by simp,?_⟩
   ·simp only [CV.den,SV.den,Builtin.firstCells,Sem.run_pure]
    congr 1
    have hex : (⟨l.toArray⟩ : ByteArray).extract 0 l.length = ⟨l.toArray⟩:=by
     apply ByteArray.ext
     simp [ByteArray.data_extract]
    rw [hex]
    simp
   ·intro v hv
    obtain ⟨b,_,rfl⟩:=List.mem_map.1 hv
    rfl
  ·cases hs
 ·rename_i r q0 n0 c0
  split at hs
  ·rename_i R hR
   split at hs
   ·rename_i e hsz hfit hu
    cases hs
    have hsz:=(beq_iff _ _).1 hsz
    subst hsz
    obtain ⟨hok,hW⟩:=h.rows r R hR
    obtain ⟨rfl,rfl,rfl⟩:=hx.2 R hW
    have hlen:=fun i hi=>(hok.len i hi).1
    refine ⟨⟨.inl ⟨_,hu⟩,fun w'=>rfl,fun w' hw'=>?_,?_,?_⟩,fun i hi=>⟨(hok.len i hi).1,fun y hy=>(hok.len i hi).2 y hy⟩⟩
    ·show (Builtin.firstCells R.size R.n (.slice R.s R.n R.cap)).run P w' = _
     have hfl : ((List.range R.n).flatMap fun i=>(R.get i).map SV.den0).length = R.n * R.size:=flat_length (fun i=>(R.get i).map SV.den0) R.size R.n (fun i hi=>by rw [List.length_map]; exact hlen i hi)
     by_cases hpos : 0 < R.n
     ·obtain ⟨b,off,e1,e2⟩:=hok.addr hpos
      rw [e1]
      refine run_firstCells_some (P:=P) w' R.size R.n ⟨b,off,none⟩ R.n R.cap _ hfl (fun j v hj=>?_)
      obtain ⟨i,m,x,h1,h2,rfl,h4,rfl⟩:=flatAtN R.n hlen j v hj
      have:=e2 i m x h1 h4
      rw [Addr_add_lit]
      simp only [World.cell?,hw'] at this ⊢
      exact this
     ·have hz : R.n = 0:=by omega
      rw [hz]
      cases R.s with
      | none=>exact run_firstCells_none w' R.size 0 0 R.cap
      | some ad=>exact run_firstCells_some (P:=P) w' R.size 0 ad 0 R.cap [] (by simp) (fun j v hj=>by simp at hj)
    ·exact flat_length (fun i=>(R.get i).map SV.den0) R.size R.n (fun i hi=>by rw [List.length_map]; exact hlen i hi)
    ·intro v hv
     obtain ⟨p,hp⟩:=List.mem_iff_getElem?.1 hv
     obtain ⟨i,m,x,h1,h2,_,h4,rfl⟩:=flatAtN R.n hlen p v hp
     have hm : x ∈ R.get i:=List.mem_of_getElem? h4
     have:=fit_sound (ρ:=fun _=>0) (allPlain_ok (fitRows_ok hfit i h1) x hm).2
     exact this
   ·cases hs
  ·cases hs
 ·cases hs
theorem append_run (h : Sat C ρ s a w) {cl : Call} {ty : TypeId} {A : App} (hA : appS C.P s cl = some A) (hb : (A.R.n + A.m) * A.bytes ≤ 140737488355328)
  (get : Nat → List SV) (h1 : ∀ i,i < A.R.n → get i = A.R.get i) (h2 : ∀ i,i < A.m → get (A.R.n + i) = A.get i) :
  ∃ q cap w',(do let d ← resolve a.eval cl ty; invoke d.target d.args : Sem Next).run C.P w = .ok (.value (.slice q (A.R.n + A.m) cap)) w' ∧
   Sat C ρ (s.rowTo A.r (A.R.next q A.m cap get)) a w' ∧ Chg (fun k=>A.R.uses k) w w' ∧ look s.rows A.r = some A.R:=by
 obtain ⟨callee,args,argTypes⟩:=cl
 unfold appS at hA
 simp only at hA
 split at hA
 ·split at hA
  ·rename_i x y t u hargs htys
   have ha : args = #[x,y]:=by apply Array.ext'; simpa using hargs
   have htt : argTypes = #[t,u]:=by apply Array.ext'; simpa using htys
   subst ha; subst htt
   split at hA
   ·rename_i r q0 n0 cap0 src hx hy
    split at hA
    ·rename_i R e hR hu
     split at hA
     ·rename_i i hown he hi hobj
      split at hA
      ·rename_i z hsz hby hz
       split at hA
       ·rename_i m g hzs hsrc
        cases hA
        obtain ⟨e1,e1w⟩:=ev_sound h.toP (GcOk.none s) hx
        obtain ⟨e2,e2w⟩:=ev_sound h.toP (GcOk.none s) hy
        obtain ⟨hS,hgl⟩:=srcS_sound h.toP e2w hsrc
        have hsz':=(beq_iff _ _).1 hsz
        have hzs':=(beq_iff _ _).1 hzs
        have he':=(beq_iff _ _).1 he
        have hby' : 0 < i.bytes:=by rw [Nat.blt_eq] at hby; exact hby
        obtain ⟨_,hwf⟩:=e1w
        obtain ⟨rfl,rfl,rfl⟩:=hwf R hR
        have hok:=(h.rows r R hR).2.1.own hown hobj
        rw [he',← hsz'] at hok
        rw [← hsz'] at hS
        obtain ⟨q,cap,w',hr,ho,hgr,hq,_⟩:=run_app_own (P:=C.P) (w:=w) t u ty e i z hu hi hz hzs' R.s R.n R.cap R.flat hok (src.den ρ) m _ hS hb hby'
        refine ⟨q,cap,w',?_,?_,?_,hR⟩
        ·simp only [resolve,Sem.run_bind,Sem.run_pure,Result.andThen_ok,invoke,builtin,List.map_toArray,List.map_cons,List.map_nil,e1,e2]
         have : CV.den ρ (.one (.row r R.s R.n R.cap)) = .slice R.s R.n R.cap:=rfl
         rw [this,hr]
         rfl
        ·refine h.append hR hown (news:=(List.range m).flatMap fun i=>(g i).map SV.den0) (by rw [he',← hsz']; exact ho) hgr hq get h1 ?_ (fun j hj=>by rw [h2 j hj]; exact hgl j hj)
         have : ∀ (l : List Nat),(∀ j ∈ l,j < m) → l.flatMap (fun j=>(get (R.n + j)).map SV.den0) = l.flatMap (fun j=>(g j).map SV.den0):=by
          intro l
          induction l with
          | nil=>intro _; rfl
          | cons c l ih=>intro hl; simp only [List.flatMap_cons]; rw [h2 c (hl c (List.mem_cons_self ..)),ih (fun j hj=>hl j (List.mem_cons_of_mem _ hj))]
         exact this _ (fun j hj=>List.mem_range.1 hj)
        ·refine ⟨hgr.os,hgr.tape,hgr.output,hgr.size,fun k hk hn=>hgr.block k hk (fun e=>hn ?_)⟩
         cases hs : R.s with
         | none=>rw [hs] at e; cases e
         | some ad=>rw [hs] at e; simp only [Value.ownBlock,Option.some.injEq] at e; exact ⟨ad,hs,e.symm,.inl hown⟩
       ·cases hA
      ·cases hA
     ·cases hA
    ·cases hA
   ·cases hA
  ·cases hA
 ·cases hA
def opOf (c : Cfg) : Option Oper :=
 match c.todo with
 | .inRegion ops (i :: _) :: _=>ops[i]?
 | _=>none
def callAt (o : Oper) : Option Call :=
 match o.op with
 | .call cl=>some cl
 | _=>none
def appOf (P : Program) (c : Cfg) : Option App :=
 match c.todo with
 | .inRegion ops (i :: _) :: _=>match ops[i]? with
  | some o=>match grdOf c.st ops o.guard with
   | .yes=>match callAt o with
    | some cl=>appS P c.st cl
    | none=>none
   | _=>none
  | none=>none
 | _=>none
def afterD (c : Cfg) (s : St) (v : RV) : Cfg:=(afterOp c s v).getD ⟨[],c.st⟩
theorem afterD_some {c : Cfg} {s : St} {v : RV} (h : (afterOp c s v).isSome = true) : afterOp c s v = some (afterD c s v):=by
 obtain ⟨c',hc⟩:=Option.isSome_iff_exists.1 h
 simp [afterD,hc]
theorem V.append (A : App) (get : Nat → List SV) {c : Cfg} (hA : appOf C.P c = some A) (hb : (A.R.n + A.m) * A.bytes ≤ 140737488355328)
  (h1 : ∀ i,i < A.R.n → get i = A.R.get i) (h2 : ∀ i,i < A.m → get (A.R.n + i) = A.get i)
  (haf : ∀ q cap,(afterOp c (c.st.rowTo A.r (A.R.next q A.m cap get)) (.v (.one (.row c.st.nr q (A.R.n + A.m) cap)))).isSome = true)
  (k : ∀ q cap,V C (afterD c (c.st.rowTo A.r (A.R.next q A.m cap get)) (.v (.one (.row c.st.nr q (A.R.n + A.m) cap))))) : V C c:=by
 intro ρ a w hS
 obtain ⟨todo,st⟩:=c
 unfold appOf at hA
 simp only at hA haf k hS ⊢
 split at hA
 ·rename_i ops i l k'
  split at hA
  ·rename_i o ho
   split at hA
   ·rename_i hg
    split at hA
    ·rename_i cl hcl
     obtain ⟨q,cap,w',hr,hS',_,hR⟩:=append_run (ty:=o.type) hS hA hb get h1 h2
     have hop : o.op = .call cl:=by
      unfold callAt at hcl
      split at hcl
      ·rename_i e; cases hcl; exact e
      ·cases hcl
     refine Ok.op_value ho (grd_yes hS hg) (by unfold execOp; rw [hop]; exact hr) ?_
     have haf':=afterD_some (haf q cap)
     have hk:=k q cap
     revert hk
     generalize afterD _ _ _ = c' at haf'
     intro hk
     simp only [afterOp,ho] at haf'
     split at haf'
     ·rename_i s' hput
      cases haf'
      have hwf : (RV.v (.one (.row st.nr q (A.R.n + A.m) cap))).wf (st.rowTo A.r (A.R.next q A.m cap get)).W:=by
       refine ⟨Nat.lt_succ_self _,fun R hR=>?_⟩
       simp only [St.rowTo,St.W,look,Nat.beq_refl] at hR
       cases hR
       exact ⟨rfl,rfl,rfl⟩
      exact hk ρ _ _ (hS'.put hput hwf (fun g pol b x e=>by cases e))
     ·cases haf'
    ·cases hA
   ·cases hA
  ·cases hA
 ·cases hA
theorem V.nil (t : Nat) (e : TypeId) (size : Nat) (get : Nat → List SV) {c : Cfg} (hl : look c.st.slots t = some (.v (.one (.val (.slice none 0 0))))) (hg : hasNat c.st.gs t = false)
  (h : V C ⟨c.todo,{ c.st with slots:=upd c.st.slots t (.v (.one (.row c.st.nr none 0 0))),rows:=(c.st.nr,⟨none,0,0,e,size,get,true,none⟩) :: c.st.rows,nr:=c.st.nr + 1 }⟩) : V C c:=by
 intro ρ a w hS
 have h1:=hS.nilRow e size get
 refine h ρ a w ⟨h1.n,?_,?_,h1.heap,h1.inj,h1.lt,h1.defers,h1.chg,h1.rows,h1.rowsD,h1.pers,h1.fix⟩
 ·intro i v hv
  simp only [look_upd] at hv
  by_cases e' : t = i
  ·rw [if_pos e'] at hv
   cases hv
   refine ⟨?_,⟨Nat.lt_succ_self _,fun R hR=>?_⟩⟩
   ·have:=(hS.slots t _ hl).1
    rw [← e',this]
    rfl
   ·simp only [St.W,look,Nat.beq_refl] at hR
    cases hR
    exact ⟨rfl,rfl,rfl⟩
  ·rw [if_neg e'] at hv
   exact h1.slots i v hv
 ·intro i g pol b x hv
  simp only [look_upd] at hv ⊢
  by_cases e' : t = i
  ·rw [if_pos e'] at hv; cases hv
  ·rw [if_neg e'] at hv
   obtain ⟨k1,k2⟩:=hS.grds i g pol b x hv
   refine ⟨k1,?_⟩
   rw [if_neg (fun e2=>by rw [e2,k1] at hg; cases hg)]
   exact k2
end
end Go.SX
end
