/- A symbolic run of the program that Lean checks, and what the functions of the program come to by it: part 5 of 11. -/
import Derived.RangeFuncNested
import Derived.Test.YticgechhgdgjlaaGreatDoorProg
import Derived.Tactics
import Derived.Tactics2
import Derived.Defers
import Derived.Recover
import Derived.Laws.Pointers
import Derived.ProofKit
import Derived.ReadAgain
import Derived.Deep.Onto
import Derived.ChangeMaps5
import Derived.OpenShut
import Derived.Test.YticgechhgdgjlaaGreatDoorRAD
set_option linter.unusedVariables false
section
namespace Go.SX
open Go
def St.memOf (s m : St) : St:={ s with heap:=m.heap,next:=m.next,rows:=m.rows,nr:=m.nr,pers:=m.pers }
def inSt (n : Nat) (xs : List CV) (s : St) : St :=
 { n:=n,slots:=enum xs 0,gs:=[],heap:=s.heap,next:=s.next,rows:=s.rows,nr:=s.nr,pers:=s.pers,wr:=s.wr,fx:=s.next,lit:=s.lit }
def Ctx.inl (C : Ctx) (f : FuncId) (R : Ending → World → Prop) (base : Nat → Nat) : Ctx:=⟨C.P,f,R,C.S,C.w0,base,none⟩
def RV.free : RV → Prop
 | .grd _ _ _ _=>False
 | _=>True
theorem RV.free_ng {v : RV} (h : v.free) : ∀ g pol b x,v ≠ .grd g pol b x:=fun g pol b x e=>by subst e; exact h
structure WF.sh (W W' : WF) : Prop where
 n : W.n ≤ W'.n
 nr : W.nr ≤ W'.nr
 rows : ∀ r,r < W.nr → ∀ R,look W'.rows r = some R → ∃ R0,look W.rows r = some R0 ∧ R.s = R0.s ∧ R.n = R0.n ∧ R.cap = R0.cap ∧ R.size = R0.size
theorem WF.le.sh {W W' : WF} (h : W.le W') : W.sh W':=⟨h.n,h.nr,fun r hr R hR=>⟨R,h.rows r hr R hR,rfl,rfl,rfl,rfl⟩⟩
theorem WF.sh.trans {a b c : WF} (h : a.sh b) (k : b.sh c) : a.sh c:=⟨Nat.le_trans h.n k.n,Nat.le_trans h.nr k.nr,fun r hr R hR=>by
 obtain ⟨R1,h1,e1,e2,e3,e4⟩:=k.rows r (Nat.lt_of_lt_of_le hr h.nr) R hR
 obtain ⟨R0,h0,f1,f2,f3,f4⟩:=h.rows r hr R1 h1
 exact ⟨R0,h0,e1.trans f1,e2.trans f2,e3.trans f3,e4.trans f4⟩⟩
theorem WF.sh.refl (W : WF) : W.sh W:=(WF.le.refl W).sh
theorem SV.wf_sh {W W' : WF} (h : W.sh W') (x : SV) (hx : x.wf W) : x.wf W':=by
 cases x with
 | ptr b off=>exact Nat.lt_of_lt_of_le hx h.n
 | fn f cap=>exact fun c hc=>Nat.lt_of_lt_of_le (hx c hc) h.n
 | sli b _ _=>exact Nat.lt_of_lt_of_le hx h.n
 | row r s n cap=>exact ⟨Nat.lt_of_lt_of_le hx.1 h.nr,fun R hR=>by
   obtain ⟨R0,h0,e1,e2,e3,e4⟩:=h.rows r hx.1 R hR
   obtain ⟨f1,f2,f3⟩:=hx.2 R0 h0
   exact ⟨e1.trans f1,e2.trans f2,e3.trans f3⟩⟩
 | el r s size i j=>exact ⟨Nat.lt_of_lt_of_le hx.1 h.nr,fun R hR=>by
   obtain ⟨R0,h0,e1,e2,e3,e4⟩:=h.rows r hx.1 R hR
   obtain ⟨f1,f2,f3⟩:=hx.2 R0 h0
   exact ⟨e1.trans f1,e4.trans f2,by rw [e2]; exact f3⟩⟩
 | _=>trivial
theorem CV.wf_sh {W W' : WF} (h : W.sh W') (x : CV) (hx : x.wf W) : x.wf W':=by
 cases x with
 | one x=>exact SV.wf_sh h x hx
 | agg xs=>exact fun y hy=>SV.wf_sh h y (hx y hy)
theorem RV.wf_sh {W W' : WF} (h : W.sh W') (x : RV) (hx : x.wf W) : x.wf W':=by
 cases x with
 | v x=>exact CV.wf_sh h x hx
 | tup xs=>exact fun y hy=>CV.wf_sh h y (hx y hy)
 | grd g pol c x=>exact fun hc=>CV.wf_sh h x (hx hc)
section
variable {C : Ctx} {ρ ρ' : Nat → Nat} {s m : St} {a a' : Act} {w w' : World}
theorem callOf_wf {c : Cfg} {f : FuncId} {xs : List CV} (hc : callOf c = some (none,f,xs)) (hS : Sat C ρ c.st a w) : ∀ x ∈ xs,x.wf c.st.W:=by
 obtain ⟨todo,st⟩:=c
 unfold callOf at hc
 simp only at hc hS ⊢
 split at hc
 ·split at hc
  ·split at hc
   ·split at hc
    ·split at hc
     ·rename_i f' caps ys h1 h2
      simp only [Option.some.injEq,Prod.mk.injEq,true_and] at hc
      obtain ⟨rfl,rfl⟩:=hc
      intro x hx
      rcases List.mem_append.1 hx with hx | hx
      ·exact (evs_sound hS.toP (GcOk.none st) h2).2 x hx
      ·unfold calleeS at h1
       split at h1
       ·split at h1
        ·rename_i f2 cap hev
         cases h1
         obtain ⟨_,e2⟩:=ev_sound hS.toP (GcOk.none st) hev
         obtain ⟨b,hb,rfl⟩:=List.mem_map.1 hx
         exact e2 b hb
        ·split at h1
         ·cases h1
          obtain ⟨v,_,rfl⟩:=List.mem_map.1 hx
          exact ofVal_wf _ v
         ·cases h1
        ·cases h1
       ·cases h1
     ·cases hc
    ·split at hc <;> cases hc
    ·cases hc
   ·cases hc
  ·cases hc
 ·cases hc
theorem Sat.inl (hS : Sat C ρ s a w) {n : Nat} {xs : List CV} (hx : ∀ x ∈ xs,x.wf s.W) (f : FuncId) (R : Ending → World → Prop) (h1 : a'.tmps.size = n) (h2 : a'.defers = [])
  (h3 : ∀ (i : Nat) (x : CV),xs[i]? = some x → a'.tmps[i]? = some (x.den ρ)) : Sat (C.inl f R ρ) ρ (inSt n xs s) a' w:=by
 refine ⟨h1,?_,?_,hS.heap,hS.inj,hS.lt,h2,hS.chg,hS.rows,hS.rowsD,hS.pers,fun b hb=>⟨hb,rfl⟩⟩
 ·intro i v hv
  obtain ⟨x,rfl,_,hx'⟩:=look_enum xs 0 i v hv
  exact ⟨h3 i x (by simpa using hx'),hx x (List.mem_of_getElem? hx')⟩
 ·intro i g pol c x hv
  obtain ⟨y,e,_⟩:=look_enum xs 0 i _ hv
  cases e
theorem Sat.back (hS : Sat C ρ s a w) {f : FuncId} {R : Ending → World → Prop} (hM : Sat (C.inl f R ρ) ρ' m a' w') (hle : s.W.sh m.W) (hfx : s.next ≤ m.fx) : Sat C ρ' (s.memOf m) a w':=by
 have hρ : ∀ b,b < s.W.n → ρ' b = ρ b:=fun b hb=>(hM.fix b (Nat.lt_of_lt_of_le hb hfx)).2
 exact ⟨hS.n,fun i v hv=>⟨by rw [RV.den_congr (W:=s.W) hρ v (hS.slots i v hv).2]; exact (hS.slots i v hv).1,RV.wf_sh hle v (hS.slots i v hv).2⟩,hS.grds,
    hM.heap,hM.inj,hM.lt,hS.defers,hM.chg,hM.rows,hM.rowsD,hM.pers,fun b hb=>by
   obtain ⟨h1,h2⟩:=hS.fix b hb
   obtain ⟨h3,h4⟩:=hM.fix b (Nat.lt_of_lt_of_le h1 hfx)
   exact ⟨h3,h4.trans h2⟩⟩
theorem Calls.of_inl {f : FuncId} {fn : Func} {R : Ending → World → Prop} (base : Nat → Nat) (xs : List CV) (s0 : St)
  (hf : C.P.funcs[f]? = some fn) (hb : fn.body.isSome = true) (hle : Nat.ble xs.length fn.ntmps = true)
  (hS : ∀ a : Act,a.tmps.size = fn.ntmps → a.defers = [] → (∀ (i : Nat) (x : CV),xs[i]? = some x → a.tmps[i]? = some (x.den ρ)) → Sat (C.inl f R base) ρ s0 a w)
  (h : V (C.inl f R base) ⟨[.code (bodyOf fn)],s0⟩) : Calls C.P f (xs.map (CV.den ρ)).toArray w R:=by
 intro cs
 obtain ⟨body,hb'⟩:=Option.isSome_iff_exists.1 hb
 have hbo : bodyOf fn = body:=by simp [bodyOf,hb']
 have hle' : xs.length ≤ fn.ntmps:=Nat.le_of_ble_eq_true hle
 let a : Act:={ tmps:=(xs.map (CV.den ρ)).toArray ++ Array.replicate (fn.ntmps - xs.length) undef,defers:=[] }
 have hsz : a.tmps.size = fn.ntmps:=by simp [a]; omega
 have hget : ∀ (i : Nat) (x : CV),xs[i]? = some x → a.tmps[i]? = some (x.den ρ):=by
  intro i x hx
  have hi:=(List.getElem?_eq_some_iff.1 hx).1
  simp only [a]
  rw [Array.getElem?_append_left (by simpa using hi)]
  simp [hx]
 have hsat:=hS a hsz rfl hget
 let b : Frame:={ (default : Frame) with fn:=f,kind:=.normal }
 have henter : Frame.enter C.P f (xs.map (CV.den ρ)).toArray .normal = b.atR a [.code (bodyOf fn)]:=by
  simp [Frame.enter,Frame.atR,hf,hb',b,a,hbo]
  rfl
 rw [henter]
 obtain ⟨e,w',h1,fr,h2⟩:=h ρ a w hsat b rfl rfl rfl cs (fun h=>by cases h)
 exact ⟨e,w',fr,h1,h2⟩
def Waits (C : Ctx) (K : Cfg → Prop) (pan : Prop) (c : Cfg) (f : FuncId) (R : Ending → World → Prop) (base : Nat → Nat) : Prop :=
 (∀ (v : RV) (m : St) (c' : Cfg),afterOp c (c.st.memOf m) v = some c' → c.st.W.sh m.W → c.st.next ≤ m.fx → v.free → K c' → ∀ ρ a w,Sat (C.inl f R base) ρ m a w → v.wf m.W → R (.returned (v.den ρ)) w) ∧
 (∀ ch w,pan → C.R (.panicked ch) w → R (.panicked ch) w)
theorem V.inl {c : Cfg} {f : FuncId} {fn : Func} {xs : List CV} (hc : callOf c = some (none,f,xs)) (hent : entersB C.P f = true) (hf : C.P.funcs[f]? = some fn) (hb : (fn.body.isSome && Nat.ble xs.length fn.ntmps) = true)
  (hF : (C.P.funcs[C.f]?).isSome = true) (h : ∀ R base,Waits C (V C) (C.round = none ∧ c.st.defs = []) c f R base → V (C.inl f R base) ⟨[.code (bodyOf fn)],inSt fn.ntmps xs c.st⟩) : V C c:=by
 intro ρ a w hS
 rw [Bool.and_eq_true] at hb
 have hwf:=callOf_wf hc hS
 obtain ⟨todo,st⟩:=c
 unfold callOf at hc
 simp only at hc h hS hwf ⊢
 split at hc
 case h_2=>cases hc
 rename_i ops i l k
 split at hc
 case h_2=>cases hc
 rename_i o ho
 split at hc
 case h_2=>cases hc
 rename_i cl hop
 split at hc
 case h_2=>split at hc <;> cases hc
 case h_3=>cases hc
 rename_i hg
 split at hc
 case h_2=>cases hc
 rename_i f' caps ys h1 h2
 simp only [Option.some.injEq,Prod.mk.injEq,true_and] at hc
 obtain ⟨rfl,rfl⟩:=hc
 have hr:=calleeS_sound (t:=o.type) hS.toP (GcOk.none st) h1 h2 (enters hent)
 have hcalls:=Calls.of_inl (C:=C) (f:=f') (fn:=fn) (w:=w) (ρ:=ρ) (R:=fun e w'=>(∃ v,e = .returned v ∧ Ok C (.inRegion ops l :: k) (a.put o.dst v) w') ∨ ∃ ch,e = .panicked ch ∧ C.R (.panicked ch) w' ∧ C.round = none ∧ st.defs = [])
  ρ (ys ++ caps) (inSt fn.ntmps (ys ++ caps) st) hf hb.1 hb.2 (fun a' e1 e2 e3=>hS.inl hwf _ _ e1 e2 e3) (h _ ρ ⟨?_,?_⟩)
 ·by_cases hx : C.round = none ∧ st.defs = []
  ·refine Ok.op_callX ho (grd_yes hS hg) (by unfold execOp; rw [hop]; exact hr) hcalls hx.1 (hS.defers.trans hx.2) hF (fun e w2 hq=>?_)
   rcases hq with hq | ⟨ch,rfl,hq,_⟩
   ·exact .inl hq
   ·exact .inr ⟨ch,rfl,hq⟩
  ·refine Ok.op_call ho (grd_yes hS hg) (by unfold execOp; rw [hop]; exact hr) hcalls (fun e w2 hq=>?_)
   rcases hq with hq | ⟨ch,_,_,hq⟩
   ·exact hq
   ·exact absurd hq hx
 ·intro v m c' haf hle hfx hng hk ρ' a' w' hM hv
  refine .inl ⟨_,rfl,?_⟩
  have hS1:=hS.back hM hle hfx
  simp only [afterOp,ho] at haf
  split at haf
  ·rename_i s' hput
   cases haf
   exact hk ρ' _ _ (hS1.put hput hv (fun g pol b x e=>absurd e (RV.free_ng hng g pol b x)))
  ·cases haf
 ·intro ch w2 e1 e3
  exact .inr ⟨ch,rfl,e3,e1⟩
theorem resOne_wf (h : Sat C ρ s a w) {r : ResultVar} {x : CV} (hr : resOne C.P s r = some x) : x.wf s.W:=by
 cases r with
 | tmp t =>
  simp only [resOne] at hr
  split at hr
  ·rename_i y hl
   cases hr
   exact (h.slots t _ hl).2
  ·cases hr
 | cell ad t =>
  simp only [resOne] at hr
  split at hr
  ·split at hr
   ·rename_i blk hb
    obtain ⟨h1,h2,h3,h4⟩:=h.heap _ blk hb
    exact (cellsAt_load (ρ:=ρ) (w:=w) hr s.W h3 h2).2
   ·cases hr
  ·cases hr
theorem resList_wf (h : Sat C ρ s a w) : ∀ {l : List ResultVar} {xs : List CV},resList C.P s l = some xs → ∀ x ∈ xs,x.wf s.W
 | [],xs,hr,x,hx=>by
  simp only [resList,Option.some.injEq] at hr
  subst hr
  exact absurd hx List.not_mem_nil
 | r :: l,xs,hr,x,hx=>by
  simp only [resList] at hr
  split at hr
  ·rename_i y hy
   split at hr
   ·rename_i ys hys
    cases hr
    rcases List.mem_cons.1 hx with rfl | hx
    ·exact resOne_wf h hy
    ·exact resList_wf h hys x hx
   ·cases hr
  ·cases hr
theorem resOf_wf (h : Sat C ρ s a w) {v : RV} (hr : resOf0 C.P C.f s = some v) : v.wf s.W ∧ v.free:=by
 unfold resOf0 at hr
 split at hr
 ·split at hr
  ·rename_i x hx
   cases hr
   exact ⟨resList_wf h hx x (List.mem_singleton.2 rfl),trivial⟩
  ·rename_i xs _ hx
   cases hr
   exact ⟨fun x hx'=>resList_wf h hx x hx',trivial⟩
  ·cases hr
 ·cases hr
theorem V.backI {f : FuncId} {R : Ending → World → Prop} {base : Nat → Nat} {K : Cfg → Prop} {pan : Prop} {c0 c c' : Cfg} {v : RV} (hW : Waits C K pan c0 f R base) (hr : endR (C.inl f R base) c.st = some v) (he : isEnd c.todo = true)
  (haf : afterOp c0 (c0.st.memOf c.st) v = some c') (hle : c0.st.W.sh c.st.W) (hfx : Nat.ble c0.st.next c.st.fx = true) (k : K c') : V (C.inl f R base) c:=by
 refine V.ret v hr he (fun ρ a w hS=>?_)
 obtain ⟨_,hr'⟩:=endR_ok hr
 obtain ⟨h1,_⟩:=resOf_0 hr'
 obtain ⟨h2,h3⟩:=resOf_wf hS h1
 exact hW.1 v c.st c' haf hle (Nat.le_of_ble_eq_true hfx) h3 k ρ a w hS h2
end
structure RN (s' s : St) : Prop where
 rows : s'.rows = s.rows
 nr : s'.nr = s.nr
 next : s.next ≤ s'.next
theorem RN.rfl' {s : St} {a : List (Nat × RV)} {b : List Nat} {c : List (Nat × Blk)} {p : List Pers} {w : Bool} {d : List Deferred} : RN { s with slots:=a,gs:=b,heap:=c,pers:=p,wr:=w,defs:=d } s:=⟨rfl,rfl,Nat.le_refl _⟩
theorem RN.trans {a b c : St} (h : RN a b) (k : RN b c) : RN a c:=⟨h.rows.trans k.rows,h.nr.trans k.nr,Nat.le_trans k.next h.next⟩
theorem RN.le {s' s : St} (h : RN s' s) : s.W.le s'.W:=⟨h.next,Nat.le_of_eq h.nr.symm,fun r _ R hR=>by
 have hR' : look s'.rows r = some R:=hR
 rw [h.rows] at hR'; exact hR'⟩
section
theorem put_rn {s s' : St} {d : Option Nat} {v : RV} (h : s.put d v = some s') : RN s' s:=by
 unfold St.put at h
 split at h
 ·cases h; exact RN.rfl'
 ·split at h
  ·cases h
  ·split at h
   ·cases h
   ·cases h; exact RN.rfl'
theorem opMem_rn {P : Program} {s s' : St} {gc : Option (Nat × Bool)} {v : RV} {op : Op} (h : opMem P s gc op = some (v,s')) : RN s' s:=by
 unfold opMem at h
 repeat' split at h
 all_goals first | (cases h; exact RN.rfl') | (cases h; exact ⟨rfl,rfl,Nat.le_succ _⟩) | cases h
theorem opStore_rn {P : Program} {s s' : St} {gc : Option (Nat × Bool)} {op : Op} (h : opStore P s gc op = some s') : RN s' s:=by
 unfold opStore at h
 repeat' split at h
 all_goals first | (cases h; exact RN.rfl') | (cases h; exact ⟨rfl,rfl,Nat.le_succ _⟩) | cases h
theorem stepO_rn {P : Program} {ops : Array Oper} {o : Oper} {s s' : St} {ob : List Prop} (h : stepO P ops o s = some (s',ob)) : RN s' s:=by
 unfold stepO at h
 split at h
 ·split at h
  ·split at h
   ·rename_i hp; cases h; exact put_rn hp
   ·cases h
  ·split at h
   ·rename_i hm
    split at h
    ·rename_i hp; cases h; exact (put_rn hp).trans (opMem_rn hm)
    ·cases h
   ·split at h
    ·rename_i hs
     split at h
     ·cases h; exact opStore_rn hs
     ·cases h
    ·cases h
 ·split at h
  ·rename_i hp; cases h; exact put_rn hp
  ·cases h
 ·split at h
  ·split at h
   ·rename_i hp; cases h; exact (put_rn hp).trans RN.rfl'
   ·cases h
  ·cases h
 ·cases h
theorem sstep_rn {P : Program} {c c' : Cfg} {ob : List Prop} (h : sstep P c = some (c',ob)) : RN c'.st c.st:=by
 unfold sstep at h
 split at h
 all_goals first
  | (cases h; done)
  | (cases h; exact RN.rfl')
  | (split at h <;> first | (cases h; done) | (cases h; exact RN.rfl') | skip)
 all_goals
  split at h
  ·rename_i hs; cases h; exact stepO_rn hs
  ·cases h
theorem afterOp_rn {c c' : Cfg} {s : St} {v : RV} (h : afterOp c s v = some c') : RN c'.st s:=by
 unfold afterOp at h
 split at h
 ·split at h
  ·split at h
   ·rename_i hp; cases h; exact put_rn hp
   ·cases h
  ·cases h
 ·cases h
theorem stepPure_rn {P : Program} {ops : Array Oper} {h0 : List (Nat × Blk)} {r0 : List (Nat × Row)} {o : Oper} {s s' : St} {ob : List Prop} (h : stepPure P ops h0 r0 o s = some (s',ob)) : RN s' s:=by
 unfold stepPure at h
 split at h
 ·split at h
  ·split at h
   ·rename_i hp; cases h; exact put_rn hp
   ·cases h
  ·cases h
 ·split at h
  ·rename_i hp; cases h; exact put_rn hp
  ·cases h
 ·split at h
  ·split at h
   ·rename_i hp; cases h; exact (put_rn hp).trans RN.rfl'
   ·cases h
  ·cases h
 ·cases h
theorem stepDM_rn {P : Program} {ops : Array Oper} {h0 : List (Nat × Blk)} {r0 : List (Nat × Row)} {d d' : DCfg} {ob : List Prop} (h : stepDM P ops h0 r0 d = some (d',ob)) : RN d'.st d.st:=by
 unfold stepDM at h
 split at h
 ·cases h
 ·split at h
  ·rename_i ht
   cases h
   obtain ⟨_,o,_,_,hs⟩:=takeD_spec ht
   exact stepPure_rn hs
  ·split at h
   ·split at h
    ·split at h
     ·split at h
      ·rename_i hm
       split at h
       ·rename_i hp; cases h; exact (put_rn hp).trans (opMem_rn hm)
       ·cases h
      ·cases h
     ·cases h
    ·cases h
   ·cases h
theorem runDM_rn {P : Program} {ops : Array Oper} {h0 : List (Nat × Blk)} {r0 : List (Nat × Row)} : ∀ (m : Nat) (d : DCfg),RN (runDM P ops h0 r0 m d).1.st d.st
 | 0,_=>RN.rfl'
 | m + 1,d=>by
  unfold runDM
  split
  ·exact RN.rfl'
  ·rename_i d' ob hs
   exact (runDM_rn m d').trans (stepDM_rn hs)
theorem runDM_rn' {P : Program} {ops : Array Oper} {h0 : List (Nat × Blk)} {r0 : List (Nat × Row)} {m : Nat} {d d' : DCfg} {ob : List Prop} (h : runDM P ops h0 r0 m d = (d',ob)) : RN d'.st d.st:=by
 have:=runDM_rn (P:=P) (ops:=ops) (h0:=h0) (r0:=r0) m d
 rw [h] at this
 exact this
theorem endD_rn {P : Program} {ops : Array Oper} {L : Nat} {d : DCfg} {s : St} (h : endD P ops L d = some s) : RN s d.st:=by
 unfold endD at h
 split at h
 ·cases h; exact RN.rfl'
 ·split at h
  ·split at h
   ·rename_i hs _ _; cases h; exact opStore_rn hs
   ·cases h
  ·cases h
 ·cases h
theorem loopT_rn {P : Program} {T : List (Ent P)} {ops : Array Oper} {k : List Item} {h0 : List (Nat × Blk)} {r0 : List (Nat × Row)} {L : Nat} : ∀ {m : Nat} {d : DCfg} {c' : Cfg} {ob : List Prop},loopT P T ops k h0 r0 L m d = some (c',ob) → RN c'.st d.st
 | 0,_,_,_,h=>by cases h
 | m + 1,d,c',ob,h=>by
  unfold loopT at h
  split at h
  ·rename_i hs; cases h; exact endD_rn hs
  ·split at h
   ·split at h
    ·split at h
     ·split at h
      ·rename_i hp
       split at h
       rename_i d' ob' hrun
       split at h
       ·rename_i hl
        cases h
        have hpp:=put_rn hp
        exact ((loopT_rn hl).trans (runDM_rn' hrun)).trans hpp
       ·cases h
      ·cases h
     ·cases h
    ·split at h
     ·split at h
      ·rename_i hp
       split at h
       rename_i d' ob' hrun
       split at h
       ·rename_i hl
        cases h
        have hpp:=put_rn hp
        exact ((loopT_rn hl).trans (runDM_rn' hrun)).trans (hpp.trans RN.rfl')
       ·cases h
      ·cases h
     ·cases h
    ·cases h
   ·cases h
theorem drawT_rn {P : Program} {T : List (Ent P)} {c c' : Cfg} {ob : List Prop} (h : drawT P T c = some (c',ob)) : RN c'.st c.st:=by
 unfold drawT at h
 split at h
 ·unfold drawB at h
  split at h
  ·split at h
   rename_i d ob' hrun
   split at h
   ·rename_i hl
    cases h
    exact RN.trans (loopT_rn hl) (runDM_rn' hrun)
   ·cases h
  ·cases h
 ·cases h
theorem stepT_rn {P : Program} {T : List (Ent P)} {c c' : Cfg} {ob : List Prop} (h : stepT P T c = some (c',ob)) : RN c'.st c.st:=by
 unfold stepT at h
 split at h
 ·rename_i hs; cases h; exact sstep_rn hs
 ·split at h
  ·split at h
   ·split at h
    ·rename_i ha; cases h; exact afterOp_rn ha
    ·cases h
   ·cases h
  ·split at h
   ·split at h
    ·rename_i ha; cases h; exact (afterOp_rn ha).trans RN.rfl'
    ·cases h
   ·cases h
  ·exact drawT_rn h
end
structure ICfg where
 stk : List (FuncId × Cfg)
 f : FuncId
 c : Cfg
def panOk (C : Ctx) : List (FuncId × Cfg) → Prop
 | []=>C.round = none
 | (_,c0) :: stk=>c0.st.defs = [] ∧ panOk C stk
def VI (C : Ctx) : List (FuncId × Cfg) → FuncId → Cfg → Prop
 | [],_,c=>V C c
 | (g,c0) :: stk,f,c=>∀ R base,Waits C (VI C stk g) (panOk C ((g,c0) :: stk)) c0 f R base → V (C.inl f R base) c
def leStk : List (FuncId × Cfg) → WF → Prop
 | [],_=>True
 | (_,c0) :: stk,W=>c0.st.W.sh W ∧ leStk stk c0.st.W
theorem leStk.mono : ∀ {stk : List (FuncId × Cfg)} {W W' : WF},leStk stk W → W.sh W' → leStk stk W'
 | [],_,_,_,_=>trivial
 | (_,c0) :: stk,_,_,h,k=>⟨h.1.trans k,h.2⟩
def fnStk (P : Program) : List (FuncId × Cfg) → FuncId → Prop
 | [],_=>True
 | (g,_) :: stk,f=>(P.funcs[f]?).isSome = true ∧ fnStk P stk g
section
variable {C : Ctx}
theorem VI.lift {c c' : Cfg} (h0 : V C c' → V C c) (h1 : ∀ f R base,V (C.inl f R base) c' → V (C.inl f R base) c) : ∀ {stk : List (FuncId × Cfg)} {f : FuncId},VI C stk f c' → VI C stk f c
 | [],_,h=>h0 h
 | (_,_) :: _,f,h=>fun R base hW=>h1 f R base (h R base hW)
theorem VI.push {stk : List (FuncId × Cfg)} {g f : FuncId} {fn : Func} {xs : List CV} {c : Cfg} (hc : callOf c = some (none,f,xs)) (hent : entersB C.P f = true) (hf : C.P.funcs[f]? = some fn) (hb : (fn.body.isSome && Nat.ble xs.length fn.ntmps) = true)
  (hF : (C.P.funcs[C.f]?).isSome = true) (hS : fnStk C.P stk g) (h : VI C ((g,c) :: stk) f ⟨[.code (bodyOf fn)],inSt fn.ntmps xs c.st⟩) : VI C stk g c:=by
 cases stk with
 | nil=>exact V.inl hc hent hf hb hF (fun R base hW=>h R base ⟨hW.1,fun ch w hp=>hW.2 ch w ⟨hp.2,hp.1⟩⟩)
 | cons p stk =>
  obtain ⟨g',c0⟩:=p
  intro R1 base1 hW1
  refine V.inl (C:=C.inl g R1 base1) hc hent hf hb hS.1 (fun R base hW=>h R base ⟨fun v m c' h1 h2 h3 h4 hk=>hW.1 v m c' h1 h2 h3 h4 (hk R1 base1 hW1),fun ch w hp hR=>hW.2 ch w ⟨rfl,hp.1⟩ (hW1.2 ch w hp.2 hR)⟩)
theorem VI.pop {stk : List (FuncId × Cfg)} {g f : FuncId} {c0 c c' : Cfg} {v : RV} (hr : resOf C.P f c.st = some v) (he : isEnd c.todo = true)
  (haf : afterOp c0 (c0.st.memOf c.st) v = some c') (hle : c0.st.W.sh c.st.W) (hfx : Nat.ble c0.st.next c.st.fx = true) (k : VI C stk g c') : VI C ((g,c0) :: stk) f c :=
 fun _ _ hW=>V.backI hW hr he haf hle hfx k
end
def delK (k : Nat) : List (Nat × RV) → List (Nat × RV)
 | []=>[]
 | (j,v) :: l=>match Nat.beq j k with
  | true=>delK k l
  | false=>(j,v) :: delK k l
def noG : List (Nat × RV) → List (Nat × RV)
 | []=>[]
 | (j,v) :: l=>match v with
  | .grd _ _ _ _=>delK j (noG l)
  | .v x=>(j,.v x) :: noG l
  | .tup x=>(j,.tup x) :: noG l
theorem look_delK {k j : Nat} {v : RV} : ∀ {l : List (Nat × RV)},look (delK k l) j = some v → look l j = some v ∧ j ≠ k
 | [],h=>by cases h
 | (i,x) :: l,h=>by
  unfold delK at h
  split at h
  ·rename_i hb
   have e:=(beq_iff _ _).1 hb
   obtain ⟨h1,h2⟩:=look_delK h
   refine ⟨?_,h2⟩
   simp only [look]
   split
   ·rename_i hj; exact absurd ((beq_iff _ _).1 hj ▸ e) (by intro e; exact h2 (by have:=(beq_iff _ _).1 hj; omega))
   ·exact h1
  ·rename_i hb
   simp only [look] at h ⊢
   split at h
   ·rename_i hj
    refine ⟨by cases h; rfl,?_⟩
    intro e
    have:=(beq_iff _ _).1 hj
    have hb' : Nat.beq i k = true:=(beq_iff _ _).2 (by omega)
    rw [hb] at hb'; cases hb'
   ·exact look_delK h
theorem look_noG {j : Nat} {v : RV} : ∀ {l : List (Nat × RV)},look (noG l) j = some v → look l j = some v ∧ v.free
 | [],h=>by cases h
 | (i,x) :: l,h=>by
  cases x with
  | grd g p b y =>
   simp only [noG] at h
   obtain ⟨h1,h2⟩:=look_delK h
   obtain ⟨h3,h4⟩:=look_noG h1
   refine ⟨?_,h4⟩
   simp only [look]
   split
   ·rename_i hj; exact absurd ((beq_iff _ _).1 hj) (fun e=>h2 (by omega))
   ·exact h3
  | v y =>
   simp only [noG,look] at h ⊢
   split at h
   ·cases h; exact ⟨rfl,trivial⟩
   ·exact look_noG h
  | tup y =>
   simp only [noG,look] at h ⊢
   split at h
   ·cases h; exact ⟨rfl,trivial⟩
   ·exact look_noG h
def St.noG (s : St) : St:={ s with slots:=SX.noG s.slots,gs:=[] }
theorem V.noG {C : Ctx} {c : Cfg} (h : V C ⟨c.todo,c.st.noG⟩) : V C c:=by
 intro ρ a w hS
 refine h ρ a w ⟨hS.n,fun i v hv=>?_,fun i g pol b x hv=>?_,hS.heap,hS.inj,hS.lt,hS.defers,hS.chg,hS.rows,hS.rowsD,hS.pers,hS.fix⟩
 ·exact hS.slots i v (look_noG hv).1
 ·exact (look_noG hv).2.elim
def stepI (P : Program) (T : List (Ent P)) (no : List FuncId) (dec : Bool) (i : ICfg) : Option (ICfg × List Prop) :=
 match stepT P T i.c with
 | some (c',ob)=>some (⟨i.stk,i.f,c'⟩,ob)
 | none=>match callOf i.c with
  | some (none,f,xs)=>match hasNat no f,entersB P f,P.funcs[f]? with
   | false,true,some fn=>match fn.body.isSome && Nat.ble xs.length fn.ntmps with
    | true=>some (⟨(i.f,i.c) :: i.stk,f,⟨[.code (bodyOf fn)],inSt fn.ntmps xs i.c.st⟩⟩,[])
    | false=>none
   | _,_,_=>none
  | _=>match isEnd i.c.todo with
   | true=>match i.stk with
    | (g,c0) :: stk=>match resOf P i.f i.c.st,Nat.ble c0.st.next i.c.st.fx with
     | some v,true=>match afterOp c0 (c0.st.memOf i.c.st) v with
      | some c'=>some (⟨stk,g,c'⟩,[])
      | none=>none
     | _,_=>none
    | []=>none
   | false=>match dec with
    | true=>match condC i.c with
     | some (g,b)=>match b with
      | true=>some (⟨i.stk,i.f,i.c.know g true⟩,[])
      | false=>some (⟨i.stk,i.f,i.c.know g false⟩,[])
     | none=>match isLoop i.c with
      | true=>some (⟨i.stk,i.f,iter ⟨i.c.todo,i.c.st.noG⟩⟩,[])
      | false=>none
    | false=>none
section
variable {C : Ctx}
theorem stepI_sound {T : List (Ent C.P)} {no : List FuncId} {dec : Bool} {i i' : ICfg} {ob : List Prop} (h : stepI C.P T no dec i = some (i',ob)) (hob : ∀ p ∈ ob,p) (hn : ∀ e ∈ T,∀ q ∈ e.sp.need,q ∈ i.c.st.pers)
  (hF : (C.P.funcs[C.f]?).isSome = true) (hS : fnStk C.P i.stk i.f) (hl : leStk i.stk i.c.st.W) :
  (∀ e ∈ T,∀ q ∈ e.sp.need,q ∈ i'.c.st.pers) ∧ fnStk C.P i'.stk i'.f ∧ leStk i'.stk i'.c.st.W ∧ (VI C i'.stk i'.f i'.c → VI C i.stk i.f i.c):=by
 obtain ⟨stk,f,c⟩:=i
 unfold stepI at h
 simp only at h hn hS hl ⊢
 split at h
 ·rename_i c' ob' hs
  cases h
  exact ⟨fun e he q hq=>by rw [stepT_pers hs]; exact hn e he q hq,hS,hl.mono (stepT_rn hs).le.sh,VI.lift (fun k=>stepT_sound hs hob hn k) (fun f R base k=>stepT_sound (C:=C.inl f R base) hs hob hn k)⟩
 ·split at h
  ·rename_i f' xs hc
   split at h
   ·rename_i fn hno hent hf
    split at h
    ·rename_i hb
     cases h
     exact ⟨hn,⟨by rw [hf]; rfl,hS⟩,⟨WF.sh.refl _,hl⟩,VI.push hc hent hf hb hF hS⟩
    ·cases h
   ·cases h
  ·split at h
   ·rename_i he
    split at h
    ·rename_i g c0 stk'
     split at h
     ·rename_i v hr hfx
      split at h
      ·rename_i c' haf
       cases h
       have hp : c'.st.pers = c.st.pers:=(afterOp_pers haf).trans rfl
       have hr2 : RN c'.st (c0.st.memOf c.st):=afterOp_rn haf
       exact ⟨fun e he q hq=>by rw [hp]; exact hn e he q hq,hS.2,hl.2.mono (hl.1.trans hr2.le.sh),VI.pop hr he haf hl.1 hfx⟩
      ·cases h
     ·cases h
    ·cases h
   ·split at h
    ·split at h
     ·rename_i g b hc
      split at h
      ·cases h
       exact ⟨hn,hS,hl.mono (WF.sh.refl _),VI.lift (V.known g true true (condC_look hc) rfl) (fun f R base=>V.known g true true (condC_look hc) rfl)⟩
      ·cases h
       exact ⟨hn,hS,hl.mono (WF.sh.refl _),VI.lift (V.known g false false (condC_look hc) rfl) (fun f R base=>V.known g false false (condC_look hc) rfl)⟩
     ·split at h
      ·cases h
       exact ⟨fun e he q hq=>by rw [iter_st]; exact hn e he q hq,hS,by rw [iter_st]; exact hl.mono (WF.sh.refl _),VI.lift (fun k=>V.noG (V.iter k)) (fun f R base k=>V.noG (V.iter k))⟩
      ·cases h
    ·cases h
end
end Go.SX
end
section
namespace Go.SX
open Go
def gP {P : Program} {l n : Nat} {enc : Nat → Array Value} {w0 : World} (Y : Yd P l n enc w0) (i : Nat) (O Ow : Nat → Prop) (ps : List Pers) (B OB : Nat → Prop) (ds : List Nat) : Pers :=
 ⟨O,fun W=>Y.J i O Ow W ∧ (∀ p ∈ ps,∀ k,p.D k → ¬ Ow k) ∧ (∀ k,Ow k → B k) ∧ (∀ k,O k → OB k) ∧ ∀ r ∈ ds,¬ O r⟩
def gX {P : Program} {l n : Nat} {enc : Nat → Array Value} {w0 : World} (Y : Yd P l n enc w0) (O Ow : Nat → Prop) (B OB : Nat → Prop) (ds : List Nat) : Pers :=
 ⟨O,fun W=>Y.Jx O Ow W ∧ (∀ k,Ow k → B k) ∧ (∀ k,O k → OB k) ∧ ∀ r ∈ ds,¬ O r⟩
def dfP (ds : List Nat) : Pers:=⟨fun k=>k ∈ ds,fun w=>ds.Nodup ∧ ∀ r ∈ ds,w.heap[r]? = some (.deferred (some []))⟩
theorem dfP_stab (ds : List Nat) : Stab (dfP ds):=fun _ _ h hw=>⟨hw.1,fun r hr=>(h r hr).trans (hw.2 r hr)⟩
def collL (ds : List Nat) : List Deferred:=ds.map fun r=>⟨.collected r,#[]⟩
section
variable {C : Ctx}
theorem V.yieldG {l n : Nat} {enc : Nat → Array Value} {w00 : World} (Y : Yd C.P l n enc w00) (i : Nat) (O Ow : Nat → Prop) (ps : List Pers) (B OB : Nat → Prop) (ds : List Nat) (xs : List CV) {c : Cfg} (hc : yieldOf c = some (l,xs))
  (hw : C.w0.os = w00.os ∧ C.w0.tape = w00.tape ∧ C.w0.output = w00.output) (hB : ∀ k,B k → C.w0.heap.size ≤ k ∨ C.S k) (hN : ∀ k,C.w0.heap.size ≤ k → B k ∧ OB k)
  (hp : c.st.pers = gP Y i O Ow ps B OB ds :: ps) (hds : ∀ r ∈ ds,∃ p ∈ ps,p.D r) (hrows : ownAll c.st.rows = true) (hi : i < n) (hx : ∀ ρ,(xs.map (CV.den ρ)).toArray = enc i)
  (haf : ((afterOp c c.st (.v (.one (.bool true)))).isSome && (afterOp c c.st (.v (.one (.bool false)))).isSome) = true)
  (k1 : ∀ O' Ow',V C (afterD c { c.st with pers:=gP Y (i + 1) O' Ow' ps B OB ds :: ps } (.v (.one (.bool true)))))
  (k2 : ∀ O' Ow',V C (afterD c { c.st with pers:=gX Y O' Ow' B OB ds :: ps } (.v (.one (.bool false))))) : V C c:=by
 intro ρ a w hS0
 rw [Bool.and_eq_true] at haf
 obtain ⟨todo,st⟩:=c
 unfold yieldOf at hc
 simp only at hc hp hrows haf k1 k2 hS0 ⊢
 split at hc
 case h_2=>cases hc
 rename_i ops idx r k
 split at hc
 case h_2=>cases hc
 rename_i o ho
 split at hc
 case h_2=>cases hc
 rename_i cl hop
 split at hc
 case h_2=>cases hc
 rename_i x hg hcal
 split at hc
 case h_2=>cases hc
 rename_i l' fs cs xs' hx1 hx2
 split at hc
 case h_2=>cases hc
 rename_i hfs hcs
 cases hc
 obtain ⟨e1,_⟩:=ev_sound hS0.toP (GcOk.none st) hx1
 have hargs : cl.args.map a.eval = (xs.map (CV.den ρ)).toArray:=by
  have:=(evs_sound hS0.toP (GcOk.none st) hx2).1
  apply Array.ext'
  simpa using this
 rw [hx ρ] at hargs
 have hfs' : fs = #[]:=by apply Array.ext'; simpa using hfs
 have hcs' : cs = #[]:=by apply Array.ext'; simpa using hcs
 subst hfs' hcs'
 obtain ⟨⟨p1,p2,pB,pO,pd⟩,_,p3⟩:=hS0.pers (gP Y i O Ow ps B OB ds) (by rw [hp]; exact List.mem_cons_self ..)
 obtain ⟨f,tmps,assign,body,hy,hst⟩:=Y.y i O Ow w hi p1 (hS0.chg.os.trans hw.1) (hS0.chg.tape.trans hw.2.1) (hS0.chg.output.trans hw.2.2)
 have hr : (execOp a.eval o).run C.P w = .ok (.round l f tmps assign body) w:=by
  obtain ⟨callee,args,argTypes⟩:=cl
  simp only at hcal hargs
  subst hcal
  unfold execOp
  rw [hop]
  simp only [resolve,e1,CV.den,SV.den,Deferred.ofValue,Sem.run_bind,Sem.run_pure,Result.andThen_ok,invoke,hargs]
  simpa using hy
 refine Ok.op_yield ho (grd_yes hS0 hg) hr hst (fun v W' hR=>?_)
 obtain ⟨O',Ow',hch,hO,hOw,hcase⟩:=hR
 have hnt : ∀ b,b < st.next → ¬ Ow (ρ b):=fun b hb hk=>(p3 _ (Y.own i O Ow w p1 _ hk)).2.1 b hb rfl
 have hsame : ∀ k,k < w.heap.size → ¬ Ow k → W'.heap[k]? = w.heap[k]?:=fun k hk hn=>hch.block k hk hn
 have hrow : ∀ q R,look st.rows q = some R → ∀ k,R.uses k → ¬ Ow k:=fun q R hR k hk ho' =>
  (p3 k (Y.own i O Ow w p1 k ho')).2.2 q R hR (ownAll_ok hrows hR) hk
 have hnew : ∀ k,w.heap.size ≤ k → B k ∧ OB k:=fun k hk=>hN k (Nat.le_trans hS0.chg.size hk)
 have hB' : ∀ k,Ow' k → B k:=fun k hk=>(hOw k hk).elim (pB k) (fun h=>(hnew k h).1)
 have hO' : ∀ k,O' k → OB k:=fun k hk=>(hO k hk).elim (pO k) (fun h=>(hnew k h).2)
 have hd' : ∀ r ∈ ds,¬ O' r:=fun r hr hk=>(hO r hk).elim (pd r hr) (fun h=>by
  obtain ⟨p,hpm,hD⟩:=hds r hr
  have:=((hS0.pers p (by rw [hp]; exact List.mem_cons_of_mem _ hpm)).2.2 r hD).1
  omega)
 have hS1 : ∀ p' : Pers,(p'.φ W') → (∀ w2,(∀ k,p'.D k → w2.heap[k]? = W'.heap[k]?) → p'.φ w2) → (∀ k,p'.D k → k < W'.heap.size) → (∀ k,p'.D k → O' k) →
   ∀ qs,(∀ q ∈ qs,q ∈ ps) → Sat C ρ { st with pers:=p' :: qs } a W':=by
  intro p' q1 q2 q3 q4 qs hqs
  refine ⟨hS0.n,hS0.slots,hS0.grds,?_,hS0.inj,fun b hb=>Nat.lt_of_lt_of_le (hS0.lt b hb) hch.size,hS0.defers,hS0.chg.trans hch (fun k hk=>hB k (pB k hk)),?_,hS0.rowsD,?_,hS0.fix⟩
  ·intro b blk hb
   obtain ⟨k1,k2,k3,k4⟩:=hS0.heap b blk hb
   exact ⟨k1,(hsame _ (hS0.lt b k1) (hnt b k1)).trans k2,k3,k4⟩
  ·intro q R hR
   obtain ⟨k0,k1,k2⟩:=hS0.rows q R hR
   exact ⟨k0,k1.congr (fun k hk=>hsame k (k2 k hk).1 (hrow q R hR k hk)),fun k hk=>⟨Nat.lt_of_lt_of_le (k2 k hk).1 hch.size,(k2 k hk).2⟩⟩
  ·intro p hpm
   rcases List.mem_cons.1 hpm with rfl | hpm
   ·refine ⟨q1,q2,fun k hD=>⟨q3 k hD,fun b hb e=>?_,fun q R hR ho' hu=>?_⟩⟩
    ·rcases hO k (q4 k hD) with h | h
     ·exact (p3 k h).2.1 b hb e
     ·have:=hS0.lt b hb; omega
    ·rcases hO k (q4 k hD) with h | h
     ·exact (p3 k h).2.2 q R hR ho' hu
     ·have:=((hS0.rows q R hR).2.2 k hu).1; omega
   ·have hpm':=hqs p hpm
    obtain ⟨r1,r2,r3⟩:=hS0.pers p (by rw [hp]; exact List.mem_cons_of_mem _ hpm')
    have hk : ∀ k,p.D k → W'.heap[k]? = w.heap[k]?:=fun k hD=>hsame k (r3 k hD).1 (p2 p hpm' k hD)
    exact ⟨r2 _ hk,fun w2 hw2=>r2 w2 (fun k hD=>(hw2 k hD).trans (hk k hD)),fun k hD=>⟨Nat.lt_of_lt_of_le (r3 k hD).1 hch.size,(r3 k hD).2⟩⟩
 have hdone : ∀ (b : Bool) (s1 : St),Sat C ρ s1 a W' → s1.n = st.n → s1.gs = st.gs → s1.slots = st.slots → v = .bool b → (afterOp ⟨.inRegion ops (idx :: r) :: k,st⟩ st (.v (.one (.bool b)))).isSome = true →
   V C (afterD ⟨.inRegion ops (idx :: r) :: k,st⟩ s1 (.v (.one (.bool b)))) → Ok C (.inRegion ops r :: k) (a.put o.dst v) W':=by
  intro b s1 h1 hn hgs hsl hv haf1 hV
  subst hv
  unfold afterD at hV
  simp only [afterOp,ho] at haf1 hV
  have hput : (s1.put o.dst (.v (.one (.bool b)))).isSome = (st.put o.dst (.v (.one (.bool b)))).isSome:=by
   unfold St.put
   rw [hn,hgs]
   split
   ·rfl
   ·split
    ·rfl
    ·split <;> rfl
  cases hs1 : s1.put o.dst (.v (.one (.bool b))) with
  | none =>
   rw [hs1] at hput
   cases hs2 : st.put o.dst (.v (.one (.bool b))) with
   | none=>rw [hs2] at haf1; cases haf1
   | some s2=>rw [hs2] at hput; cases hput
  | some s2 =>
   rw [hs1] at hV
   exact hV ρ _ _ (h1.put hs1 trivial (fun g pol b x e=>by cases e))
 rcases hcase with ⟨hv,hJ⟩ | ⟨hv,hJ⟩
 ·refine hdone true _ (hS1 (gP Y (i + 1) O' Ow' ps B OB ds) ⟨hJ,fun p hpm k hD ho'=>?_,hB',hO',hd'⟩ (fun w2 hw2=>⟨Y.st _ _ _ _ _ hJ hw2,fun p hpm k hD ho'=>?_,hB',hO',hd'⟩) (Y.lt _ _ _ _ hJ) (fun k h=>h) ps (fun q h=>h)) rfl rfl rfl hv haf.1 (k1 O' Ow')
  all_goals
   rcases hOw k ho' with h | h
   ·exact p2 p hpm k hD h
   ·have:=((hS0.pers p (by rw [hp]; exact List.mem_cons_of_mem _ hpm)).2.2 k hD).1; omega
 ·exact hdone false _ (hS1 (gX Y O' Ow' B OB ds) ⟨hJ,hB',hO',hd'⟩ (fun w2 hw2=>⟨Y.stx _ _ _ _ hJ hw2,hB',hO',hd'⟩) (Y.ltx _ _ _ hJ) (fun k h=>h) ps (fun q h=>h)) rfl rfl rfl hv haf.2 (k2 O' Ow')
end
def RoundG {P : Program} {l n : Nat} {enc : Nat → Array Value} {w00 : World} (Y : Yd P l n enc w00) (idx : Nat → Nat) (j : Nat) (O Ow : Nat → Prop) (lp : Nat) (q : Loop) (W : World) (e : Ending) (W' : World) : Prop :=
 ∃ (jump : Option Code) (O' Ow' : Nat → Prop),e = .returned (.bool jump.isNone) ∧ W'.heap[lp]? = some (.loop (recOf q jump)) ∧ Chg (fun k=>Ow k ∨ k = lp) W W' ∧
  (match jump with
   | none=>Y.J (idx (j + 1)) O' Ow' W'
   | some cd=>cd = .ret ∧ Y.Jx O' Ow' W') ∧ (∀ k,Ow' k → Ow k ∨ W.heap.size ≤ k) ∧ (∀ k,O' k → O k ∨ W.heap.size ≤ k)
def roundG (s : St) (ps : List (Tmp × CV)) (lp : Nat) (q : Loop) (g : Pers) (psR : List Pers) : St :=
 { n:=s.n,slots:=setPs ps s.slots,gs:=[],heap:=[],next:=0,rows:=[(0,objL lp q)],nr:=1,pers:=g :: psR,wr:=s.wr }
def bG (W : World) (Ow : Nat → Prop) (k : Nat) : Prop:=W.heap.size ≤ k ∨ Ow k
def oG (W : World) (O : Nat → Prop) (k : Nat) : Prop:=O k ∨ W.heap.size ≤ k
theorem V.roundG {P : Program} {f : FuncId} {l n : Nat} {enc : Nat → Array Value} {w00 : World} (Y : Yd P l n enc w00) {idx : Nat → Nat} {j : Nat} {O Ow : Nat → Prop} {lp : Nat} {q : Loop} {W : World} {base : Nat → Nat}
  (r i : Nat) (O' Ow' : Nat → Prop) (ps : List Pers) (ds : List Nat) {c : Cfg} (ht : jumpOf c.todo = some none) (hr : look c.st.rows r = some (objL lp { recOf q none with state:=.busy }))
  (hi : i = idx (j + 1)) (hp : c.st.pers = gP Y i O' Ow' ps (bG W Ow) (oG W O) ds :: ps) : V ⟨P,f,RoundG Y idx j O Ow lp q W,fun k=>Ow k ∨ k = lp,W,base,some lp⟩ c:=by
 intro ρ a w hS
 subst hi
 have hw : w.heap[lp]? = some (.loop { recOf q none with state:=.busy }):=by
  obtain ⟨_,hok,_⟩:=hS.rows r _ hr
  obtain ⟨g,h1,h2⟩:=hok.obj _ rfl
  cases h1
  exact h2
 obtain ⟨⟨p1,_,pB,pO,_⟩,_,p3⟩:=hS.pers (gP Y (idx (j + 1)) O' Ow' ps (bG W Ow) (oG W O) ds) (by rw [hp]; exact List.mem_cons_self ..)
 have hlp : ¬ O' lp:=fun h=>(p3 lp h).2.2 r _ hr rfl (objRow_uses.2 rfl)
 have hlt : lp < w.heap.size:=(Array.getElem?_eq_some_iff.1 hw).1
 have hend:=run_endRound (P:=P) none hw
 have hother : ∀ k,lp ≠ k → (w.putObj lp (.loop (recOf q none))).heap[k]? = w.heap[k]?:=fun k hk=>setBlock_other w lp k _ hk
 have hR : RoundG Y idx j O Ow lp q W (.returned (.bool true)) (w.putObj lp (.loop (recOf q none))) :=
  ⟨none,O',Ow',rfl,setBlock_same w lp _ hlt,hS.chg.trans (T:=fun k=>k = lp) ⟨rfl,rfl,rfl,by simp [World.putObj],fun k _ hk=>hother k (fun e=>hk e.symm)⟩ (fun k hk=>.inr (.inr hk)),
      Y.st _ _ _ _ _ p1 (fun k hk=>hother k (fun e=>hlp (e ▸ hk))),fun k hk=>(pB k hk).symm,pO⟩
 obtain ⟨todo,st⟩:=c
 intro b hb hk hro cs hcs
 cases cs with
 | nil=>exact absurd rfl (hcs rfl)
 | cons c0 cs =>
  refine ⟨_,_,hR,c0,cs,_,rfl,rfl,.one ?_⟩
  simp only at ht ⊢
  unfold jumpOf at ht
  split at ht
  ·exact stepR_round_end hro hk hend
  ·cases ht
  ·split at ht <;> cases ht
  ·cases ht
theorem V.roundX {P : Program} {f : FuncId} {l n : Nat} {enc : Nat → Array Value} {w00 : World} (Y : Yd P l n enc w00) {idx : Nat → Nat} {j : Nat} {O Ow : Nat → Prop} {lp : Nat} {q : Loop} {W : World} {base : Nat → Nat}
  (r : Nat) (O' Ow' : Nat → Prop) (ps : List Pers) (ds : List Nat) {c : Cfg} (ht : jumpOf c.todo = some (some .ret)) (hr : look c.st.rows r = some (objL lp { recOf q none with state:=.busy }))
  (hp : c.st.pers = gX Y O' Ow' (bG W Ow) (oG W O) ds :: ps) : V ⟨P,f,RoundG Y idx j O Ow lp q W,fun k=>Ow k ∨ k = lp,W,base,some lp⟩ c:=by
 intro ρ a w hS
 have hw : w.heap[lp]? = some (.loop { recOf q none with state:=.busy }):=by
  obtain ⟨_,hok,_⟩:=hS.rows r _ hr
  obtain ⟨g,h1,h2⟩:=hok.obj _ rfl
  cases h1
  exact h2
 obtain ⟨⟨p1,pB,pO,_⟩,_,p3⟩:=hS.pers (gX Y O' Ow' (bG W Ow) (oG W O) ds) (by rw [hp]; exact List.mem_cons_self ..)
 have hlp : ¬ O' lp:=fun h=>(p3 lp h).2.2 r _ hr rfl (objRow_uses.2 rfl)
 have hlt : lp < w.heap.size:=(Array.getElem?_eq_some_iff.1 hw).1
 have hend:=run_endRound (P:=P) (some .ret) hw
 have hother : ∀ k,lp ≠ k → (w.putObj lp (.loop (recOf q (some .ret)))).heap[k]? = w.heap[k]?:=fun k hk=>setBlock_other w lp k _ hk
 have hR : RoundG Y idx j O Ow lp q W (.returned (.bool false)) (w.putObj lp (.loop (recOf q (some .ret)))) :=
  ⟨some .ret,O',Ow',rfl,setBlock_same w lp _ hlt,hS.chg.trans (T:=fun k=>k = lp) ⟨rfl,rfl,rfl,by simp [World.putObj],fun k _ hk=>hother k (fun e=>hk e.symm)⟩ (fun k hk=>.inr (.inr hk)),
      ⟨rfl,Y.stx _ _ _ _ p1 (fun k hk=>hother k (fun e=>hlp (e ▸ hk)))⟩,fun k hk=>(pB k hk).symm,pO⟩
 obtain ⟨todo,st⟩:=c
 intro b hb hk hro cs hcs
 cases cs with
 | nil=>exact absurd rfl (hcs rfl)
 | cons c0 cs =>
  refine ⟨_,_,hR,c0,cs,_,rfl,rfl,.one ?_⟩
  simp only at ht ⊢
  unfold jumpOf at ht
  split at ht
  ·cases ht
  ·exact stepR_round_ret hro hk hend
  ·split at ht <;> cases ht
  ·cases ht
theorem collSteps {P : Program} : ∀ (ds : List Nat) (fr : Frame) (cs : List Frame) (w : World),fr.mode ≠ .run → fr.defers = collL ds → ds.Nodup → (∀ r ∈ ds,w.heap[r]? = some (.deferred (some []))) →
  ∃ w',Steps P (lone fr cs w) (lone { fr with defers:=[] } cs w') ∧ w'.os = w.os ∧ w'.tape = w.tape ∧ w'.output = w.output ∧ ∀ k,k ∉ ds → w'.heap[k]? = w.heap[k]?
 | [],fr,cs,w,_,hd,_,_=>by
  refine ⟨w,?_,rfl,rfl,rfl,fun _ _=>rfl⟩
  have : ({ fr with defers:=[] } : Frame) = fr:=by
   cases fr; simp only at hd; subst hd; rfl
  rw [this]
  exact Steps.refl P _
 | r :: ds,fr,cs,w,hm,hd,hnd,hw=>by
  have hr:=hw r (List.mem_cons_self ..)
  have h1:=step_collected (P:=P) (cs:=cs) (d:=⟨.collected r,#[]⟩) (ds:=collL ds) hm hd rfl (run_takeDeferred hr)
  obtain ⟨hnr,hnd'⟩:=List.nodup_cons.1 hnd
  have hother : ∀ k,r ≠ k → (w.putObj r (.deferred none)).heap[k]? = w.heap[k]?:=fun k hk=>setBlock_other w r k _ hk
  obtain ⟨w',h2,e1,e2,e3,e4⟩:=collSteps (P:=P) ds { fr with defers:=[] ++ collL ds } cs (w.putObj r (.deferred none)) hm (by simp) hnd' (fun r' hr'=>(hother r' (fun e=>hnr (e ▸ hr'))).trans (hw r' (List.mem_cons_of_mem _ hr')))
  refine ⟨w',.head h1 h2,e1,e2,e3,fun k hk=>(e4 k (fun h=>hk (List.mem_cons_of_mem _ h))).trans (hother k (fun e=>hk (e ▸ List.mem_cons_self ..)))⟩
theorem V.endG {P : Program} {g : FuncId} {l n : Nat} {enc : Nat → Array Value} {w : World} {base : Nat → Nat} (Y : Yd P l n enc w) (fn : Func) (hfn : P.funcs[g]? = some fn) (hres : fn.results = #[]) (ds : List Nat) {c : Cfg} (he : isEnd c.todo = true)
  (hd : c.st.defs = collL ds) (hdp : dfP ds ∈ c.st.pers) (hJ : ∃ q ∈ c.st.pers,∀ W,q.φ W → ∃ O Ow,(∀ r ∈ ds,¬ O r) ∧ (Y.J n O Ow W ∨ Y.Jx O Ow W)) : V ⟨P,g,IterR Y,fun _=>True,w,base,none⟩ c:=by
 intro ρ a w1 hS b hb hk hro cs _
 obtain ⟨q,hq,hqJ⟩:=hJ
 obtain ⟨O,Ow,hdO,hJ⟩:=hqJ w1 (hS.pers q hq).1
 obtain ⟨hnd,hdw⟩:=(hS.pers _ hdp).1
 have hro' : b.roundOf = none:=hro
 obtain ⟨todo,st⟩:=c
 simp only at he hd hS
 have hst : Go.step P (lone (b.atR a todo) cs w1) = .next (lone { b.atR a todo with mode:=.returning } cs w1):=by
  unfold isEnd at he
  split at he
  ·exact stepR_end hro'
  ·exact stepR_ret hro'
  ·cases he
 have hda : a.defers = collL ds:=hS.defers.trans hd
 obtain ⟨w',h2,e1,e2,e3,e4⟩:=collSteps (P:=P) ds { b.atR a todo with mode:=.returning } cs w1 (by simp) hda hnd hdw
 have hJ' : ∀ k,O k → w'.heap[k]? = w1.heap[k]?:=fun k hk=>e4 k (fun h=>hdO k h hk)
 refine ⟨.returned (.tuple #[]),w',⟨⟨_,rfl⟩,e1.trans hS.chg.os,e2.trans hS.chg.tape,e3.trans hS.chg.output,O,Ow,?_⟩,{ b.atR a todo with mode:=.returning,defers:=[] },.head hst h2,hb,?_⟩
 ·rcases hJ with h | h
  ·exact .inl (Y.st _ _ _ _ _ h hJ')
  ·exact .inr (Y.stx _ _ _ _ h hJ')
 ·refine ⟨rfl,rfl,hk,fn,by show P.funcs[b.fn]? = some fn; rw [hb]; exact hfn,?_⟩
  rw [results_eq,hres]
  simp
end Go.SX
end
section
namespace Go.SX
open Go
def plainSl (sl : List (Nat × RV)) : Bool:=sl.all fun p=>plainR p.2
theorem look_in {α : Type} : ∀ {l : List (Nat × α)} {i : Nat} {v : α},look l i = some v → ∃ j,(j,v) ∈ l
 | (k,u) :: l,i,v,h=>by
  simp only [look] at h
  split at h
  ·cases h; exact ⟨k,List.mem_cons_self ..⟩
  ·obtain ⟨j,hj⟩:=look_in h; exact ⟨j,List.mem_cons_of_mem _ hj⟩
theorem plainSl_ok {sl : List (Nat × RV)} (h : plainSl sl = true) {i : Nat} {v : RV} (hv : look sl i = some v) : plainR v = true:=by
 obtain ⟨j,hj⟩:=look_in hv
 exact List.all_eq_true.1 h _ hj
def rwsP (rows : List (Nat × Row)) : Pers:=⟨fun k=>∃ r R,look rows r = some R ∧ R.uses k,fun W=>∀ r R,look rows r = some R → R.ok W⟩
def outP (C : Ctx) : Pers:=⟨fun k=>k < C.w0.heap.size ∧ ¬ C.S k,fun W=>∀ k,k < C.w0.heap.size → ¬ C.S k → W.heap[k]? = C.w0.heap[k]?⟩
theorem rwsP_stab (rows : List (Nat × Row)) : Stab (rwsP rows):=fun _ _ h hw r R hR=>(hw r R hR).congr (fun k hk=>h k ⟨r,R,hR,hk⟩)
theorem outP_stab (C : Ctx) : Stab (outP C):=fun _ _ h hw k h1 h2=>(h k ⟨h1,h2⟩).trans (hw k h1 h2)
structure HoldG (psA : List Pers) (lp : Nat) (q : Loop) (B OB NO : Nat → Prop) (jump : Option Code) (O Ow : Nat → Prop) (W : World) : Prop where
 ps : ∀ p ∈ psA,p.φ W ∧ ∀ k,p.D k → k < W.heap.size ∧ ¬ Ow k
 lp : W.heap[lp]? = some (.loop (recOf q jump))
 b : ∀ k,Ow k → B k
 o : ∀ k,O k → OB k
 no : ∀ k,NO k → ¬ O k
theorem HoldG.st {psA : List Pers} {lp : Nat} {q : Loop} {B OB NO : Nat → Prop} {jump : Option Code} {O Ow : Nat → Prop} {W W' : World} (h : HoldG psA lp q B OB NO jump O Ow W) (hs : ∀ p ∈ psA,Stab p)
  (hO : ∀ k,(O k ∨ k = lp ∨ ∃ p ∈ psA,p.D k) → W'.heap[k]? = W.heap[k]?) : HoldG psA lp q B OB NO jump O Ow W' :=
 ⟨fun p hp=>⟨hs p hp W W' (fun k hk=>hO k (.inr (.inr ⟨p,hp,hk⟩))) (h.ps p hp).1,fun k hk=>⟨lt_of_same ((h.ps p hp).2 k hk).1 (hO k (.inr (.inr ⟨p,hp,hk⟩))),((h.ps p hp).2 k hk).2⟩⟩,
    (hO lp (.inr (.inl rfl))).trans h.lp,h.b,h.o,h.no⟩
section
variable {C : Ctx}
def ydG {l n : Nat} {enc : Nat → Array Value} {w00 : World} (Y : Yd C.P l n enc w00) (idx : Nat → Nat) (m : Nat) (encC : Nat → List CV) (encV : Nat → Array Value) (psT : Array Tmp) (asg body : Code) (s : St) (ps : List Pers) (ds : List Nat) (B OB : Nat → Prop)
  (tmps : Array Value) (lp : Nat) (q : Loop) (w1 : World) (psA : List Pers) (NO : Nat → Prop)
  (hq : q.fn = C.f ∧ q.params = psT ∧ q.tmps = tmps ∧ q.assign = asg ∧ q.body = body) (hst : ∀ p ∈ psA,Stab p) (hlpD : ∀ p ∈ psA,¬ p.D lp) (hsub : ∀ p ∈ ps,p ∈ psA) (hdf : dfP ds ∈ ps) (hNO : ∀ k,NO k → k = lp ∨ ∃ p ∈ psA,p.D k) (hNOlp : NO lp) (hNOd : ∀ r ∈ ds,NO r)
  (hl : C.w0.heap.size ≤ lp) (hN : ∀ k,C.w0.heap.size ≤ k → B k ∧ OB k) (hn : tmps.size = s.n) (hpl : plainSl s.slots = true) (hsl : ∀ ρ i v,look s.slots i = some v → tmps[i]? = some (v.den ρ))
  (henc : ∀ j ρ,((encC j).map (CV.den ρ)).toArray = encV j) (hsz : ∀ j,(encC j).length = psT.size) (hps : ∀ j,psOk s.n (psT.toList.zip (encC j)) = true) (hw1 : w1.os = w00.os ∧ w1.tape = w00.tape ∧ w1.output = w00.output)
  (hround : ∀ j O Ow W,j < m → W.os = w1.os → W.tape = w1.tape → W.output = w1.output → V ⟨C.P,C.f,RoundG Y idx j O Ow lp q W,fun k=>Ow k ∨ k = lp,W,fun _=>0,some lp⟩
   ⟨[.code asg,.beginRound,.code body],roundG s (psT.toList.zip (encC j)) lp (recOf q none) (gP Y (idx j) O Ow ps (bG W Ow) (oG W O) ds) ps⟩) : Yd C.P lp m encV w1 where
 J:=fun j O1 Ow1 W=>∃ O Ow,Y.J (idx j) O Ow W ∧ HoldG psA lp q B OB NO none O Ow W ∧ (∀ k,O1 k ↔ (O k ∨ k = lp ∨ ∃ p ∈ psA,p.D k)) ∧ ∀ k,Ow1 k ↔ (Ow k ∨ k = lp)
 Jx:=fun O1 Ow1 W=>∃ O Ow,Y.Jx O Ow W ∧ HoldG psA lp q B OB NO (some .ret) O Ow W ∧ (∀ k,O1 k ↔ (O k ∨ k = lp ∨ ∃ p ∈ psA,p.D k)) ∧ ∀ k,Ow1 k ↔ (Ow k ∨ k = lp)
 st:=by
  rintro j O1 Ow1 W W' ⟨O,Ow,h1,h2,h3,h4⟩ hO
  have hO' : ∀ k,(O k ∨ k = lp ∨ ∃ p ∈ psA,p.D k) → W'.heap[k]? = W.heap[k]?:=fun k hk=>hO k ((h3 k).2 hk)
  exact ⟨O,Ow,Y.st _ _ _ _ _ h1 (fun k hk=>hO' k (.inl hk)),h2.st hst hO',h3,h4⟩
 stx:=by
  rintro O1 Ow1 W W' ⟨O,Ow,h1,h2,h3,h4⟩ hO
  have hO' : ∀ k,(O k ∨ k = lp ∨ ∃ p ∈ psA,p.D k) → W'.heap[k]? = W.heap[k]?:=fun k hk=>hO k ((h3 k).2 hk)
  exact ⟨O,Ow,Y.stx _ _ _ _ h1 (fun k hk=>hO' k (.inl hk)),h2.st hst hO',h3,h4⟩
 lt:=by
  rintro j O1 Ow1 W ⟨O,Ow,h1,h2,h3,h4⟩ k hk
  rcases (h3 k).1 hk with h | rfl | ⟨p,hp,hD⟩
  ·exact Y.lt _ _ _ _ h1 k h
  ·exact (Array.getElem?_eq_some_iff.1 h2.lp).1
  ·exact ((h2.ps p hp).2 k hD).1
 ltx:=by
  rintro O1 Ow1 W ⟨O,Ow,h1,h2,h3,h4⟩ k hk
  rcases (h3 k).1 hk with h | rfl | ⟨p,hp,hD⟩
  ·exact Y.ltx _ _ _ h1 k h
  ·exact (Array.getElem?_eq_some_iff.1 h2.lp).1
  ·exact ((h2.ps p hp).2 k hD).1
 own:=by
  rintro j O1 Ow1 W ⟨O,Ow,h1,h2,h3,h4⟩ k hk
  rcases (h4 k).1 hk with h | h
  ·exact (h3 k).2 (.inl (Y.own _ _ _ _ h1 k h))
  ·exact (h3 k).2 (.inr (.inl h))
 y:=by
  rintro j O1 Ow1 W hj ⟨O,Ow,h1,h2,h3,h4⟩ e1 e2 e3
  obtain ⟨hq1,hq2,hq3,hq4,hq5⟩:=hq
  have hlpW : lp < W.heap.size:=(Array.getElem?_eq_some_iff.1 h2.lp).1
  refine ⟨C.f,((psT.zip (encV j)).foldl (fun tm (t,x)=>tm.setIfInBounds t x) tmps),asg,body,?_,fun c cs=>?_⟩
  ·have:=run_yield (P:=C.P) (args:=encV j) h2.lp (by show _ = q.params.size; rw [← henc j id,hq2,← hsz j]; simp)
   rw [this]
   show Result.ok (Next.round lp q.fn ((q.params.zip (encV j)).foldl _ q.tmps) q.assign q.body) W = _
   rw [hq1,hq2,hq3,hq4,hq5]
  ·let st':=roundG s (psT.toList.zip (encC j)) lp (recOf q none) (gP Y (idx j) O Ow ps (bG W Ow) (oG W O) ds) ps
   have hplW : ∀ i v,look s.slots i = some v → v.wf st'.W:=fun i v hv=>(plainR_wf (plainSl_ok hpl hv) _).1
   have hslots:=roundSt_slots (ρ:=fun _=>0) s.n st'.W (psT.toList.zip (encC j)) s.slots tmps (hps j) hn (fun i v hv=>⟨hsl _ i v hv,hplW i v hv⟩)
   have htm : ((psT.zip (encV j)).foldl (fun tm (t,x)=>tm.setIfInBounds t x) tmps) = (psT.toList.zip (encC j)).foldl (fun tm (t,x)=>tm.setIfInBounds t (x.den (fun _=>0))) tmps:=by
    rw [← henc j (fun _=>0),← Array.foldl_toList,Array.toList_zip,List.zip_map_right,List.foldl_map]; rfl
   have hsize : ∀ (l : List (Tmp × CV)) (t : Array Value),(l.foldl (fun tm (t,x)=>tm.setIfInBounds t (x.den (fun _=>0))) t).size = t.size:=by
    intro l
    induction l with
    | nil=>intro t; rfl
    | cons p l ih=>intro t; simp only [List.foldl_cons]; rw [ih]; simp
   have hrow : ∀ r R,look st'.rows r = some R → r = 0 ∧ R = objL lp (recOf q none):=by
    intro r R hR
    have hR' : look [(0,objL lp (recOf q none))] r = some R:=hR
    simp only [look] at hR'
    split at hR'
    ·rename_i e; cases hR'; exact ⟨((beq_iff _ _).1 e).symm,rfl⟩
    ·cases hR'
   have hNOlp' : ¬ O lp:=h2.no lp hNOlp
   have hS : Sat ⟨C.P,C.f,RoundG Y idx j O Ow lp q W,fun k=>Ow k ∨ k = lp,W,fun _=>0,some lp⟩ (fun _=>0) st' ⟨(psT.zip (encV j)).foldl (fun tm (t,x)=>tm.setIfInBounds t x) tmps,[]⟩ W:=by
    refine ⟨by show Array.size _ = s.n; rw [htm,hsize]; exact hn,?_,?_,?_,?_,?_,rfl,Chg.refl _ _,?_,?_,?_,fun b hb=>absurd hb (Nat.not_lt_zero b)⟩
    ·intro i v hv
     rw [htm]
     exact hslots i v hv
    ·intro i g pol c x hv
     have h0:=setPs_grd (psT.toList.zip (encC j)) s.slots i hv
     have:=plainSl_ok hpl h0
     cases this
    ·intro b blk hb; cases hb
    ·intro b c hb; exact absurd hb (Nat.not_lt_zero _)
    ·intro b hb; exact absurd hb (Nat.not_lt_zero _)
    ·intro r R hR
     obtain ⟨rfl,rfl⟩:=hrow r R hR
     refine ⟨Nat.zero_lt_one,objRow_ok h2.lp,fun k hk=>?_⟩
     have:=objRow_uses.1 hk
     subst this
     exact ⟨hlpW,fun b hb=>absurd hb (Nat.not_lt_zero _),fun _=>.inr (.inr rfl)⟩
    ·intro r r' R R' hR hR' hne
     exact absurd ((hrow r R hR).1.trans (hrow r' R' hR').1.symm) hne
    ·intro p hp
     rcases List.mem_cons.1 hp with rfl | hp
     ·have hG : ∀ W2,Y.J (idx j) O Ow W2 → (gP Y (idx j) O Ow ps (bG W Ow) (oG W O) ds).φ W2:=fun W2 hJ =>
       ⟨hJ,fun p hp k hD=>((h2.ps p (hsub p hp)).2 k hD).2,fun k hk=>.inr hk,fun k hk=>.inl hk,fun r hr=>h2.no r (hNOd r hr)⟩
      refine ⟨hG W h1,fun w2 hw2=>hG w2 (Y.st _ _ _ _ _ h1 hw2),fun k hk=>⟨Y.lt _ _ _ _ h1 k hk,fun b hb=>absurd hb (Nat.not_lt_zero _),fun r R hR _ hu=>?_⟩⟩
      obtain ⟨_,rfl⟩:=hrow r R hR
      have:=objRow_uses.1 hu
      subst this
      exact hNOlp' hk
     ·have hp':=hsub p hp
      refine ⟨(h2.ps p hp').1,fun w2 hw2=>hst p hp' W w2 hw2 (h2.ps p hp').1,fun k hk=>⟨((h2.ps p hp').2 k hk).1,fun b hb=>absurd hb (Nat.not_lt_zero _),fun r R hR _ hu=>?_⟩⟩
      obtain ⟨_,rfl⟩:=hrow r R hR
      have:=objRow_uses.1 hu
      subst this
      exact hlpD p hp' hk
   obtain ⟨e,W',hR,c',cs',v,hcs,he,hsteps⟩:=hround j O Ow W hj e1 e2 e3 _ _ _ hS { (default : Frame) with fn:=C.f,kind:=.normal,roundOf:=some lp } rfl rfl rfl (c :: cs) (by simp)
   obtain ⟨jump,O',Ow',he',hlp',hch,hJ,hOw,hOO⟩:=hR
   cases hcs
   have hv : v = .bool jump.isNone:=by rw [he] at he'; injection he'
   have hsW : C.w0.heap.size ≤ W.heap.size:=by omega
   have hH : HoldG psA lp q B OB NO jump O' Ow' W':=by
    refine ⟨fun p hp=>?_,hlp',fun k hk=>?_,fun k hk=>?_,fun k hk hO=>?_⟩
    ·obtain ⟨k1,k2⟩:=h2.ps p hp
     have hsame : ∀ k,p.D k → W'.heap[k]? = W.heap[k]?:=fun k hk=>hch.block k (k2 k hk).1 (fun h=>h.elim (k2 k hk).2 (fun e=>hlpD p hp (e ▸ hk)))
     refine ⟨hst p hp W W' hsame k1,fun k hk=>⟨Nat.lt_of_lt_of_le (k2 k hk).1 hch.size,fun h=>?_⟩⟩
     rcases hOw k h with h | h
     ·exact (k2 k hk).2 h
     ·have:=(k2 k hk).1; omega
    ·rcases hOw k hk with h | h
     ·exact h2.b k h
     ·exact (hN k (Nat.le_trans hsW h)).1
    ·rcases hOO k hk with h | h
     ·exact h2.o k h
     ·exact (hN k (Nat.le_trans hsW h)).2
    ·rcases hOO k hO with h | h
     ·exact h2.no k hk h
     ·rcases hNO k hk with rfl | ⟨p,hp,hD⟩
      ·omega
      ·have:=((h2.ps p hp).2 k hD).1; omega
   refine ⟨v,W',⟨fun k=>O' k ∨ k = lp ∨ ∃ p ∈ psA,p.D k,fun k=>Ow' k ∨ k = lp,⟨hch.os,hch.tape,hch.output,hch.size,fun k hk hnn=>hch.block k hk (fun h=>hnn ((h4 k).2 h))⟩,?_,?_,?_⟩,?_⟩
   ·rintro k (h | h)
    ·rcases hOO k h with h | h
     ·exact .inl ((h3 k).2 (.inl h))
     ·exact .inr h
    ·exact .inl ((h3 k).2 (.inr h))
   ·rintro k (h | h)
    ·rcases hOw k h with h | h
     ·exact .inl ((h4 k).2 (.inl h))
     ·exact .inr h
    ·exact .inl ((h4 k).2 (.inr h))
   ·cases jump with
    | none=>exact .inl ⟨hv,O',Ow',hJ,hH,fun k=>Iff.rfl,fun k=>Iff.rfl⟩
    | some cd =>
     obtain ⟨rfl,hJ⟩:=hJ
     exact .inr ⟨hv,O',Ow',hJ,hH,fun k=>Iff.rfl,fun k=>Iff.rfl⟩
   ·have hfr : Frame.round lp C.f ((psT.zip (encV j)).foldl (fun tm (t,x)=>tm.setIfInBounds t x) tmps) asg body .normal =
      ({ (default : Frame) with fn:=C.f,kind:=.normal,roundOf:=some lp } : Frame).atR ⟨(psT.zip (encV j)).foldl (fun tm (t,x)=>tm.setIfInBounds t x) tmps,[]⟩ [.code asg,.beginRound,.code body]:=by
     simp [Frame.round,Frame.atR]
    rw [hfr]
    exact hsteps
end
end Go.SX
end
section
namespace Go.SX
open Go
theorem allocAt (w : World) (o : Obj) : (w.alloc o).heap[w.heap.size]? = some o:=by
 show (w.heap.push o)[w.heap.size]? = some o
 simp
section
variable {C : Ctx}
theorem enterG {ρ : Nat → Nat} {st : St} {a : Act} {w : World} (hS : Sat C ρ st a w) (psT : Array Tmp) (asg body : Code) (hrd : C.round = none ∨ ∃ l0 q0 i0,C.round = some l0 ∧ look st.rows i0 = some (objL l0 q0)) :
  ∃ (lp : Nat) (ms : List Nat) (q : Loop) (w1 : World),(Instr.enterLoop C.f a.tmps psT asg body C.round).run C.P w = .ok (lp,collL ms) w1 ∧ ms.Nodup ∧ (C.round.isSome = true → ms = []) ∧ Chg (fun _=>False) w w1 ∧ w.heap.size ≤ lp ∧ lp < w1.heap.size ∧ lp ∉ ms ∧
   (∀ r ∈ ms,w.heap.size ≤ r ∧ r < w1.heap.size ∧ w1.heap[r]? = some (.deferred (some []))) ∧ w1.heap[lp]? = some (.loop (recOf q none)) ∧ q.fn = C.f ∧ q.params = psT ∧ q.tmps = a.tmps ∧ q.assign = asg ∧ q.body = body:=by
 rcases hrd with h | ⟨l0,q0,i0,h,hrow⟩
 ·rw [h]
  refine ⟨w.heap.size + 1,[w.heap.size],{ state:=.ready,pending:=none,fn:=C.f,tmps:=a.tmps,params:=psT,assign:=asg,body:=body,defers:=w.heap.size },_,run_enterLoop_outer C.f a.tmps psT asg body,by simp,(fun h=>by cases h),
      (Chg.alloc (fun _=>False) w _).trans (Chg.alloc (fun _=>False) _ _) (fun _ h=>False.elim h),Nat.le_succ _,by simp,by simp,?_,?_,rfl,rfl,rfl,rfl,rfl⟩
  ·intro r hr
   rw [List.mem_singleton.1 hr]
   refine ⟨Nat.le_refl _,by simp; omega,?_⟩
   rw [Go.RowKit.Below.heap_alloc _ _ _ (by simp)]
   exact allocAt w _
  ·have : (w.alloc (.deferred (some []))).heap.size = w.heap.size + 1:=World.size_alloc _ _
   rw [← this]
   exact allocAt _ _
 ·have hw : w.heap[l0]? = some (.loop q0):=by
   obtain ⟨_,hok,_⟩:=hS.rows i0 _ hrow
   obtain ⟨g,h1,h2⟩:=hok.obj _ rfl
   cases h1
   exact h2
  rw [h]
  refine ⟨w.heap.size,[],{ state:=.ready,pending:=none,fn:=C.f,tmps:=a.tmps,params:=psT,assign:=asg,body:=body,defers:=q0.defers },_,run_enterLoop_inner hw C.f a.tmps psT asg body,by simp,(fun _=>rfl),
      Chg.alloc _ w _,Nat.le_refl _,by simp,by simp,(fun r hr=>absurd hr List.not_mem_nil),allocAt _ _,rfl,rfl,rfl,rfl,rfl⟩
theorem collL_app (a b : List Nat) : collL a ++ collL b = collL (a ++ b):=by simp [collL]
theorem V.rangeG {l n : Nat} {enc : Nat → Array Value} {w00 : World} (Y : Yd C.P l n enc w00) (idx : Nat → Nat) (m : Nat) (O Ow : Nat → Prop) (ps psC : List Pers) (B OB : Nat → Prop) (ds : List Nat) (encC : Nat → List CV) {encV : Nat → Array Value}
  (henc : ∀ j ρ,((encC j).map (CV.den ρ)).toArray = encV j) {c : Cfg} {h : FuncId} {ys : List CV} (hit : Iter C.P h ys (stP psC) m encV) (hsubC : ∀ p ∈ psC,p ∈ ps) (hstab : ∀ p ∈ ps,Stab p)
  (ht : (isRf c && (entersB C.P h && (plainSl c.st.slots && (ys.all plainC && (ownAll c.st.rows && (c.st.heap.isEmpty && Nat.beq c.st.next 0)))))) = true) (hcal : calleeS c.st none (.value (rfG c)) = some (h,ys))
  (hrd : C.round = none ∨ ∃ l0 q0 i0,C.round = some l0 ∧ look c.st.rows i0 = some (objL l0 q0))
  (hw : C.w0.os = w00.os ∧ C.w0.tape = w00.tape ∧ C.w0.output = w00.output) (hB : ∀ k,B k → C.w0.heap.size ≤ k ∨ C.S k) (hN : ∀ k,C.w0.heap.size ≤ k → B k ∧ OB k)
  (hp : c.st.pers = gP Y (idx 0) O Ow (dfP ds :: ps) B OB ds :: dfP ds :: ps) (hd : c.st.defs = collL ds)
  (hsz : ∀ j,Nat.beq (encC j).length (rfPs c).size = true) (hps : ∀ j,psOk c.st.n ((rfPs c).toList.zip (encC j)) = true)
  (hround : ∀ j O Ow W lp q ds',j < m → (W.os = w00.os ∧ W.tape = w00.tape ∧ W.output = w00.output) → V ⟨C.P,C.f,RoundG Y idx j O Ow lp q W,fun k=>Ow k ∨ k = lp,W,fun _=>0,some lp⟩
   ⟨[.code (rfAsg c),.beginRound,.code (rfBody c)],SX.roundG c.st ((rfPs c).toList.zip (encC j)) lp (recOf q none) (gP Y (idx j) O Ow (dfP ds' :: ps) (bG W Ow) (oG W O) ds') (dfP ds' :: ps)⟩)
  (k1 : ∀ O Ow ds',(C.round.isSome = true → ds' = ds) → V C ⟨rfK c,{ c.st with defs:=collL ds',pers:=gP Y (idx m) O Ow (dfP ds' :: ps) B OB ds' :: dfP ds' :: ps }⟩)
  (k2 : ∀ O Ow ds',(C.round.isSome = true → ds' = ds) → V C ⟨.code .ret :: rfK c,{ c.st with defs:=collL ds',pers:=gX Y O Ow B OB ds' :: dfP ds' :: ps }⟩) : V C c:=by
 obtain ⟨todo,st⟩:=c
 simp only [Bool.and_eq_true] at ht
 obtain ⟨ht1,hent,hpl,hys,hown,hhp,hnx⟩:=ht
 unfold isRf at ht1
 split at ht1
 case h_2=>cases ht1
 rename_i g psT asg body k he
 simp only at he
 subst he
 simp only [rfG,rfPs,rfAsg,rfBody,rfK] at *
 have hhp' : st.heap = []:=List.isEmpty_iff.1 hhp
 have hnx' : st.next = 0:=(beq_iff _ _).1 hnx
 intro ρ a w hS b hb hk hro cs hcs
 obtain ⟨lp,ms,q,w1,hE,hnd,hms,hch,hlp1,hlp2,hlpm,hmsr,hlpw,hq1,hq2,hq3,hq4,hq5⟩:=enterG hS psT asg body hrd
 have hS1:=hS.below hch
 -- what holds
 obtain ⟨⟨p1,p2,pB,pO,pd⟩,_,p3⟩:=hS1.pers (gP Y (idx 0) O Ow (dfP ds :: ps) B OB ds) (by rw [hp]; exact List.mem_cons_self ..)
 obtain ⟨⟨d1,d2⟩,_,d3⟩:=hS1.pers (dfP ds) (by rw [hp]; exact List.mem_cons_of_mem _ (List.mem_cons_self ..))
 have d3':=(hS.pers (dfP ds) (by rw [hp]; exact List.mem_cons_of_mem _ (List.mem_cons_self ..))).2.2
 have p3':=(hS.pers (gP Y (idx 0) O Ow (dfP ds :: ps) B OB ds) (by rw [hp]; exact List.mem_cons_self ..)).2.2
 have hps1 : ∀ p ∈ ps,p.φ w1 ∧ (∀ w',(∀ k,p.D k → w'.heap[k]? = w1.heap[k]?) → p.φ w') ∧ ∀ k,p.D k → k < w.heap.size ∧ ∀ r R,look st.rows r = some R → R.own = true → ¬ R.uses k:=fun p hpm=>by
  have hm : p ∈ st.pers:=by rw [hp]; exact List.mem_cons_of_mem _ (List.mem_cons_of_mem _ hpm)
  obtain ⟨q1,q2,_⟩:=hS1.pers p hm
  exact ⟨q1,q2,fun k hk=>⟨((hS.pers p hm).2.2 k hk).1,((hS.pers p hm).2.2 k hk).2.2⟩⟩
 have hrowlt : ∀ r R,look st.rows r = some R → ∀ k,R.uses k → k < w.heap.size:=fun r R hR k hk=>((hS.rows r R hR).2.2 k hk).1
 have hOlt : ∀ k,O k → k < w.heap.size:=fun k hk=>(p3' k hk).1
 have hsz0 : C.w0.heap.size ≤ w.heap.size:=hS.chg.size
 have hlpo : C.w0.heap.size ≤ lp:=Nat.le_trans hsz0 hlp1
 have hlpO : ¬ O lp:=fun h=>by have:=hOlt lp h; omega
 have hOwO : ∀ k,Ow k → O k:=fun k hk=>Y.own _ _ _ _ p1 k hk
 have hrowO : ∀ r R,look st.rows r = some R → ∀ k,R.uses k → ¬ O k:=fun r R hR k hk hO=>(p3' k hO).2.2 r R hR (ownAll_ok hown hR) hk
 have hdslt : ∀ r ∈ ds,r < w.heap.size:=fun r hr=>(d3' r hr).1
 have hmd : ∀ r ∈ ms ++ ds,r < w1.heap.size:=fun r hr=>(List.mem_append.1 hr).elim (fun h=>(hmsr r h).2.1) (fun h=>Nat.lt_of_lt_of_le (hdslt r h) hch.size)
 have hmO : ∀ r ∈ ms ++ ds,¬ O r:=fun r hr hO=>by
  rcases List.mem_append.1 hr with h | h
  ·have:=(hmsr r h).1; have:=hOlt r hO; omega
  ·exact pd r h hO
 have hlpmd : lp ∉ ms ++ ds:=fun h=>by
  rcases List.mem_append.1 h with h | h
  ·exact hlpm h
  ·have:=hdslt lp h; omega
 let psA : List Pers:=outP C :: rwsP st.rows :: dfP (ms ++ ds) :: ps
 have hmemA : ∀ p,p ∈ psA ↔ (p = outP C ∨ p = rwsP st.rows ∨ p = dfP (ms ++ ds) ∨ p ∈ ps):=fun p=>by simp [psA]
 have hstA : ∀ p ∈ psA,Stab p:=fun p hpm=>by
  rcases (hmemA p).1 hpm with rfl | rfl | rfl | h
  ·exact outP_stab C
  ·exact rwsP_stab _
  ·exact dfP_stab _
  ·exact hstab p h
 have hlpD : ∀ p ∈ psA,¬ p.D lp:=fun p hpm hD=>by
  rcases (hmemA p).1 hpm with rfl | rfl | rfl | h
  ·have : lp < C.w0.heap.size:=hD.1; omega
  ·obtain ⟨r,R,hR,hu⟩:=hD
   have:=hrowlt r R hR lp hu; omega
  ·exact hlpmd hD
  ·have:=((hps1 p h).2.2 lp hD).1; omega
 let NO : Nat → Prop:=fun k=>k = lp ∨ k ∈ ms ++ ds ∨ (rwsP st.rows).D k
 have hNO : ∀ k,NO k → k = lp ∨ ∃ p ∈ psA,p.D k:=fun k hk=>by
  rcases hk with h | h | h
  ·exact .inl h
  ·exact .inr ⟨dfP (ms ++ ds),(hmemA _).2 (.inr (.inr (.inl rfl))),h⟩
  ·exact .inr ⟨rwsP st.rows,(hmemA _).2 (.inr (.inl rfl)),h⟩
 have hH : HoldG psA lp q B OB NO none O Ow w1:=by
  refine ⟨fun p hpm=>?_,hlpw,pB,pO,fun k hk hO=>?_⟩
  ·rcases (hmemA p).1 hpm with rfl | rfl | rfl | h
   ·refine ⟨fun k h1 h2=>hS1.chg.block k h1 h2,fun k hk=>⟨Nat.lt_of_lt_of_le hk.1 hS1.chg.size,fun h=>?_⟩⟩
    rcases hB k (pB k h) with h | h
    ·have:=hk.1; omega
    ·exact hk.2 h
   ·refine ⟨fun r R hR=>(hS1.rows r R hR).2.1,fun k hk=>?_⟩
    obtain ⟨r,R,hR,hu⟩:=hk
    exact ⟨Nat.lt_of_lt_of_le (hrowlt r R hR k hu) hch.size,fun h=>hrowO r R hR k hu (hOwO k h)⟩
   ·refine ⟨⟨List.nodup_append.2 ⟨hnd,d1,fun a ha b hb e=>?_⟩,fun r hr=>?_⟩,fun k hk=>⟨hmd k hk,fun h=>hmO k hk (hOwO k h)⟩⟩
    ·subst e
     have:=(hmsr a ha).1; have:=hdslt a hb; omega
    ·rcases List.mem_append.1 hr with h | h
     ·exact (hmsr r h).2.2
     ·exact d2 r h
   ·exact ⟨(hps1 p h).1,fun k hk=>⟨Nat.lt_of_lt_of_le ((hps1 p h).2.2 k hk).1 hch.size,p2 p (List.mem_cons_of_mem _ h) k hk⟩⟩
  ·rcases hk with rfl | h | ⟨r,R,hR,hu⟩
   ·exact hlpO hO
   ·exact hmO k h hO
   ·exact hrowO r R hR k hu hO
 have hw1 : w1.os = w00.os ∧ w1.tape = w00.tape ∧ w1.output = w00.output:=⟨hS1.chg.os.trans hw.1,hS1.chg.tape.trans hw.2.1,hS1.chg.output.trans hw.2.2⟩
 let Y':=ydG Y idx m encC encV psT asg body st (dfP (ms ++ ds) :: ps) (ms ++ ds) B OB a.tmps lp q w1 psA NO ⟨hq1,hq2,hq3,hq4,hq5⟩ hstA hlpD (fun p hpm=>(hmemA p).2 ((List.mem_cons.1 hpm).elim (fun h=>.inr (.inr (.inl h))) (fun h=>.inr (.inr (.inr h)))))
  (List.mem_cons_self ..) hNO (.inl rfl) (fun r hr=>.inr (.inl hr)) hlpo hN hS.n hpl (fun ρ' i v hv=>by rw [plainR_den (plainSl_ok hpl hv) ρ' ρ]; exact (hS.slots i v hv).1) henc (fun j=>(beq_iff _ _).1 (hsz j)) hps hw1
  (fun j O Ow W hj e1 e2 e3=>hround j O Ow W lp q (ms ++ ds) hj ⟨e1.trans hw1.1,e2.trans hw1.2.1,e3.trans hw1.2.2⟩)
 have hFS : FSat ρ (stP psC) w1:=⟨(fun b blk h=>by cases h),(fun b c h=>absurd h (Nat.not_lt_zero _)),(fun b h=>absurd h (Nat.not_lt_zero _)),(fun r R h=>by cases h),(fun r r' R R' h=>by cases h),fun p hpm =>
  ⟨(hps1 p (hsubC p hpm)).1,(hps1 p (hsubC p hpm)).2.1,fun k hk=>⟨Nat.lt_of_lt_of_le ((hps1 p (hsubC p hpm)).2.2 k hk).1 hch.size,fun b h=>absurd h (Nat.not_lt_zero _),(fun r R h=>by cases h)⟩⟩⟩
 have hcalls:=hit ρ w1 lp Y' (fun k=>O k ∨ k = lp ∨ ∃ p ∈ psA,p.D k) (fun k=>Ow k ∨ k = lp) hFS ⟨O,Ow,p1,hH,fun k=>Iff.rfl,fun k=>Iff.rfl⟩
  (fun k _=>⟨fun b h=>absurd h (Nat.not_lt_zero _),(fun r R h=>by cases h)⟩)
  (fun p hpm k hk h=>by
   rcases h with h | h
   ·exact p2 p (List.mem_cons_of_mem _ (hsubC p hpm)) k hk h
   ·have:=((hps1 p (hsubC p hpm)).2.2 k hk).1; omega)
 -- the call
 have hxs : evs st none (rangeCall g lp).args.toList = some [.one (.val (.func (.yield lp) #[] #[]))]:=rfl
 have hinv:=calleeS_sound (cl:=rangeCall g lp) (t:=0) (P:=C.P) hS1.toP (GcOk.none st) hcal hxs (enters hent)
 have hargs : (([.one (.val (.func (.yield lp) #[] #[]))] ++ ys : List CV).map (CV.den ρ)).toArray = #[Value.func (.yield lp) #[] #[]] ++ (ys.map (CV.den ρ)).toArray:=by
  apply Array.ext'
  simp [CV.den,SV.den]
 rw [hargs,Sem.run_bind] at hinv
 cases hres : (resolve a.eval (rangeCall g lp) 0).run C.P w1 with
 | halt x w2=>rw [hres] at hinv; cases hinv
 | ok d w2 =>
  rw [hres] at hinv
  simp only [Result.andThen_ok] at hinv
  have he : (Instr.enterLoop b.fn a.tmps psT asg body b.roundOf).run C.P w = .ok (lp,collL ms) w1:=by
   rw [hro,hb]; exact hE
  have henter:=stepR_rangeFunc (P:=C.P) (b:=b) (a:=a) (k:=k) (cs:=cs) (w:=w) he hres hinv
  obtain ⟨e,w3,fr,hR,hsteps,hfn,hleave⟩:=hcalls (b.atR { a with defers:=collL ms ++ a.defers } (.inRangeFunc lp :: k) :: cs)
  obtain ⟨⟨v,rfl⟩,hos,htp,hout,O1,Ow1,hJ⟩:=hR
  have sback : Steps C.P (lone (b.atR a (.code (.rangeFunc g psT asg body) :: k)) cs w) (lone (b.atR { a with defers:=collL ms ++ a.defers } (.endRangeFunc lp :: k)) cs w3):=by
   refine .head henter (Steps.trans hsteps (.one ?_))
   rw [← finish_atR_inRangeFunc lp v]; exact step_leave_returned hleave
  have hdef : collL ms ++ a.defers = collL (ms ++ ds):=by rw [hS.defers,hd,collL_app]
  have hrnd : C.round.isSome = true → ms ++ ds = ds:=fun h=>by rw [hms h]; rfl
  have hdone : ∀ (jump : Option Code) (O' Ow' : Nat → Prop) (gp : Pers),HoldG psA lp q B OB NO jump O' Ow' w3 → gp.D = O' → (∀ w2,(∀ k,O' k → w2.heap[k]? = w3.heap[k]?) → gp.φ w2) → (∀ k,O' k → k < w3.heap.size) →
    V C ⟨(jump.map Item.code).toList ++ k,{ st with defs:=collL (ms ++ ds),pers:=gp :: dfP (ms ++ ds) :: ps }⟩ → ∃ e w',C.R e w' ∧ Fin C (lone (b.atR a (.code (.rangeFunc g psT asg body) :: k)) cs w) cs e w':=by
   intro jump O' Ow' gp hH3 hgD hgs hO3 hV
   have hbusy : (recOf q jump).state ≠ .busy:=by
    cases jump with
    | none=>intro h; cases h
    | some _=>intro h; cases h
   have hendL:=run_endLoop (P:=C.P) hH3.lp hbusy
   have hlt3 : lp < w3.heap.size:=(Array.getElem?_eq_some_iff.1 hH3.lp).1
   have hother : ∀ k,lp ≠ k → (w3.putObj lp (.loop { recOf q jump with state:=.exhausted })).heap[k]? = w3.heap[k]?:=fun k hk=>setBlock_other w3 lp k _ hk
   generalize hw4 : w3.putObj lp (.loop { recOf q jump with state:=.exhausted }) = w4 at hother
   have hsz4 : w4.heap.size = w3.heap.size:=by rw [← hw4]; simp [World.putObj]
   have hos4 : w4.os = w3.os ∧ w4.tape = w3.tape ∧ w4.output = w3.output:=by rw [← hw4]; exact ⟨rfl,rfl,rfl⟩
   have hp4 : ∀ p ∈ psA,p.φ w4 ∧ ∀ k,p.D k → k < w4.heap.size:=fun p hpm=>by
    obtain ⟨q1,q2⟩:=hH3.ps p hpm
    exact ⟨hstA p hpm w3 w4 (fun k hk=>hother k (fun e=>hlpD p hpm (e ▸ hk))) q1,fun k hk=>by rw [hsz4]; exact (q2 k hk).1⟩
   have hnO : ∀ k,NO k → ¬ O' k:=hH3.no
   have hS4 : Sat C ρ { st with defs:=collL (ms ++ ds),pers:=gp :: dfP (ms ++ ds) :: ps } { a with defers:=collL ms ++ a.defers } w4:=by
    refine ⟨hS.n,hS.slots,hS.grds,?_,hS.inj,?_,hdef,?_,?_,hS.rowsD,?_,hS.fix⟩
    ·intro b blk hb
     have hb' : look st.heap b = some blk:=hb
     rw [hhp'] at hb'; cases hb'
    ·intro b hb
     have hb' : b < st.next:=hb
     rw [hnx'] at hb'; exact absurd hb' (Nat.not_lt_zero _)
    ·have ho:=(hp4 (outP C) ((hmemA _).2 (.inl rfl))).1
     exact ⟨hos4.1.trans (hos.trans (hS1.chg.os)),hos4.2.1.trans (htp.trans hS1.chg.tape),hos4.2.2.trans (hout.trans hS1.chg.output),by rw [hsz4]; omega,fun k h1 h2=>ho k h1 h2⟩
    ·intro r R hR
     have hR' : look st.rows r = some R:=hR
     obtain ⟨k0,_,k2⟩:=hS.rows r R hR'
     have hrw:=hp4 (rwsP st.rows) ((hmemA _).2 (.inr (.inl rfl)))
     exact ⟨k0,hrw.1 r R hR',fun k hk=>⟨hrw.2 k ⟨r,R,hR',hk⟩,(k2 k hk).2⟩⟩
    ·intro p hpm
     rcases List.mem_cons.1 hpm with rfl | hpm
     ·refine ⟨hgs w4 (fun k hk=>hother k (fun e=>hnO lp (.inl rfl) (e ▸ hk))),fun w2 hw2=>hgs w2 (fun k hk=>(hw2 k (by rw [hgD]; exact hk)).trans (hother k (fun e=>hnO lp (.inl rfl) (e ▸ hk)))),fun k hk=>?_⟩
      rw [hgD] at hk
      exact ⟨by rw [hsz4]; exact hO3 k hk,fun b hb=>by
       have hb' : b < st.next:=hb
       rw [hnx'] at hb'; exact absurd hb' (Nat.not_lt_zero _),fun r R hR _ hu=>hnO k (.inr (.inr ⟨r,R,hR,hu⟩)) hk⟩
     ·have hpA : p ∈ psA:=(hmemA p).2 ((List.mem_cons.1 hpm).elim (fun h=>.inr (.inr (.inl h))) (fun h=>.inr (.inr (.inr h))))
      refine ⟨(hp4 p hpA).1,fun w2 hw2=>hstA p hpA w4 w2 hw2 (hp4 p hpA).1,fun k hk=>⟨(hp4 p hpA).2 k hk,fun b hb=>by
       have hb' : b < st.next:=hb
       rw [hnx'] at hb'; exact absurd hb' (Nat.not_lt_zero _),fun r R hR ho hu=>?_⟩⟩
      have hR' : look st.rows r = some R:=hR
      rcases List.mem_cons.1 hpm with rfl | hpm
      ·have hk' : k ∈ ms ++ ds:=hk
       rcases List.mem_append.1 hk' with h | h
       ·have:=(hmsr k h).1; have:=hrowlt r R hR' k hu; omega
       ·exact (d3' k h).2.2 r R hR' ho hu
      ·exact ((hps1 p hpm).2.2 k hk).2 r R hR' ho hu
   obtain ⟨e,w',h1,h2⟩:=hV ρ _ _ hS4 b hb hk hro cs hcs
   refine ⟨e,w',h1,h2.of_steps (Steps.trans sback (.one ?_))⟩
   rw [← hw4]
   exact stepR_endRangeFunc hendL
  rcases hJ with ⟨O',Ow',h1,h2,_⟩ | ⟨O',Ow',h1,h2,_⟩
  ·have hG : ∀ w2,Y.J (idx m) O' Ow' w2 → (gP Y (idx m) O' Ow' (dfP (ms ++ ds) :: ps) B OB (ms ++ ds)).φ w2:=fun w2 hJ2 =>
    ⟨hJ2,fun p hpm k hk=>((h2.ps p ((hmemA p).2 ((List.mem_cons.1 hpm).elim (fun h=>.inr (.inr (.inl h))) (fun h=>.inr (.inr (.inr h)))))).2 k hk).2,h2.b,h2.o,fun r hr=>h2.no r (.inr (.inl hr))⟩
   exact hdone none O' Ow' _ h2 rfl (fun w2 hw2=>hG w2 (Y.st _ _ _ _ _ h1 hw2)) (fun k hk=>Y.lt _ _ _ _ h1 k hk) (k1 O' Ow' (ms ++ ds) hrnd)
  ·have hG : ∀ w2,Y.Jx O' Ow' w2 → (gX Y O' Ow' B OB (ms ++ ds)).φ w2:=fun w2 hJ2=>⟨hJ2,h2.b,h2.o,fun r hr=>h2.no r (.inr (.inl hr))⟩
   exact hdone (some .ret) O' Ow' _ h2 rfl (fun w2 hw2=>hG w2 (Y.stx _ _ _ _ h1 hw2)) (fun k hk=>Y.ltx _ _ _ h1 k hk) (k2 O' Ow' (ms ++ ds) hrnd)
end
end Go.SX
end
section
namespace Go.SX
open Go
section
variable {C : Ctx} {T TR : List Nat} {L : Nat} {c0 : Cfg} {d : DCfg}
theorem VX.pushes {α : Type} (f : α → List SV) (dl : α) (l ys : List α) (r : Nat) (q : Option Addr) (cap : Nat) (e : TypeId) (sz : Nat) (m : Nat) (get : Nat → List SV) (bytes : Nat)
  (hA : (appX C.P c0 d).map (fun A=>(A.r,A.R,A.m,A.get,A.bytes)) = some (r,rowL f dl l q cap e sz true,m,get,bytes)) (hm : m = ys.length) (hr : hasNat TR r = true) (hlk : look c0.st.rows r = some (rowL f dl l q cap e sz true)) (hb : (l.length + m) * bytes ≤ 140737488355328) (hx : ∀ i,i < m → f (ys.getD i dl) = get i)
  (haf : ∀ q cap,(pushD c0 d r (rowL f dl (l ++ ys) q cap e sz true)).isSome = true)
  (k : ∀ q cap,VX C T TR L c0 (pushX c0 d r (rowL f dl (l ++ ys) q cap e sz true))) : VX C T TR L c0 d:=by
 intro D hD a1 a2 a3 a4 a5 a6 hL hsel aT aTR hlt aN hrw
 cases hA' : appX C.P c0 d with
 | none=>rw [hA'] at hA; cases hA
 | some A =>
  rw [hA'] at hA
  simp only [Option.map_some,Option.some.injEq,Prod.mk.injEq] at hA
  obtain ⟨e1,e2,e3,e4,e5⟩:=hA
  have hlen : (l ++ ys).length = l.length + m:=by simp [hm]
  have hrow : ∀ q cap,A.R.next q A.m cap (fun i=>f ((l ++ ys).getD i dl)) = rowL f dl (l ++ ys) q cap e sz true:=by
   intro q cap
   rw [e2,e3]
   simp only [Row.next,rowL,hlen]
  have hn : A.R.n + A.m = (l ++ ys).length:=by rw [e2,e3,hlen]; rfl
  unfold appX at hA'
  split at hA'
  case h_2=>cases hA'
  rename_i i o hone
  split at hA'
  case h_2=>cases hA'
  rename_i cl hg hcl
  obtain ⟨hready,⟨n,hf⟩,ho⟩:=oneX_ok hone
  have tail : ∀ q cap,∃ s',(d.st.rowTo r (rowL f dl (l ++ ys) q cap e sz true)).put o.dst (.v (.one (.row d.st.nr q (l ++ ys).length cap))) = some s' ∧
    pushX c0 d r (rowL f dl (l ++ ys) q cap e sz true) = ⟨n,d.listed.setIfInBounds i true,s'⟩:=by
   intro q cap
   have h1:=haf q cap
   unfold pushX
   unfold pushD at h1 ⊢
   rw [hone] at h1 ⊢
   simp only at h1 ⊢
   split at h1
   ·rename_i s' hs'
    refine ⟨s',hs',?_⟩
    simp only [Option.getD_some,hf,Nat.add_sub_cancel]
   ·cases h1
  refine VD.append i A (fun i=>f ((l ++ ys).getD i dl)) hready hf ho hg hcl hA' (by rw [hn,e5,hlen]; exact hb) ?_ ?_ (fun k hk=>aTR r ((hasNat_mem _ _).1 hr) _ hlk k (by rw [e2] at hk; exact hk)) (fun q cap=>?_) (fun q cap s' hs'=>?_)
  ·intro i hi
   rw [e2] at hi ⊢
   have hi' : i < l.length:=hi
   show f ((l ++ ys).getD i dl) = f (l.getD i dl)
   rw [getD_left _ _ _ _ hi']
  ·intro i hi
   rw [e3] at hi
   rw [e4,← hx i hi,e2]
   show f ((l ++ ys).getD (l.length + i) dl) = f (ys.getD i dl)
   rw [getD_right]
  ·obtain ⟨s',hs',_⟩:=tail q cap
   rw [e1,hrow,hn,hs']; rfl
  ·obtain ⟨s2,hs2,hpx⟩:=tail q cap
   rw [e1,hrow,hn,hs2] at hs'
   cases hs'
   have hW:=put_W hs2
   have hrw2 : D.rows (d.st.rowTo r (rowL f dl (l ++ ys) q cap e sz true)):=by
    refine ⟨fun q' Q hQ=>?_,hrw.2.trans' (rowTo_le _ r _)⟩
    have h1:=hrw.1 q' Q hQ
    rw [a3] at hQ
    obtain ⟨hne,hw⟩:=look_heldOf' hQ
    have hlt' : q' < d.st.nr:=Nat.lt_of_lt_of_le (hlt q' Q hw) (by rw [← a5]; exact hrw.2.nr)
    show look ((d.st.nr,_) :: eraseK r d.st.rows) q' = some Q
    simp only [look]
    have hb' : Nat.beq d.st.nr q' = false:=by
     cases hb : Nat.beq d.st.nr q' with
     | true=>have:=(beq_iff _ _).1 hb; omega
     | false=>rfl
    rw [hb']
    simp only
    rw [look_eraseK_ne (fun e=>hne (by rw [e]; exact (hasNat_mem _ _).1 hr))]
    exact h1
   have hrw3 : D.rows s':=⟨fun r R hR=>by rw [show s'.rows = _ from congrArg WF.rows hW]; exact hrw2.1 r R hR,by rw [hW]; exact hrw2.2⟩
   have:=k q cap
   rw [hpx] at this
   exact this D hD a1 a2 a3 a4 a5 a6 hL hsel aT aTR hlt aN hrw3
end
end Go.SX
end
section
namespace Go.SX
open Go
section
variable {C : Ctx} {ρ : Nat → Nat} {s : St} {a : Act} {w w' : World}
end
section
variable {C : Ctx} {T TR : List Nat} {L : Nat} {c0 : Cfg} {d : DCfg}
end
end Go.SX
end
section
namespace Go.SX
open Go
section
variable {C : Ctx} {T TR : List Nat} {L : Nat} {c0 : Cfg} {d : DCfg}
end
end Go.SX
end
section
namespace Go.SX
open Go
inductive Out where
 | ret (v : RV)
 | pan (ch : List PanicEntry)
def GivesO (ρ : Nat → Nat) (o : Out) (w : World) (e : Ending) (w' : World) : Prop :=
 (match o with
  | .ret v=>e = .returned (v.den ρ)
  | .pan ch=>e = .panicked ch) ∧ Chg (fun _=>False) w w'
def CallsF (P : Program) (f : FuncId) (ys : List CV) (F : St) (o : Out) : Prop :=
 ∀ ρ w,FSat ρ F w → Calls P f (ys.map (CV.den ρ)).toArray w (GivesO ρ o w)
def roH : List (Nat × Blk) → List (Nat × Blk)
 | []=>[]
 | (k,b) :: l=>(k,⟨b.cells,b.elem,false⟩) :: roH l
theorem look_roH : ∀ {l : List (Nat × Blk)} {k : Nat} {b : Blk},look (roH l) k = some b → ∃ b0,look l k = some b0 ∧ b = ⟨b0.cells,b0.elem,false⟩
 | (j,c) :: l,k,b,h=>by
  simp only [roH,look] at h ⊢
  split at h
  ·cases h; exact ⟨c,rfl,rfl⟩
  ·exact look_roH h
def stO (n : Nat) (ys : List CV) (F : St) (wr : Bool) : St :=
 { n:=n,slots:=enum ys 0,gs:=[],heap:=roH F.heap,next:=F.next,rows:=F.rows,nr:=F.nr,pers:=F.pers,wr:=wr,fx:=F.next }
theorem CallsF.mk {P : Program} {f : FuncId} {fn : Func} {ys : List CV} {F : St} {o : Out} (wr : Bool) (hf : P.funcs[f]? = some fn) (hb : (fn.body.isSome && (Nat.ble ys.length fn.ntmps && F.rows.isEmpty)) = true) (hw : fixA F ys = some ys)
  (h : ∀ ρ w,V ⟨P,f,GivesO ρ o w,fun _=>False,w,ρ,none⟩ ⟨[.code (bodyOf fn)],stO fn.ntmps ys F wr⟩) : CallsF P f ys F o:=by
 intro ρ w hF
 simp only [Bool.and_eq_true] at hb
 obtain ⟨hb1,hb2,hb3⟩:=hb
 have hr : F.rows = []:=List.isEmpty_iff.1 hb3
 refine Calls.of_V (fun _=>False) ρ ρ ys (stO fn.ntmps ys F wr) hf hb1 hb2 (fun a h1 h2 h3=>?_) (h ρ w)
 refine ⟨h1,?_,?_,?_,hF.inj,hF.lt,h2,Chg.refl _ _,?_,hF.rowsD,hF.pers,fun b hb=>⟨hb,rfl⟩⟩
 ·intro i v hv
  obtain ⟨x,rfl,_,hx⟩:=look_enum _ 0 i v hv
  exact ⟨h3 i x (by simpa using hx),fixA_wf hw x (List.mem_of_getElem? hx)⟩
 ·intro i g pol c x hv
  obtain ⟨y,e,_⟩:=look_enum _ 0 i _ hv
  cases e
 ·intro b blk hb
  obtain ⟨b0,h0,rfl⟩:=look_roH hb
  obtain ⟨k1,k2,k3⟩:=hF.heap b b0 h0
  exact ⟨k1,k2,k3,fun e=>by cases e⟩
 ·intro r R hR
  have hR' : look F.rows r = some R:=hR
  rw [hr] at hR'; cases hR'
theorem CallsF.roF {P : Program} {f : FuncId} {ys : List CV} {F F' : St} {o : Out} (h : CallsF P f ys F' o) (hF : ∀ ρ w,FSat ρ F w → FSat ρ F' w) : CallsF P f ys F o:=fun ρ w hS=>h ρ w (hF ρ w hS)
section
variable {C : Ctx}
theorem V.callO {f : FuncId} {ys : List CV} {F : St} {o : Out} {c : Cfg} (pi : List (Nat × Bool)) (hk : CallsF C.P f ys F o)
  (hb : entersB C.P f = true) (hc : frameOf c = some (f,ys,fragOf F)) (hpi : getP pi c.st.pers = some (askP C.w0.heap.size C.S pi F.pers))
  (kr : ∀ v,o = .ret v → (plainR v && (afterOp c c.st v).isSome) = true ∧ V C (afterD c c.st v))
  (kp : ∀ ch,o = .pan ch → C.round = none ∧ c.st.defs = [] ∧ (C.P.funcs[C.f]?).isSome = true ∧ ∀ w',Chg C.S C.w0 w' → C.R (.panicked ch) w') : V C c:=by
 unfold frameOf at hc
 split at hc
 case h_2=>cases hc
 rename_i f1 xs hcall
 split at hc
 rename_i hs rs hcan
 split at hc
 case h_2=>cases hc
 rename_i ys1 s' hren hpk
 simp only [Option.some.injEq,Prod.mk.injEq] at hc
 obtain ⟨rfl,rfl,hfr⟩:=hc
 have hargs : ∀ ρ : Nat → Nat,ys1.map (CV.den (fun i=>ρ (hs.getD i 0))) = xs.map (CV.den ρ):=by
  intro ρ
  have hpk2:=hpk
  unfold pickSt at hpk2
  split at hpk2
  case h_2=>cases hpk2
  rename_i sl hpp rows _ _ _ _ hrows
  have hRR : RowsRen rs c.st.W ⟨hs.length,rs.length,rows⟩:=by
   intro r' r R hr hl
   obtain ⟨r2,_,h2,h3⟩:=pickRows_ok hrows r' R hl
   simp only [Nat.sub_zero] at h2
   rw [hr] at h2
   cases h2
   exact h3
  exact (renC_ok (ρ:=ρ) (W:=c.st.W) (W':=⟨hs.length,rs.length,rows⟩) rfl rfl hRR hren).1
 have hcalls : ∀ ρ a w,Sat C ρ c.st a w → Calls C.P f1 (xs.map (CV.den ρ)).toArray w (GivesO (fun i=>ρ (hs.getD i 0)) o w):=fun ρ a w hS=>by
  have:=hk (fun i=>ρ (hs.getD i 0)) w (hS.fragAt hpk hfr pi hpi)
  rw [hargs ρ] at this
  exact this
 cases o with
 | ret v =>
  obtain ⟨h1,h2⟩:=kr v rfl
  rw [Bool.and_eq_true] at h1
  refine V.callM hcall (enters hb) (fun ρ a w hS=>⟨_,hcalls ρ a w hS,?_⟩)
  rintro e w' ⟨he,hch⟩
  exact ⟨ρ,v,c.st,_,by rw [plainR_den h1.1 ρ (fun i=>ρ (hs.getD i 0))]; exact he,hS.below hch,(plainR_wf h1.1 _).1,(plainR_wf h1.1 c.st.W).2,afterD_some h1.2,h2⟩
 | pan ch =>
  obtain ⟨h1,h2,h3,h4⟩:=kp ch rfl
  refine V.callX hcall (enters hb) h1 h2 h3 (fun ρ a w hS=>⟨_,hcalls ρ a w hS,?_⟩)
  rintro e w' ⟨he,hch⟩
  exact .inr ⟨ch,he,h4 w' (hS.chg.trans hch (fun i hi=>hi.elim))⟩
def panOf (c : Cfg) : Option Value :=
 match c.todo with
 | .inRegion ops (i :: _) :: _=>match ops[i]? with
  | some o=>match grdOf c.st ops o.guard,o.op with
   | .yes,.panic x=>match ev c.st none x with
    | some (.one (.val (.iface t v)))=>some (.iface t v)
    | _=>none
   | _,_=>none
  | none=>none
 | _=>none
theorem V.panicO {v : Value} {c : Cfg} (hc : panOf c = some v) (hro : C.round = none) (hds : c.st.defs = []) (hf : (C.P.funcs[C.f]?).isSome = true) (h : ∀ w',Chg C.S C.w0 w' → C.R (.panicked [{ v:=v,recovered:=false }]) w') : V C c:=by
 intro ρ a w hS
 obtain ⟨todo,st⟩:=c
 unfold panOf at hc
 simp only at hc hds hS ⊢
 split at hc
 case h_2=>cases hc
 rename_i ops i l k
 split at hc
 case h_2=>cases hc
 rename_i o ho
 split at hc
 case h_2=>cases hc
 rename_i x hg hop
 split at hc
 case h_2=>cases hc
 rename_i t v' hx
 cases hc
 obtain ⟨e1,_⟩:=ev_sound hS.toP (GcOk.none st) hx
 have hr : (execOp a.eval o).run C.P w = .halt (.panic (.iface t v')) w:=by
  unfold execOp
  rw [hop]
  simp only [e1,CV.den,SV.den]
  rfl
 exact Ok.op_panics ho (grd_yes hS hg) hr hro (hS.defers.trans hds) hf (fun c e=>by rw [hop] at e; cases e) (h w hS.chg)
theorem V.retO {P : Program} {f : FuncId} {ρ base : Nat → Nat} {w : World} {v : RV} {c : Cfg} (hr : resOf P f c.st = some v) (he : isEnd c.todo = true) (hv : plainR v = true) :
  V ⟨P,f,GivesO ρ (.ret v) w,fun _=>False,w,base,none⟩ c :=
 V.ret v hr he (fun ρ' a w' hS=>⟨by show Ending.returned _ = Ending.returned _; rw [plainR_den hv ρ' ρ],hS.chg⟩)
end
end Go.SX
end
section
namespace Go.Proofs
open Go Go.SX
set_option maxRecDepth 10000
def noF : St:={ n:=0,slots:=[],gs:=[],heap:=[],next:=0,rows:=[],nr:=0,pers:=[],wr:=false }
def wrE (e : Int) : List PanicEntry:=[{ v:=.iface 168 (.agg #[.int .i64 e]),recovered:=false }]
def outE (e : Int) : Out:=if e = 0 then .ret (.tup []) else .pan (wrE e)
theorem cMust (b : Bool) (e : Int) : CallsF Tryz.prog 69 [.one (.sb b),.one (.int .i64 e)] noF (if b then .ret (.tup []) else .pan (wrE e)):=by
 refine CallsF.mk true Tryz.func69 kq kq (fun ρ w=>?_)
 refine V.q ?_
 refine V.branch 5 (!b) kq (fun h=>?_) (fun h=>?_)
 ·cases b with
  | true=>cases h
  | false =>
   refine V.q ?_
   exact V.panicO (v:=.iface 168 (.agg #[.int .i64 e])) kq rfl kq kq (fun w' hc=>⟨rfl,hc⟩)
 ·cases b with
  | false=>cases h
  | true =>
   refine V.q ?_
   exact V.retO kq kq kq
theorem ta168 (x : Value) (w : World) : (Instr.typeAssert (.iface 168 x) 20 168 true).run Tryz.prog w = .ok (.tuple #[x,.bool true]) w:=kq
theorem catch_pan (p : Addr) (n e : Int) (older : List PanicEntry) (w : World) (hc : w.cell? p = some (.int .i64 n)) (hz : w.frozen? p = false) :
  CallsD Tryz.prog 122 #[.pointer (some p)] (.panicking ({ v:=.iface 168 (.agg #[.int .i64 e]),recovered:=false } :: older)) w fun e' u' w' =>
   e' = .returned (.tuple #[]) ∧ u' = .panicking ({ v:=.iface 168 (.agg #[.int .i64 e]),recovered:=true } :: older) ∧ w' = (w.alloc (.cells #[.int .i64 e] 168)).setCell p (.int .i64 e):=by
 refine callsD_of_wpS Tryz.func122 rfl fun c₀ cs hu=>?_
 apply wpS_seq
 apply wpS_region
 simp [wpOpsS,go_sem,recoverD,hu,Tryz.ntmps122,Exit.thenS]
 apply wpS_seq
 apply wpS_region
 simp [wpOpsS,go_sem,Exit.thenS]
 refine wpS_cond (t:=true) (by simp [Act.eval,Array.replicate]) ?_
 simp only [if_true]
 apply wpS_seq
 apply wpS_region
 simp [wpOpsS,go_sem,Exit.thenS,ta168]
 have hlt : p.block < w.heap.size:=by
  unfold World.cell? at hc
  cases hb : w.heap[p.block]? with
  | none=>rw [hb] at hc; simp at hc
  | some o=>exact (Array.getElem?_eq_some_iff.1 hb).1
 have hc' : (w.alloc (.cells #[.int .i64 e] 168)).cell? p = some (.int .i64 n):=by
  rw [World.cell?_of_block (w:=w) (Go.RowKit.Below.heap_alloc w _ p.block hlt)]; exact hc
 have hz' : (w.alloc (.cells #[.int .i64 e] 168)).frozen? p = false:=by
  unfold World.frozen? at hz ⊢
  rw [Go.RowKit.Below.heap_alloc w _ p.block hlt]; exact hz
 have hn : (w.alloc (.cells #[.int .i64 e] 168)).cell? ⟨w.heap.size,0,none⟩ = some (.int .i64 e):=by
  unfold World.cell?
  rw [allocAt]
  rfl
 generalize w.alloc (.cells #[.int .i64 e] 168) = w2 at hc' hz' hn
 apply wpS_seq
 apply wpS_seq
 apply wpS_region
 simp [wpOpsS,go_sem,Exit.thenS]
 refine wpS_cond (t:=false) (by simp [Act.eval,Array.replicate]) ?_
 simp only [Bool.false_eq_true,if_false]
 refine wpS_of_wp (wp_skip ?_)
 show Code.wpS _ _ _ _ _ _
 apply wpS_region
 simp [wpOpsS,go_sem,hc',hz',hn,bodyPostS,results,Tryz.results122]
theorem catch_idle (p : Addr) (w : World) :
  CallsD Tryz.prog 122 #[.pointer (some p)] .returning w fun e u' w'=>e = .returned (.tuple #[]) ∧ u' = .returning ∧ w' = w:=by
 refine callsD_of_wpS Tryz.func122 rfl fun c₀ cs hu=>?_
 apply wpS_seq
 apply wpS_region
 simp [wpOpsS,go_sem,recoverD,hu,Tryz.ntmps122,Exit.thenS]
 apply wpS_seq
 apply wpS_region
 simp [wpOpsS,go_sem,Exit.thenS]
 refine wpS_cond (t:=false) (by simp [Act.eval,Array.replicate]) ?_
 simp only [Bool.false_eq_true,if_false]
 refine wpS_of_wp (wp_skip ?_)
 cases c₀
 simp_all [bodyPostS,results,Tryz.results122]
theorem Chg_setNew {w w' : World} (h : Chg (fun _=>False) w w') {b : Nat} (hb : w.heap.size ≤ b) (v : Value) : Chg (fun _=>False) w (w'.setCell ⟨b,0,none⟩ v):=by
 refine ⟨h.os,h.tape,h.output,?_,fun k hk _=>?_⟩
 ·simp only [World.setCell,Array.size_modify]; exact h.size
 ·have : b ≠ k:=by omega
  simp only [World.setCell]
  rw [Array.getElem?_modify]
  simp only [this,if_false]
  exact h.block k hk id
theorem cell_set {w : World} {b : Nat} {x v : Value} (h : w.heap[b]? = some (.cells #[x] 28 (0,0))) : (w.setCell ⟨b,0,none⟩ v).cell? ⟨b,0,none⟩ = some v:=by
 simp [World.cell?,World.setCell,Array.getElem?_modify,h]
theorem caught_ok (g : FuncId) (caps : Array Value) (w : World) (v : Value) (hent : ∀ w,(callFunc g caps).run Tryz.prog w = .ok (.enter g caps) w)
  (h : ∀ w1,Chg (fun _=>False) w w1 → Calls Tryz.prog g caps w1 fun e w'=>e = .returned v ∧ Chg (fun _=>False) w1 w') :
  Calls Tryz.prog 67 #[.func (.func g) #[] caps] w fun e w'=>e = .returned (.int .i64 0) ∧ Chg (fun _=>False) w w':=by
 have hmf : ∀ (fn : Fn) (first cap : Array Value) (w : World),(Instr.makeFunc fn first cap).run Tryz.prog w = .ok (.func fn first cap) w:=fun _ _ _ _=>rfl
 go_enter_defers Tryz.func67,Tryz.ntmps67
 go_wp2
 rename_i K1 a1 K2 a2
 have hc1 : Chg (fun _=>False) w (w.alloc (.cells #[.int .i64 0] 28)):=Chg.alloc _ w _
 refine (h _ hc1).mono ?_
 rintro e w' ⟨rfl,hch⟩
 have hb : w'.heap[w.heap.size]? = some (.cells #[.int .i64 0] 28 (0,0)):=by
  rw [hch.block _ (by simp) id]
  exact allocAt w _
 have hcw : Chg (fun _=>False) w w':=hc1.trans hch (fun i hi=>hi.elim)
 have hcell : w'.cell? ⟨w.heap.size,0,none⟩ = some (.int .i64 0):=by simp [World.cell?,hb]
 have hfz : w'.frozen? ⟨w.heap.size,0,none⟩ = false:=by simp [World.frozen?,hb]
 have hset:=cell_set (v:=.int .i64 0) hb
 have hfin:=Chg_setNew hcw (Nat.le_refl _) (.int .i64 0)
 clear h hent hch hb hc1 hcw
 refine a2 _ _ ?_
 refine a1 _ _ ?_
 clear a1 a2 K1 K2
 go_wp2
 refine leaves_cons (f:=122) (args:=#[.pointer (some ⟨w.heap.size,0,none⟩)]) (by simp) (by simp [go_sem]) ?_
 refine (catch_idle _ _).mono ?_
 rintro e u' w'' ⟨rfl,rfl,rfl⟩
 simp [Leaves,settle,results,Tryz.results67,go_sem,hset]
 exact hfin
theorem caught_pan (g : FuncId) (caps : Array Value) (w : World) (n : Int) (hent : ∀ w,(callFunc g caps).run Tryz.prog w = .ok (.enter g caps) w)
  (h : ∀ w1,Chg (fun _=>False) w w1 → Calls Tryz.prog g caps w1 fun e w'=>e = .panicked (wrE n) ∧ Chg (fun _=>False) w1 w') :
  Calls Tryz.prog 67 #[.func (.func g) #[] caps] w fun e w'=>e = .returned (.int .i64 n) ∧ Chg (fun _=>False) w w':=by
 have hmf : ∀ (fn : Fn) (first cap : Array Value) (w : World),(Instr.makeFunc fn first cap).run Tryz.prog w = .ok (.func fn first cap) w:=fun _ _ _ _=>rfl
 go_enter_defers Tryz.func67,Tryz.ntmps67
 go_wp2
 rename_i K1 a1 K2 a2
 have hc1 : Chg (fun _=>False) w (w.alloc (.cells #[.int .i64 0] 28)):=Chg.alloc _ w _
 refine (h _ hc1).mono ?_
 rintro e w' ⟨rfl,hch⟩
 have hb : w'.heap[w.heap.size]? = some (.cells #[.int .i64 0] 28 (0,0)):=by
  rw [hch.block _ (by simp) id]
  exact allocAt w _
 have hcw : Chg (fun _=>False) w w':=hc1.trans hch (fun i hi=>hi.elim)
 have hcell : w'.cell? ⟨w.heap.size,0,none⟩ = some (.int .i64 0):=by simp [World.cell?,hb]
 have hfz : w'.frozen? ⟨w.heap.size,0,none⟩ = false:=by simp [World.frozen?,hb]
 have hlt : w.heap.size < w'.heap.size:=(Array.getElem?_eq_some_iff.1 hb).1
 have hb2 : (w'.alloc (.cells #[.int .i64 n] 168)).heap[w.heap.size]? = some (.cells #[.int .i64 0] 28 (0,0)):=by
  rw [Go.RowKit.Below.heap_alloc w' _ _ hlt]; exact hb
 have hset:=cell_set (v:=.int .i64 n) hb2
 have hfin:=Chg_setNew (hcw.trans (Chg.alloc (fun _=>False) w' (.cells #[.int .i64 n] 168)) (fun i hi=>hi.elim)) (Nat.le_refl _) (.int .i64 n)
 clear h hch hc1 a1 a2 hcw hb hb2
 refine leaves_cons (f:=122) (args:=#[.pointer (some ⟨w.heap.size,0,none⟩)]) (by simp) (by simp [go_sem]) ?_
 refine (catch_pan ⟨w.heap.size,0,none⟩ 0 n [] w' hcell hfz).mono ?_
 rintro e u' w'' ⟨rfl,rfl,rfl⟩
 simp [Leaves,settle,results,Tryz.results67,go_sem,hset]
 exact hfin
theorem FSat_below {ρ : Nat → Nat} {F : St} {w w' : World} (h : FSat ρ F w) (hc : Chg (fun _=>False) w w') : FSat ρ F w':=by
 have hb : ∀ k,k < w.heap.size → w'.heap[k]? = w.heap[k]?:=fun k hk=>hc.block k hk id
 refine ⟨fun b blk hl=>?_,h.inj,fun b hb'=>Nat.lt_of_lt_of_le (h.lt b hb') hc.size,fun r R hR=>?_,h.rowsD,fun p hp=>?_⟩
 ·obtain ⟨h1,h2,h3⟩:=h.heap b blk hl
  exact ⟨h1,(hb _ (h.lt b h1)).trans h2,h3⟩
 ·obtain ⟨h1,h2,h3⟩:=h.rows r R hR
  exact ⟨h1,h2.congr (fun k hk=>hb k (h3 k hk).1),fun k hk=>⟨Nat.lt_of_lt_of_le (h3 k hk).1 hc.size,(h3 k hk).2⟩⟩
 ·obtain ⟨h1,h2,h3⟩:=h.pers p hp
  have hk : ∀ k,p.D k → w'.heap[k]? = w.heap[k]?:=fun k hD=>hb k (h3 k hD).1
  exact ⟨h2 _ hk,fun w2 hw2=>h2 w2 (fun k hD=>(hw2 k hD).trans (hk k hD)),fun k hD=>⟨Nat.lt_of_lt_of_le (h3 k hD).1 hc.size,(h3 k hD).2⟩⟩
theorem cCaught {g : FuncId} {bs : List Nat} {F : St} {e : Int} (hent : entersB Tryz.prog g = true) (h : CallsF Tryz.prog g (bs.map fun b=>.one (.ptr b 0)) F (outE e)) : CallsF Tryz.prog 67 [.one (.fn g bs)] F (.ret (.v (.one (.int .i64 e)))):=by
 intro ρ w hF
 have hargs : (bs.map fun b=>CV.one (.ptr b 0)).map (CV.den ρ) = bs.map fun b=>Value.pointer (some ⟨ρ b,0,none⟩):=by
  rw [List.map_map]; rfl
 have hc : ∀ w1,Chg (fun _=>False) w w1 → Calls Tryz.prog g (bs.map fun b=>Value.pointer (some ⟨ρ b,0,none⟩)).toArray w1 (GivesO ρ (outE e) w1):=fun w1 h1=>by
  have:=h ρ w1 (FSat_below hF h1)
  rw [hargs] at this
  exact this
 show Calls Tryz.prog 67 #[.func (.func g) #[] (bs.map fun b=>Value.pointer (some ⟨ρ b,0,none⟩)).toArray] w _
 by_cases he : e = 0
 ·subst he
  refine (caught_ok g _ w (.tuple #[]) (fun w=>enters hent _ w) (fun w1 h1=>(hc w1 h1).mono ?_)).mono ?_
  ·rintro e w' ⟨h1,h2⟩; exact ⟨h1,h2⟩
  ·rintro e w' ⟨h1,h2⟩; exact ⟨h1,h2⟩
 ·refine (caught_pan g _ w e (fun w=>enters hent _ w) (fun w1 h1=>(hc w1 h1).mono ?_)).mono ?_
  ·intro e' w' h2
   unfold outE at h2
   rw [if_neg he] at h2
   exact h2
  ·rintro e w' ⟨h1,h2⟩; exact ⟨h1,h2⟩
end Go.Proofs
end
section
namespace Go.SX
open Go
section
variable {C : Ctx}
theorem V.nrTo (K : Nat) {c : Cfg} (hK : Nat.ble c.st.nr K = true) (h : V C ⟨c.todo,{ c.st with nr:=K }⟩) : V C c:=by
 intro ρ a w hS
 have hle : c.st.W.le ({ c.st with nr:=K } : St).W:=⟨Nat.le_refl _,Nat.le_of_ble_eq_true hK,fun _ _ _ h=>h⟩
 exact h ρ a w ⟨hS.n,fun i v hv=>⟨(hS.slots i v hv).1,RV.wf_mono hle v (hS.slots i v hv).2⟩,hS.grds,fun b blk hb=>⟨(hS.heap b blk hb).1,(hS.heap b blk hb).2.1,fun x hx=>SV.wf_mono hle x ((hS.heap b blk hb).2.2.1 x hx),(hS.heap b blk hb).2.2.2⟩,
    hS.inj,hS.lt,hS.defers,hS.chg,fun r R hR=>⟨Nat.lt_of_lt_of_le (hS.rows r R hR).1 (Nat.le_of_ble_eq_true hK),(hS.rows r R hR).2⟩,hS.rowsD,hS.pers,hS.fix⟩
def St.tab (s : St) (K : Nat) (R : Row) : St:={ s with rows:=(K,R) :: s.rows,nr:=K + 1 }
theorem V.tab (K i : Nat) (R : Row) {c : Cfg} (hK : Nat.ble c.st.nr K = true) (hp : c.st.pers[i]? = some (rowP R)) (ho : R.own = false) (h : V C ⟨c.todo,c.st.tab K R⟩) : V C c:=by
 refine V.nrTo K hK ?_
 intro ρ a w hS
 exact h ρ a w (hS.rowOfP (i:=i) (R:=R) hp ho)
def tabs : List (Nat × Nat × Row) → St → Option St
 | [],s=>some s
 | (g,i,R) :: l,s=>match Nat.ble s.nr (1000000 + g),R.own with
  | true,false=>tabs l (s.tab (1000000 + g) R)
  | _,_=>none
def tabsAt : List (Nat × Nat × Row) → List (Option Pers) 
 | []=>[]
 | (_,_,R) :: l=>some (rowP R) :: tabsAt l
def tabsIn : List (Nat × Nat × Row) → List Pers → List (Option Pers)
 | [],_=>[]
 | (_,i,_) :: l,ps=>ps[i]? :: tabsIn l ps
theorem V.tabs : ∀ (l : List (Nat × Nat × Row)) {s' : St} {c : Cfg},SX.tabs l c.st = some s' → tabsIn l c.st.pers = tabsAt l → V C ⟨c.todo,s'⟩ → V C c
 | [],s',c,h,_,k=>by
  simp only [SX.tabs,Option.some.injEq] at h
  subst h
  exact k
 | (g,i,R) :: l,s',c,h,hp,k=>by
  simp only [SX.tabs] at h
  split at h
  ·rename_i h1 h2
   simp only [tabsIn,tabsAt,List.cons.injEq] at hp
   refine V.tab (1000000 + g) i R h1 hp.1 h2 (V.tabs l h hp.2 k)
  ·cases h
end
end Go.SX
end
section
namespace Go.Proofs
open Go Go.SX
set_option maxRecDepth 10000
structure Ty where
 k : Int
 p : Int
 q : Int
 v : Bool
 s : List UInt8
def tyC (t : Ty) : List SV:=[.int .i64 t.k,.int .i64 t.p,.int .i64 t.q,.sb t.v,.str t.s]
structure Pic where
 spec : List UInt8
 num : Bool
 w : Int
 d : Int
 sc : Int
 sg : Bool
def Pic.none : Pic:=⟨[],false,0,0,0,false⟩
def pSpec (p : Option Pic) : List UInt8:=(p.getD .none).spec
def pNum (p : Option Pic) : Bool:=(p.getD .none).num
def pW (p : Option Pic) : Int:=(p.getD .none).w
def pD (p : Option Pic) : Int:=(p.getD .none).d
def pSc (p : Option Pic) : Int:=(p.getD .none).sc
def pSg (p : Option Pic) : Bool:=(p.getD .none).sg
def pE (p : Option Pic) : Int:=bif p.isSome then 0 else 30
def picV (p : Option Pic) : RV:=.tup [.agg [.str (pSpec p),.sb (pNum p),.int .i64 (pW p),.int .i64 (pD p),.int .i64 (pSc p),.sb (pSg p)],.one (.int .i64 (pE p))]
def opL : List (Int × Int):=[(0,0),(0,0),(0,1),(0,1),(1,0),(1,0),(2,0),(2,0),(2,0),(2,0),(2,0),(1,0),(2,0),(2,0),(2,0),(2,0),(2,0),(1,0),(2,0),(3,0),(2,0),(1,0),(2,0),(3,0),(2,0),(-1,0),(0,0),(0,0),(0,0),(0,0),(1,1),(1,1)]
def opC (x : Int × Int) : List SV:=[.int .i8 x.1,.int .i8 x.2]
def opR : Row:=rowL opC (0,0) opL (some ⟨0,0,none⟩) 32 140 2 false
structure Shp where
 a : Int
 b : Int
 c : Int
 d : Int
 u : Int
def shL : List Shp:=[⟨0,0,0,0,0⟩,⟨0,0,0,0,0⟩,⟨1,1,1,1,0⟩,⟨0,0,0,0,1⟩,⟨0,0,1,1,1⟩,⟨0,0,0,0,3⟩,⟨0,0,0,8,1⟩,⟨0,0,0,1,0⟩,⟨0,0,0,0,7⟩,⟨0,0,0,0,6⟩,⟨0,0,0,0,6⟩,⟨1,2,0,0,1⟩,⟨0,1,1,1,0⟩,⟨0,0,0,0,1⟩,⟨0,0,0,0,1⟩,⟨0,0,0,16,26⟩,⟨1,16,0,0,10⟩,⟨1,1,0,1,2⟩,⟨1,1,1,1,2⟩,⟨1,1,1,1,2⟩,⟨0,0,1,1,2⟩,⟨2,2,0,0,0⟩,⟨0,0,0,0,0⟩]
def shC (x : Shp) : List SV:=[.int .i8 x.a,.int .i8 x.b,.int .i8 x.c,.int .i8 x.d,.int .i8 x.u]
def shR : Row:=rowL shC ⟨0,0,0,0,0⟩ shL (some ⟨1,0,none⟩) 23 231 5 false
def puL : List UInt8:=[123,65,66,67,68,69,70,71,72,73,125,74,75,76,77,78,79,80,81,82]
def u8C (c : UInt8) : List SV:=[.int .u8 (c.toNat : Int)]
def puR : Row:=rowL u8C 0 puL (some ⟨4,0,none⟩) 20 5 1 false
def gl : List Pers:=[rowP puR,rowP shR,rowP opR]
structure PicK (pw : List UInt8 → Option Pic) (ph : List UInt8 → List UInt8 → Bool) : Prop where
 parse : ∀ s (ρ : Nat → Nat) w,PersOk gl w → Calls Tryz.prog 243 #[.string ⟨s.toArray⟩] w (Gives ((picV (pw s)).den ρ) w)
 holds : ∀ s t (ρ : Nat → Nat) w,PersOk gl w → Calls Tryz.prog 247 #[.string ⟨s.toArray⟩,.string ⟨t.toArray⟩] w (Gives (.bool (ph s t)) w)
noncomputable def cWithin : Con Tryz.prog:=Con.auto Tryz.func60 true [] [] kq kq
noncomputable def cSome : Con Tryz.prog:=Con.auto Tryz.func55 true [cWithin.e] [] kq kq
noncomputable def cArith : Con Tryz.prog:=Con.auto Tryz.func87 true [] [] kq kq
noncomputable def cArith2 : Con Tryz.prog:=Con.auto Tryz.func217 true [] [] kq kq
noncomputable def cMost : Con Tryz.prog:=Con.auto Tryz.func219 true [] [] kq kq
noncomputable def cBitT : Con Tryz.prog:=Con.auto Tryz.func88 true [] [] kq kq
noncomputable def cOper : Con Tryz.prog:=Con.auto Tryz.func158 true [] [] kq kq
section
variable {pw : List UInt8 → Option Pic} {ph : List UInt8 → List UInt8 → Bool} (K : PicK pw ph)
end
end Go.Proofs
end
section
namespace Go.Proofs
open Go Go.SX Go.ChangeShapes Go.WideShapes Go.ChangeAt Go.RowKit
set_option maxRecDepth 10000
section
variable {H : Type} {enc : TypeId × Value → H} {w : World} {base : Nat} {sp : Nat → Bool} {held : Bool}
noncomputable def fsOf (t : TypeId) : Array Field:=match Tryz.prog.underlying t with
 | some (.struct fs)=>fs
 | _=>#[]
theorem fields {t : TypeId} {fuel : Nat} {cs : List Value} {x : DataW H × List MemPlace} (hu : Tryz.prog.underlying t = some (.struct (fsOf t))) (h : DataW.trod enc Tryz.prog w base sp held fuel t cs = some x) :
  cs.length = Tryz.prog.cellsOf t ∧ ∃ n,∀ (i : Nat) (t' : TypeId) (o k : Nat),((fsOf t)[i]?).map (fun f=>(f.type,f.offset)) = some (t',o) → Tryz.prog.cellsOf t' = k → ∃ y,DataW.trod enc Tryz.prog w base sp held n t' ((cs.drop o).take k) = some y:=by
 obtain ⟨xs,n,_,_,hl,hxl,hf⟩:=DataW.trod_struct hu h
 refine ⟨hl,n,fun i t' o k h1 h2=>?_⟩
 cases e : (fsOf t)[i]? with
 | none=>rw [e] at h1; cases h1
 | some f =>
  rw [e] at h1
  simp only [Option.map_some,Option.some.injEq,Prod.mk.injEq] at h1
  obtain ⟨h3,h4⟩:=h1
  subst h3 h4 h2
  have hi : i < xs.length:=by rw [hxl]; exact (Array.getElem?_eq_some_iff.1 e).1
  exact ⟨xs[i],by rw [hf i f e,List.getElem?_eq_getElem hi]⟩
def segs (cs : List Value) : Nat → List Nat → List Value
 | o,[]=>cs.drop o
 | o,k :: ks=>(cs.drop o).take k ++ segs cs (o + k) ks
theorem segs_eq (cs : List Value) : ∀ (ks : List Nat) (o : Nat),segs cs o ks = cs.drop o
 | [],_=>rfl
 | k :: ks,o=>by
  show (cs.drop o).take k ++ segs cs (o + k) ks = cs.drop o
  rw [segs_eq cs ks (o + k),← List.drop_drop,List.take_append_drop]
theorem o_int {n : Nat} {cs : List Value} {x : DataW H × List MemPlace} (h : DataW.trod enc Tryz.prog w base sp held n 3 cs = some x) : ∃ k,cs = [Value.int .i64 k] ∧ (Lit.int .i64 k).wf = true:=by
 obtain ⟨k,h1,_,h2⟩:=DataW.trod_int Tryz.underlying3 h
 exact ⟨k,h1,h2⟩
theorem o_bool {n : Nat} {cs : List Value} {x : DataW H × List MemPlace} (h : DataW.trod enc Tryz.prog w base sp held n 4 cs = some x) : ∃ b,cs = [Value.bool b]:=by
 obtain ⟨b,h1,_⟩:=DataW.trod_bool Tryz.underlying4 h
 exact ⟨b,h1⟩
theorem o_str {n : Nat} {cs : List Value} {x : DataW H × List MemPlace} (h : DataW.trod enc Tryz.prog w base sp held n 9 cs = some x) : ∃ s : List UInt8,cs = [Value.string ⟨s.toArray⟩] ∧ s.length ≤ maxLen:=by
 obtain ⟨s,h1,_,h2⟩:=DataW.trod_string Tryz.underlying9 h
 exact ⟨s.data.toList,h1,h2⟩
theorem o_ty {n : Nat} {cs : List Value} {x : DataW H × List MemPlace} (h : DataW.trod enc Tryz.prog w base sp held n 26 cs = some x) : ∃ t : Ty,cs = (tyC t).map SV.den0:=by
 obtain ⟨hl,m,hf⟩:=fields (t:=26) kq h
 have hn : cs.length = 5:=hl.trans kq
 obtain ⟨y0,h0⟩:=hf 0 3 0 1 kq kq
 obtain ⟨k,e0,w0⟩:=o_int h0
 obtain ⟨y1,h1⟩:=hf 1 3 1 1 kq kq
 obtain ⟨p,e1,w1⟩:=o_int h1
 obtain ⟨y2,h2⟩:=hf 2 3 2 1 kq kq
 obtain ⟨q,e2,w2⟩:=o_int h2
 obtain ⟨y3,h3⟩:=hf 3 4 3 1 kq kq
 obtain ⟨v,e3⟩:=o_bool h3
 obtain ⟨y4,h4⟩:=hf 4 9 4 1 kq kq
 obtain ⟨s,e4,w4⟩:=o_str h4
 have e : cs = (cs.drop 0).take 1 ++ ((cs.drop 1).take 1 ++ ((cs.drop 2).take 1 ++ ((cs.drop 3).take 1 ++ ((cs.drop 4).take 1 ++ cs.drop 5)))):=(segs_eq cs [1,1,1,1,1] 0).symm
 rw [e0,e1,e2,e3,e4,List.drop_eq_nil_of_le (by omega)] at e
 exact ⟨⟨k,p,q,v,s⟩,e⟩
end
theorem row_none {R : Row} (h1 : R.own = false) (h2 : R.n = 0) (h3 : R.obj = none) : (∀ k,¬ R.uses k) ∧ ∀ w,R.ok w:=by
 refine ⟨?_,fun w=>⟨fun i hi=>absurd hi (by omega),fun hp=>absurd hp (by omega),fun h _=>(by rw [h1] at h; cases h),fun o h=>(by rw [h3] at h; cases h)⟩⟩
 rintro k ⟨a,_,_,h | h | h⟩
 ·rw [h1] at h; cases h
 ·omega
 ·rw [h3] at h; cases h
section
variable {H : Type} {enc : TypeId × Value → H} {w : World} {base : Nat} {sp : Nat → Bool} {held : Bool}
def LastP (p : Pers) (w : World) : Prop:=p.φ w ∧ ∀ k,p.D k → k < w.heap.size
theorem o_list {α : Type} (f : α → List SV) (d : α) (tS e k : Nat) (hu : Tryz.prog.underlying tS = some (.slice e)) (hk : Tryz.prog.cellsOf e = k) (hk0 : 0 < k) (hf : ∀ a,(f a).length = k ∧ ∀ x ∈ f a,x.plain)
  (elem : ∀ (n : Nat) (cs : List Value) (x : DataW H × List MemPlace),DataW.trod enc Tryz.prog w base sp held n e cs = some x → ∃ a,cs = (f a).map SV.den0)
  {n : Nat} {cs : List Value} {x : DataW H × List MemPlace} (h : DataW.trod enc Tryz.prog w base sp held n tS cs = some x) :
  ∃ (l : List α) (q : Option Addr) (c : Nat),cs = [.slice q l.length c] ∧ l.length ≤ maxLen ∧ LastP (rowP (rowL f d l q c e k false)) w:=by
 rcases DataW.trod_slice hu h with ⟨rfl,_⟩ | ⟨a,len,cap,elems,rest,m,_,rfl,_,_,hlc,hcm,hlen,hel,_,_⟩
 ·refine ⟨[],none,0,rfl,Nat.zero_le _,?_,?_⟩
  ·exact (row_none (R:=rowL f d [] none 0 e k false) rfl rfl rfl).2 w
  ·exact fun j hj=>absurd hj ((row_none (R:=rowL f d [] none 0 e k false) rfl rfl rfl).1 j)
 ·have hex : ∀ i,i < len → ∃ b : α,w.cells? base (a.add (i * k)) k = some ((f b).map SV.den0):=fun i hi=>by
   have h1:=hel i hi
   rw [hk] at h1
   have hi' : i < elems.length:=by omega
   rw [List.getElem?_eq_getElem hi'] at h1
   rw [Option.bind_eq_some_iff] at h1
   obtain ⟨cs',h2,h3⟩:=h1
   obtain ⟨b,rfl⟩:=elem _ _ _ h3
   exact ⟨b,h2⟩
  let g : Nat → α:=fun i=>if hi : i < len then Classical.choose (hex i hi) else d
  have hg : ∀ i,i < len → w.cells? base (a.add (i * k)) k = some ((f (g i)).map SV.den0):=fun i hi=>by
   have:=Classical.choose_spec (hex i hi)
   simp only [g,dif_pos hi]
   exact this
  have hll : ((List.range len).map g).length = len:=by simp
  have hget : ∀ i,i < len → ((List.range len).map g).getD i d = g i:=fun i hi=>by simp [List.getD,hi]
  have hcell : ∀ i,i < len → ∀ j x,(f (g i))[j]? = some x → w.cell? ((a.add (i * k)).add j) = some x.den0:=fun i hi j x hx=>by
   obtain ⟨_,h2,h3⟩:=World.cells?_some (hg i hi)
   have hj : j < k:=by
    rw [← (hf (g i)).1]
    exact (List.getElem?_eq_some_iff.1 hx).1
   rw [h3 j hj,List.getElem?_map,hx]
   rfl
  refine ⟨(List.range len).map g,some a,cap,by rw [hll],by rw [hll]; omega,⟨?_,?_,?_,?_⟩,?_⟩
  ·intro i hi
   exact hf _
  ·intro hpos
   have hpos' : 0 < len:=by
    have : 0 < ((List.range len).map g).length:=hpos
    omega
   have h0 : ∃ x,(f (g 0))[0]? = some x:=by
    have : 0 < (f (g 0)).length:=by rw [(hf (g 0)).1]; exact hk0
    exact ⟨_,List.getElem?_eq_getElem this⟩
   obtain ⟨x0,hx0⟩:=h0
   have hs:=World.cell?_spot (hcell 0 hpos' 0 x0 hx0)
   obtain ⟨b,off,spot⟩:=a
   have hspot : spot = none:=by simpa [Addr.add] using hs
   subst hspot
   refine ⟨b,off,rfl,fun i j x hi hx=>?_⟩
   have hi' : i < len:=by
    have : i < ((List.range len).map g).length:=hi
    omega
   have hx' : (f (g i))[j]? = some x:=by
    have hx2 : (f (((List.range len).map g).getD i d))[j]? = some x:=hx
    rw [hget i hi'] at hx2
    exact hx2
   have:=hcell i hi' j x hx'
   rw [add_plain,add_plain,Nat.add_assoc] at this
   exact this
  ·intro ho
   cases ho
  ·intro o ho
   cases ho
  ·rintro j ⟨a',ha',rfl,hd⟩
   have ea : a = a':=Option.some.inj ha'
   subst ea
   have hpos' : 0 < len:=by
    rcases hd with hd | hd | hd
    ·cases hd
    ·have : 0 < ((List.range len).map g).length:=hd
     omega
    ·cases hd
   have:=World.cells?_block (hg 0 hpos') hk0
   simpa [Addr.add] using this
theorem plain_ty (t : Ty) : (tyC t).length = 5 ∧ ∀ x ∈ tyC t,x.plain:=⟨rfl,fun x hx=>by
 simp only [tyC,List.mem_cons,List.not_mem_nil,or_false] at hx
 rcases hx with rfl | rfl | rfl | rfl | rfl <;> trivial⟩
theorem o_tys {n : Nat} {cs : List Value} {x : DataW H × List MemPlace} (h : DataW.trod enc Tryz.prog w base sp held n 22 cs = some x) : ∃ (l : List Ty) (q : Option Addr) (c : Nat),cs = [.slice q l.length c] ∧ l.length ≤ maxLen ∧ LastP (rowP (rowL tyC ⟨0,0,0,false,[]⟩ l q c 26 5 false)) w :=
 o_list tyC ⟨0,0,0,false,[]⟩ 22 26 5 kq kq (by decide) plain_ty (fun n cs x h=>o_ty h) h
end
theorem allKids : Kids Tryz.prog (· < Tryz.prog.types.size):=kids_rows kq kq
theorem allFull : ∀ t e,t < Tryz.prog.types.size → Tryz.prog.underlying t = some (.slice e) → 0 < Tryz.prog.cellsOf e:=slices_full_of Tryz.prog kq
section
variable {H : Type} {enc : TypeId × Value → H}
theorem trodAll_carry {w w' : World} {base : Nat} {sp : Nat → Bool} {held : Bool} : ∀ {ts : List TypeId} {vs : List Value} {ds : List (DataW H)} {ps : List MemPlace},
    DataW.TrodAll enc Tryz.prog w base sp held ts vs ds ps → (∀ p ∈ ps,w.sameAt w' p) → DataW.TrodAll enc Tryz.prog w' base sp held ts vs ds ps
 | [],[],[],_,h,_=>h
 | _ :: _,_ :: _,_ :: _,_,⟨p,q,⟨n,h1⟩,h2,e⟩,hs =>
  ⟨p,q,⟨n,DataW.trod_carry n _ _ _ h1 (fun x hx=>hs x (by rw [e]; exact List.mem_append_left _ hx))⟩,trodAll_carry h2 (fun x hx=>hs x (by rw [e]; exact List.mem_append_right _ hx)),e⟩
theorem same_of_chg {W W' : World} (hc : Chg (fun _=>False) W W') (p : MemPlace) (hp : p.block < W.heap.size) : W.sameAt W' p:=by
 cases p with
 | cell b off=>exact World.cell?_of_block (w:=W) (a:=⟨b,off,none⟩) (hc.block b hp id)
 | map b=>exact hc.block b hp id
theorem post_true {f : Func} {s : ChangeSpec} {apart fresh handsOn : Bool} {W W' : World} {args : Array Value} {ds : List (DataW H)} {before : List MemPlace}
  (hv : s.vars = []) (hr : f.resultTypes = #[4]) (hp : ∀ t ∈ f.params.toList,t < Tryz.prog.types.size)
  (hW : DataW.Whole enc Tryz.prog f.params.toList s.vars apart W args.toList ds [] before)
  (hs : s.fn H (ds ++ []) = { results:=[.lit (.bool true)],args:=ds })
  (hc : Chg (fun _=>False) W W') : s.post enc Tryz.prog f apart fresh handsOn false W args (.bool true) W':=by
 have hlt:=hW.lt
 have hW0:=hW
 obtain ⟨p,q,hA,hV,e,hz,hn⟩:=hW
 rw [hv] at hV
 obtain ⟨_,rfl⟩:=trodVars_none hV
 have hpl : ∀ x ∈ p,x.block < W.heap.size:=fun x hx=>hlt x (by rw [e]; exact List.mem_append_left _ hx)
 refine ⟨ds,[],before,[],p,[],hW0,?_,?_,?_,?_,fun h=>by cases h⟩
 ·rw [hs,hr]
  exact trodAll_mk1 (shut_bool Tryz.underlying4 true)
 ·rw [hs]
  exact trodAll_carry (DataW.TrodAll.respare allKids allFull hp hA (fun x hx=>decide_eq_true (hpl x hx))) (fun x hx=>same_of_chg hc x (hpl x hx))
 ·rw [hs,hv]
  rfl
 ·exact (World.keptBut_refl W _).congr hc.os hc.output (fun i hi=>hc.block i hi id)
end
end Go.Proofs
end
section
namespace Go.SX
open Go
inductive Tr where
 | ret (v : RV)
 | leaf (c : Cfg)
 | cond (b : Bool) (t e : Tr)
 | ob (p : List Prop) (t : Tr)
 | must (b : Bool) (e : Int) (t : Tr)
inductive Sh where
 | ret (v : RV)
 | leaf
 | cond (b : Bool) (t e : Sh)
 | ob (p : List Prop) (t : Sh)
 | must (b : Bool) (e : Int) (t : Sh)
def Tr.sh : Tr → Sh
 | .ret v=>.ret v
 | .leaf _=>.leaf
 | .cond b t e=>.cond b t.sh e.sh
 | .ob p t=>.ob p t.sh
 | .must b e t=>.must b e t.sh
def Tr.leaves : Tr → List Cfg
 | .ret _=>[]
 | .leaf c=>[c]
 | .cond _ t e=>appendL t.leaves e.leaves
 | .ob _ t=>t.leaves
 | .must _ _ t=>t.leaves
def Sh.n : Sh → Nat
 | .ret _=>0
 | .leaf=>1
 | .cond _ t e=>t.n + e.n
 | .ob _ t=>t.n
 | .must _ _ t=>t.n
def obT (p : List Prop) (t : Tr) : Tr:=match p with
 | []=>t
 | _=>.ob p t
def mustOf (mu : FuncId) (c : Cfg) : Option (Bool × Int × Cfg) :=
 match callOf c with
 | some (none,f,[.one x,.one (.int .i64 e)])=>match Nat.beq f mu,x with
  | true,.sb b=>match afterOp c c.st (.tup []),c.st.defs with
   | some c',[]=>some (b,e,c')
   | _,_=>none
  | _,_=>none
 | _=>none
def nrmS : SV → SV
 | .bool b=>.sb b
 | x=>x
def nrmC : CV → CV
 | .one x=>.one (nrmS x)
 | .agg l=>.agg (l.map nrmS)
def nrmR : RV → RV
 | .v x=>.v (nrmC x)
 | .tup l=>.tup (l.map nrmC)
 | x=>x
theorem nrmS_den (ρ : Nat → Nat) (x : SV) : (nrmS x).den ρ = x.den ρ:=by cases x <;> rfl
theorem nrmC_den (ρ : Nat → Nat) (x : CV) : (nrmC x).den ρ = x.den ρ:=by
 cases x with
 | one x=>exact nrmS_den ρ x
 | agg l =>
  simp only [nrmC,CV.den,List.map_map]
  congr 2
  exact List.map_congr_left (fun x _=>nrmS_den ρ x)
theorem nrmR_den (ρ : Nat → Nat) (x : RV) : (nrmR x).den ρ = x.den ρ:=by
 cases x with
 | v x=>exact nrmC_den ρ x
 | tup l =>
  simp only [nrmR,RV.den,List.map_map]
  congr 2
  exact List.map_congr_left (fun x _=>nrmC_den ρ x)
 | grd _ _ _ _=>rfl
def treeOf (P : Program) (f : FuncId) (T : List (Ent P)) (mu : FuncId) : Nat → Cfg → Tr
 | 0,c=>.leaf c
 | n + 1,c=>match runT P T 1000 c with
  | (c1,ob)=>obT ob (match condC c1 with
   | some (g,b)=>.cond b (treeOf P f T mu n (c1.know g true)) (treeOf P f T mu n (c1.know g false))
   | none=>match isLoop c1 with
    | true=>.leaf c1
    | false=>match mustOf mu c1 with
     | some (b,e,c2)=>.must b e (treeOf P f T mu n c2)
     | none=>match isEnd c1.todo,resOf P f c1.st with
      | true,some v=>.ret (nrmR v)
      | _,_=>.leaf c1)
def Sh.ok (wr : Int → List PanicEntry) (o : Out) (L : Nat → Prop) : Nat → Sh → Prop
 | _,.ret v=>o = .ret v ∧ plainR v = true
 | i,.leaf=>L i
 | i,.cond b t e=>(b = true → Sh.ok wr o L i t) ∧ (b = false → Sh.ok wr o L (i + t.n) e)
 | i,.ob p t=>allP p ∧ Sh.ok wr o L i t
 | i,.must b e t=>(b = false → o = .pan (wr e)) ∧ (b = true → Sh.ok wr o L i t)
def Tr.ok (wr : Int → List PanicEntry) (o : Out) (K : Cfg → Prop) : Tr → Prop
 | .ret v=>o = .ret v ∧ plainR v = true
 | .leaf c=>K c
 | .cond b t e=>(b = true → Tr.ok wr o K t) ∧ (b = false → Tr.ok wr o K e)
 | .ob p t=>allP p ∧ Tr.ok wr o K t
 | .must b e t=>(b = false → o = .pan (wr e)) ∧ (b = true → Tr.ok wr o K t)
theorem Tr.n_leaves : ∀ t : Tr,t.leaves.length = t.sh.n
 | .ret _=>rfl
 | .leaf _=>rfl
 | .cond _ t e=>by simp only [Tr.leaves,appendL_eq,List.length_append,Tr.sh,Sh.n,Tr.n_leaves t,Tr.n_leaves e]
 | .ob _ t=>Tr.n_leaves t
 | .must _ _ t=>Tr.n_leaves t
theorem Tr.ok_of {wr : Int → List PanicEntry} {o : Out} {K : Cfg → Prop} {L : Nat → Prop} : ∀ (t : Tr) (i : Nat),(∀ j c,t.leaves[j]? = some c → L (i + j) → K c) → Sh.ok wr o L i t.sh → Tr.ok wr o K t
 | .ret _,_,_,h=>h
 | .leaf c,i,hL,h=>hL 0 c rfl h
 | .cond b t e,i,hL,h=>by
  refine ⟨fun hb=>Tr.ok_of t i (fun j c hj hl=>hL j c ?_ hl) (h.1 hb),fun hb=>Tr.ok_of e (i + t.sh.n) (fun j c hj hl=>hL (t.sh.n + j) c ?_ (by rw [← Nat.add_assoc]; exact hl)) (h.2 hb)⟩
  ·simp only [Tr.leaves,appendL_eq]
   rw [List.getElem?_append_left (List.getElem?_eq_some_iff.1 hj).1]
   exact hj
  ·simp only [Tr.leaves,appendL_eq]
   rw [List.getElem?_append_right (by rw [Tr.n_leaves]; omega),Tr.n_leaves,Nat.add_sub_cancel_left]
   exact hj
 | .ob p t,i,hL,h=>⟨h.1,Tr.ok_of t i hL h.2⟩
 | .must b e t,i,hL,h=>⟨h.1,fun hb=>Tr.ok_of t i hL (h.2 hb)⟩
section
variable {P : Program} {f : FuncId} {ρ base : Nat → Nat} {o : Out} {w : World}
abbrev ctxO (P : Program) (f : FuncId) (ρ : Nat → Nat) (o : Out) (w : World) (base : Nat → Nat) : Ctx:=⟨P,f,GivesO ρ o w,fun _=>False,w,base,none⟩
theorem FSat_nil (ρ : Nat → Nat) (w : World) : FSat ρ (stP []) w :=
 ⟨(fun b blk h=>by cases h),(fun b c h=>absurd h (Nat.not_lt_zero _)),(fun b h=>absurd h (Nat.not_lt_zero _)),(fun r R h=>by cases h),(fun r r' R R' h=>by cases h),(fun p h=>absurd h List.not_mem_nil)⟩
theorem V.tr {T : List (Ent P)} {mu : FuncId} {wr : Int → List PanicEntry} (hmu : ∀ b e,CallsF P mu [.one (.sb b),.one (.int .i64 e)] (stP []) (if b then .ret (.tup []) else .pan (wr e))) (hent : entersB P mu = true) (hf : (P.funcs[f]?).isSome = true) :
  ∀ (n : Nat) (c : Cfg),(∀ e ∈ T,∀ q ∈ e.sp.need,q ∈ c.st.pers) → Tr.ok wr o (V (ctxO P f ρ o w base)) (treeOf P f T mu n c) → V (ctxO P f ρ o w base) c
 | 0,c,_,h=>h
 | n + 1,c,hn,h=>by
  unfold treeOf at h
  have hpp:=runT_pers (P:=P) (T:=T) 1000 c
  have hrs:=runT_sound (C:=ctxO P f ρ o w base) (T:=T) 1000 c
  generalize SX.runT P T 1000 c = r at h hpp hrs
  obtain ⟨c1,ob⟩:=r
  simp only at h hpp hrs
  have hn' : ∀ e ∈ T,∀ q ∈ e.sp.need,q ∈ c1.st.pers:=fun e he q hq=>by rw [hpp]; exact hn e he q hq
  have hob : ∀ {t : Tr},Tr.ok wr o (V (ctxO P f ρ o w base)) (obT ob t) → allP ob ∧ Tr.ok wr o (V (ctxO P f ρ o w base)) t:=fun {t} h=>by
   cases ob with
   | nil=>exact ⟨trivial,h⟩
   | cons p l=>exact h
  obtain ⟨h1,h2⟩:=hob h
  refine hrs (allP_mem h1) hn ?_
  split at h2
  ·rename_i g b hc
   exact V.split g b (condC_look hc) (fun hb=>V.tr hmu hent hf n _ hn' (h2.1 hb)) (fun hb=>V.tr hmu hent hf n _ hn' (h2.2 hb))
  ·split at h2
   ·exact h2
   ·split at h2
    ·rename_i b e c2 hm
     unfold mustOf at hm
     split at hm
     case h_2=>cases hm
     rename_i f' x e' hcall
     split at hm
     case h_2=>cases hm
     rename_i b' hmu'
     split at hm
     case h_2=>cases hm
     rename_i c' haf hds
     cases hm
     have e1:=(beq_iff _ _).1 hmu'
     subst e1
     refine V.callX (C:=ctxO P f ρ o w base) hcall (enters hent) rfl hds hf (fun ρ' a w' hS=>⟨_,hmu b e ρ' w' (FSat_nil ρ' w'),?_⟩)
     rintro e2 w2 ⟨he,hch⟩
     cases b with
     | true =>
      have hpers : c2.st.pers = c1.st.pers:=afterOp_pers haf
      refine .inl ⟨ρ',.tup [],c1.st,c2,he,hS.below hch,fun x hx=>absurd hx List.not_mem_nil,(fun g pol b x e=>by cases e),haf,V.tr hmu hent hf n c2 (fun e he q hq=>by rw [hpers]; exact hn' e he q hq) (h2.2 rfl)⟩
     | false =>
      refine .inr ⟨wr e,he,?_⟩
      have:=h2.1 rfl
      show GivesO ρ o w _ _
      rw [this]
      exact ⟨rfl,hS.chg.trans hch (fun i hi=>hi.elim)⟩
    ·split at h2
     ·rename_i v he hr
      obtain ⟨h3,h4⟩:=h2
      refine V.ret (C:=ctxO P f ρ o w base) v hr he (fun ρ' a w' hS=>?_)
      rw [h3]
      exact ⟨by show Ending.returned _ = Ending.returned _; rw [← nrmR_den ρ' v,plainR_den h4 ρ' ρ],hS.chg⟩
     ·exact h2
theorem V.sh (T : List (Ent P)) (mu : FuncId) (wr : Int → List PanicEntry) (hmu : ∀ b e,CallsF P mu [.one (.sb b),.one (.int .i64 e)] (stP []) (if b then .ret (.tup []) else .pan (wr e))) (hent : (entersB P mu && (P.funcs[f]?).isSome) = true)
  (n : Nat) (sh : Sh) {c : Cfg} (hsh : (treeOf P f T mu n c).sh = sh) (hn : needT T c.st.pers = wantT T) (L : Nat → Prop) (h : Sh.ok wr o L 0 sh) (hL : ∀ j c',(treeOf P f T mu n c).leaves[j]? = some c' → L j → V (ctxO P f ρ o w base) c') : V (ctxO P f ρ o w base) c:=by
 rw [Bool.and_eq_true] at hent
 exact V.tr hmu hent.1 hent.2 n c (needT_ok hn) (Tr.ok_of _ 0 (fun j c' hj hl=>hL j c' hj (by rw [Nat.zero_add] at hl; exact hl)) (hsh ▸ h))
def leafN (t : Tr) (j : Nat) (c : Cfg) : Cfg:=(t.leaves[j]?).getD c
theorem leafN_some {t : Tr} {j : Nat} {c c' : Cfg} (h : t.leaves[j]? = some c') : leafN t j c = c':=by simp [leafN,h]
theorem V.loopSh {ι : Type} (ks : List Nat) (pm : List Bool) (μ : ι → Nat) (st : ι → St) (pre : ι → Prop) (i0 : ι) (T : List (Ent P)) (mu : FuncId) (wr : Int → List PanicEntry) (hmu : ∀ b e,CallsF P mu [.one (.sb b),.one (.int .i64 e)] (stP []) (if b then .ret (.tup []) else .pan (wr e)))
  (hent : (entersB P mu && (P.funcs[f]?).isSome) = true) (n : Nat) (sh : ι → Sh) (L : ι → Nat → Prop) (nx : ι → Nat → Option ι) {c : Cfg} (hp : headK ks pm c = some (st i0)) (hi : pre i0)
  (hsh : ∀ i,(treeOf P f T mu n ⟨(SX.iter c).todo,st i⟩).sh = sh i) (hn : ∀ i,needT T (st i).pers = wantT T)
  (hok : ∀ i,pre i → Sh.ok wr o (L i) 0 (sh i)) (hnx : ∀ i j,L i j → j < (sh i).n → ∀ i',nx i j = some i' → pre i' ∧ μ i' < μ i)
  (hback : ∀ i j i',j < (sh i).n → nx i j = some i' → (SX.iter (leafN (treeOf P f T mu n ⟨(SX.iter c).todo,st i⟩) j c)).todo = (SX.iter c).todo ∧ headK ks pm (leafN (treeOf P f T mu n ⟨(SX.iter c).todo,st i⟩) j c) = some (st i'))
  (hout : ∀ i j,pre i → j < (sh i).n → nx i j = none → L i j → V (ctxO P f ρ o w base) (leafN (treeOf P f T mu n ⟨(SX.iter c).todo,st i⟩) j c)) : V (ctxO P f ρ o w base) c:=by
 refine V.loopK ks pm μ st pre i0 hp hi (fun i hpre ih=>?_)
 refine V.sh T mu wr hmu hent n (sh i) (hsh i) (hn i) (L i) (hok i hpre) (fun j c' hj hl=>?_)
 have hjn : j < (sh i).n:=by
  rw [← hsh i,← Tr.n_leaves]
  exact (List.getElem?_eq_some_iff.1 hj).1
 have hc:=leafN_some (c:=c) hj
 cases hx : nx i j with
 | none=>rw [← hc]; exact hout i j hpre hjn hx hl
 | some i' =>
  obtain ⟨h1,h2⟩:=hnx i j hl hjn i' hx
  obtain ⟨h3,h4⟩:=hback i j i' hjn hx
  rw [hc] at h3 h4
  exact V.againK ks pm (ih i' h1 h2) h3 h4
end
end Go.SX
end
section
namespace Go.Proofs
open Go Go.SX
set_option maxRecDepth 10000
theorem hMu : ∀ b e,CallsF Tryz.prog 69 [.one (.sb b),.one (.int .i64 e)] (stP []) (if b then .ret (.tup []) else .pan (wrE e)):=cMust
def nmB (c : UInt8) : Bool:=decide ((33 : Int) ≤ IntKind.i64.wrap (c.toNat : Int)) && decide (IntKind.i64.wrap (c.toNat : Int) ≤ 126)
def nameB (s : List UInt8) : Bool:=s.all nmB && decide ((s.length : Int) ≤ 31)
def nmO (s : List UInt8) (i : Nat) : Out:=.ret (.v (.one (.sb ((s.drop i).all nmB && decide ((s.length : Int) ≤ 31)))))
def nmSt (s : List UInt8) (g cap i : Nat) : St :=
 { n:=20,slots:=[(0,.v (.one (.str s))),(6,.v (.one (.row 0 (some ⟨g,0,none⟩) s.length cap))),(7,.v (.one (.int .i64 (s.length : Int)))),(8,.v (.one (.int .i64 (i : Int))))],gs:=[],heap:=[],next:=0,
    rows:=[(0,bytesR s g cap 5)],nr:=1,pers:=[],wr:=false }
def nmSh (s : List UInt8) (i : Nat) : Sh :=
 .cond (decide ((i : Int) < (s.length : Int))) (.ob [0 ≤ (i : Int) ∧ (i : Int) < (s.length : Int)] (.cond (!nmB (s.getD (i : Int).toNat 0)) (.ret (.v (.one (.sb false)))) (.ob [inK .i64 ((i : Int) + 1)] .leaf))) (.ret (.v (.one (.sb (decide ((s.length : Int) ≤ 31))))))
theorem cNameF (s : List UInt8) (hs : s.length ≤ 4000000000000000000) : CallsF Tryz.prog 125 [.one (.str s)] noF (.ret (.v (.one (.sb (nameB s))))):=by
 refine CallsF.mk false Tryz.func125 kq kq (fun ρ w=>?_)
 refine V.q ?_
 refine V.toBytes 5 s kq (fun q cap=>kq) (fun g cap=>?_)
 refine V.q ?_
 refine V.loopSh [0,6,7,8] [] (fun i=>s.length - i) (nmSt s g cap) (fun i=>i ≤ s.length ∧ Out.ret (.v (.one (.sb (nameB s)))) = nmO s i) 0 [cWithin.e] 69 wrE hMu kq 40 (nmSh s)
  (fun i _=>i < s.length ∧ Out.ret (.v (.one (.sb (nameB s)))) = nmO s (i + 1)) (fun i _=>some (i + 1)) kq ⟨Nat.zero_le _,rfl⟩ (fun i=>kq) (fun i=>kq) ?_ ?_ (fun i j i' hj h=>?_) ?_
 ·intro i ⟨hi,ho⟩
  refine ⟨fun h=>?_,fun h=>?_⟩
  ·have hlt : i < s.length:=by have:=of_decide_eq_true h; omega
   have hd : s.drop i = s.getD i 0 :: s.drop (i + 1):=by
    rw [List.drop_eq_getElem_cons hlt]; simp [hlt]
   refine ⟨⟨by omega,by omega⟩,fun h=>⟨?_,rfl⟩,fun h=>⟨⟨by omega,by omega⟩,hlt,?_⟩⟩
   ·rw [ho]
    unfold nmO
    rw [hd,List.all_cons]
    have : nmB (s.getD i 0) = false:=by simpa using h
    rw [this]; rfl
   ·rw [ho]
    unfold nmO
    rw [hd,List.all_cons]
    have : nmB (s.getD i 0) = true:=by simpa using h
    rw [this]; rfl
  ·have hge : s.length ≤ i:=by have:=of_decide_eq_false h; omega
   refine ⟨?_,rfl⟩
   rw [ho]
   unfold nmO
   rw [List.drop_eq_nil_of_le hge]; rfl
 ·intro i j ⟨hl,ho⟩ _ i' h
  cases h
  exact ⟨⟨hl,ho⟩,by show s.length - (i + 1) < s.length - i; omega⟩
 ·cases h
  match j,hj with
  | 0,_=>exact ⟨kq,kq⟩
 ·intro i j _ _ h
  cases h
end Go.Proofs
end
