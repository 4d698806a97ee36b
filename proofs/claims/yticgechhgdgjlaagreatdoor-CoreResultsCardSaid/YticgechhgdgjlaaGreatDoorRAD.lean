/- A symbolic run of the program that Lean checks, and what the functions of the program come to by it: part 4 of 11. -/
import Derived.Laws.IdiomStrings
import Derived.Lib.Walk
import Derived.Lib.Builder
import Derived.RangeFuncIn
import Derived.RangeFuncRecord
import Derived.RangeFuncLeaves
import Derived.Test.YticgechhgdgjlaaGreatDoorRAC
set_option linter.unusedVariables false
section
namespace Go.SX
open Go
def mergeS (b : Bool) : SV → SV → Option SV
 | .int k m,.int k' n=>match kindEq k k' with
  | true=>some (.int k (cond b m n))
  | false=>none
 | .str l,.str m=>some (.str (cond b l m))
 | .val v,.val w=>some (.val (cond b v w))
 | x,y=>match bOf x,bOf y with
  | some p,some q=>some (.sb (cond b p q))
  | _,_=>none
def mergeL (b : Bool) : List SV → List SV → Option (List SV)
 | [],[]=>some []
 | x :: l,y :: m=>match mergeS b x y,mergeL b l m with
  | some z,some r=>some (z :: r)
  | _,_=>none
 | _,_=>none
def mergeC (b : Bool) : CV → CV → Option CV
 | .one x,.one y=>match mergeS b x y with
  | some z=>some (.one z)
  | none=>none
 | .agg l,.agg m=>match mergeL b l m with
  | some r=>some (.agg r)
  | none=>none
 | _,_=>none
def mergeCs (b : Bool) : List CV → List CV → Option (List CV)
 | [],[]=>some []
 | x :: l,y :: m=>match mergeC b x y,mergeCs b l m with
  | some z,some r=>some (z :: r)
  | _,_=>none
 | _,_=>none
def mergeR (b : Bool) : RV → RV → Option RV
 | .v x,.v y=>match mergeC b x y with
  | some z=>some (.v z)
  | none=>none
 | .tup l,.tup m=>match mergeCs b l m with
  | some r=>some (.tup r)
  | none=>none
 | _,_=>none
theorem mergeS_ok {b : Bool} {x y z : SV} (h : mergeS b x y = some z) (ρ : Nat → Nat) : z.den ρ = cond b (x.den ρ) (y.den ρ):=by
 unfold mergeS at h
 split at h
 ·split at h
  ·rename_i hk; have:=kindEq_iff hk; subst this; cases h; cases b <;> rfl
  ·cases h
 ·cases h; cases b <;> rfl
 ·cases h; cases b <;> rfl
 ·split at h
  ·rename_i hp hq; cases h; rw [bOf_den hp,bOf_den hq]; cases b <;> rfl
  ·cases h
theorem mergeL_ok {b : Bool} (ρ : Nat → Nat) : ∀ {l m r : List SV},mergeL b l m = some r → r.map (SV.den ρ) = cond b (l.map (SV.den ρ)) (m.map (SV.den ρ))
 | [],[],r,h=>by simp only [mergeL,Option.some.injEq] at h; subst h; cases b <;> rfl
 | x :: l,y :: m,r,h=>by
  simp only [mergeL] at h
  split at h
  ·rename_i z r' hz hr
   cases h
   simp only [List.map_cons,mergeS_ok hz ρ,mergeL_ok ρ hr]
   cases b <;> rfl
  ·cases h
 | [],_ :: _,_,h=>by cases h
 | _ :: _,[],_,h=>by cases h
theorem mergeC_ok {b : Bool} {x y z : CV} (h : mergeC b x y = some z) (ρ : Nat → Nat) : z.den ρ = cond b (x.den ρ) (y.den ρ):=by
 unfold mergeC at h
 split at h
 ·split at h
  ·rename_i hz; cases h; exact mergeS_ok hz ρ
  ·cases h
 ·split at h
  ·rename_i hz; cases h; simp only [CV.den,mergeL_ok ρ hz]; cases b <;> rfl
  ·cases h
 ·cases h
theorem mergeCs_ok {b : Bool} (ρ : Nat → Nat) : ∀ {l m r : List CV},mergeCs b l m = some r → r.map (CV.den ρ) = cond b (l.map (CV.den ρ)) (m.map (CV.den ρ))
 | [],[],r,h=>by simp only [mergeCs,Option.some.injEq] at h; subst h; cases b <;> rfl
 | x :: l,y :: m,r,h=>by
  simp only [mergeCs] at h
  split at h
  ·rename_i z r' hz hr
   cases h
   simp only [List.map_cons,mergeC_ok hz ρ,mergeCs_ok ρ hr]
   cases b <;> rfl
  ·cases h
 | [],_ :: _,_,h=>by cases h
 | _ :: _,[],_,h=>by cases h
theorem mergeR_ok {b : Bool} {x y z : RV} (h : mergeR b x y = some z) (ρ : Nat → Nat) : z.den ρ = cond b (x.den ρ) (y.den ρ):=by
 unfold mergeR at h
 split at h
 ·split at h
  ·rename_i hz; cases h; exact mergeC_ok hz ρ
  ·cases h
 ·split at h
  ·rename_i hz; cases h; simp only [RV.den,mergeCs_ok ρ hz]; cases b <;> rfl
  ·cases h
 ·cases h
def whenP (c pol : Bool) : List Prop → List Prop
 | []=>[]
 | p :: l=>(c = pol → p) :: whenP c pol l
theorem whenP_mem {c pol : Bool} : ∀ {l : List Prop},(∀ p ∈ whenP c pol l,p) → c = pol → ∀ p ∈ l,p
 | [],_,_,p,hp=>by simp at hp
 | q :: l,h,e,p,hp=>by
  rcases List.mem_cons.1 hp with rfl | hp
  ·exact h _ (List.mem_cons_self ..) e
  ·exact whenP_mem (fun p hp=>h p (List.mem_cons_of_mem _ hp)) e p hp
def isLoop (c : Cfg) : Bool :=
 match c.todo with
 | .inLoop _ :: _=>true
 | .code (.loop _) :: _=>true
 | _=>false
def evalT (P : Program) (f : FuncId) (T : List (Ent P)) : Nat → Cfg → Option (RV × List Prop)
 | 0,_=>none
 | n + 1,c=>match runT P T 1000 c with
  | (c',ob)=>match isEnd c'.todo with
   | true=>match resOf P f c'.st with
    | some v=>some (v,ob)
    | none=>none
   | false=>match condOf c' with
    | some (g,b)=>match evalT P f T n (c'.know g true),evalT P f T n (c'.know g false) with
     | some (v1,o1),some (v2,o2)=>match mergeR b v1 v2 with
      | some v=>some (v,ob ++ (whenP b true o1 ++ whenP b false o2))
      | none=>none
     | _,_=>none
    | none=>match isLoop c' with
     | true=>match evalT P f T n (iter c') with
      | some (v,o1)=>some (v,ob ++ o1)
      | none=>none
     | false=>none
theorem runT_pers {P : Program} {T : List (Ent P)} : ∀ (n : Nat) (c : Cfg),(runT P T n c).1.st.pers = c.st.pers
 | 0,_=>rfl
 | n + 1,c=>by
  unfold runT
  split
  ·rfl
  ·rename_i c' hs; exact (runT_pers n c').trans (stepT_pers hs)
  ·rename_i c' ob _ hs; exact (runT_pers n c').trans (stepT_pers hs)
section
variable {C : Ctx}
theorem evalT_sound {T : List (Ent C.P)} : ∀ {n : Nat} {c : Cfg} {v : RV} {ob : List Prop},evalT C.P C.f T n c = some (v,ob) → (∀ p ∈ ob,p) → (∀ e ∈ T,∀ q ∈ e.sp.need,q ∈ c.st.pers) →
  (∀ ρ w,Chg C.S C.w0 w → C.R (.returned (v.den ρ)) w) → C.round = none → V C c
 | 0,_,_,_,h,_,_,_,_=>by cases h
 | n + 1,c,v,ob,h,hob,hn,hR,hrd=>by
  unfold evalT at h
  split at h
  rename_i c' ob1 hrun
  have hc1 : (runT C.P T 1000 c).1 = c':=by rw [hrun]
  have ho1 : (runT C.P T 1000 c).2 = ob1:=by rw [hrun]
  have hp : c'.st.pers = c.st.pers:=by rw [← hc1]; exact runT_pers 1000 c
  have hn' : ∀ e ∈ T,∀ q ∈ e.sp.need,q ∈ c'.st.pers:=fun e he q hq=>by rw [hp]; exact hn e he q hq
  have key : (∀ p ∈ ob1,p) → V C c' → V C c:=fun ho hV=>runT_sound 1000 c (by rw [ho1]; exact ho) hn (by rw [hc1]; exact hV)
  split at h
  ·rename_i he
   split at h
   ·rename_i u hu
    cases h
    exact key hob (V.ret v (by unfold endR; rw [hrd]; exact hu) he (fun ρ a w hS=>hR ρ w hS.chg))
   ·cases h
  ·split at h
   ·rename_i g b hcond
    split at h
    ·rename_i v1 o1 v2 o2 h1 h2
     split at h
     ·rename_i u hm
      cases h
      refine key (fun p hp=>hob p (List.mem_append_left _ hp)) (V.branch g b hcond (fun hb=>?_) (fun hb=>?_))
      ·refine evalT_sound h1 (whenP_mem (fun p hp=>hob p (List.mem_append_right _ (List.mem_append_left _ hp))) hb) hn' (fun ρ w hc=>?_) hrd
       have:=mergeR_ok hm ρ
       rw [hb] at this
       rw [show v1.den ρ = v.den ρ from this.symm]
       exact hR ρ w hc
      ·refine evalT_sound h2 (whenP_mem (fun p hp=>hob p (List.mem_append_right _ (List.mem_append_right _ hp))) hb) hn' (fun ρ w hc=>?_) hrd
       have:=mergeR_ok hm ρ
       rw [hb] at this
       rw [show v2.den ρ = v.den ρ from this.symm]
       exact hR ρ w hc
     ·cases h
    ·cases h
   ·split at h
    ·rename_i hl
     split at h
     ·rename_i u o1 h1
      cases h
      refine key (fun p hp=>hob p (List.mem_append_left _ hp)) (V.iter ?_)
      exact evalT_sound h1 (fun p hp=>hob p (List.mem_append_right _ hp)) (fun e he q hq=>by rw [iter_st]; exact hn' e he q hq) hR hrd
     ·cases h
    ·cases h
end
def cfgP (fn : Func) (xs : List CV) (wr : Bool) (ps : List Pers) : Cfg:=⟨[.code (bodyOf fn)],st0 fn.ntmps xs [] 0 [] 0 ps wr⟩
theorem plainS_den {x : SV} (h : plainB x = true) (ρ ρ' : Nat → Nat) : x.den ρ = x.den ρ':=by cases x <;> first | rfl | cases h
theorem plainL_den {l : List SV} (h : l.all plainB = true) (ρ ρ' : Nat → Nat) : l.map (SV.den ρ) = l.map (SV.den ρ'):=List.map_congr_left fun x hx=>plainS_den (List.all_eq_true.1 h x hx) ρ ρ'
theorem plainC_den {x : CV} (h : plainC x = true) (ρ ρ' : Nat → Nat) : x.den ρ = x.den ρ':=by
 cases x with
 | one x=>exact plainS_den h ρ ρ'
 | agg l=>simp only [CV.den]; rw [plainL_den h ρ ρ']
theorem plainCs_den {l : List CV} (h : l.all plainC = true) (ρ ρ' : Nat → Nat) : l.map (CV.den ρ) = l.map (CV.den ρ'):=List.map_congr_left fun x hx=>plainC_den (List.all_eq_true.1 h x hx) ρ ρ'
theorem plainR_den {x : RV} (h : plainR x = true) (ρ ρ' : Nat → Nat) : x.den ρ = x.den ρ':=by
 cases x with
 | v x=>exact plainC_den h ρ ρ'
 | tup l=>simp only [RV.den]; rw [plainCs_den h ρ ρ']
 | grd=>cases h
theorem plainC_wfC {x : CV} (h : plainC x = true) : wfC 0 x = true:=by
 have hs : ∀ y,plainB y = true → wfS 0 y = true:=fun y hy=>by cases y <;> first | rfl | cases hy
 cases x with
 | one x=>exact hs x h
 | agg l=>exact List.all_eq_true.2 fun y hy=>hs y (List.all_eq_true.1 h y hy)
def Con.auto {P : Program} {f : FuncId} {fn : Func} (hf : P.funcs[f]? = some fn) (wr : Bool) (T : List (Ent P)) (need : List Pers) (hb : fn.body.isSome = true) (hn : needT T need = wantT T) : Con P where
 f:=f
 need:=need
 fn:=fun xs=>match xs.all plainC,Nat.ble xs.length fn.ntmps with
  | true,true=>match evalT P f T 60 (cfgP fn xs wr need) with
   | some (v,ob)=>match plainR v with
    | true=>some (v,ob)
    | false=>none
   | none=>none
  | _,_=>none
 ok:=by
  intro xs v ob h hob ρ w hps _
  split at h
  ·rename_i h1 h2
   split at h
   ·rename_i v' ob' he
    split at h
    ·rename_i hpl
     cases h
     rw [plainCs_den h1 ρ (fun _=>0)]
     refine Calls.of_P need hps xs wr hf hb h2 (List.all_eq_true.2 fun x hx=>plainC_wfC (List.all_eq_true.1 h1 x hx)) ?_
     exact evalT_sound (C:=⟨P,f,Gives (v.den ρ) w,fun _=>False,w,fun _=>0,none⟩) he hob (needT_ok hn) (fun ρ' w' hc=>by rw [plainR_den hpl ρ' ρ]; exact ⟨rfl,hc⟩) rfl
    ·cases h
   ·cases h
  ·cases h
def Con.e {P : Program} (s : Con P) : Ent P:=⟨s,[]⟩
end Go.SX
end
section
namespace Go.SX
open Go
def strOf (P : Program) (c : Cfg) : Option (TypeId × List UInt8) :=
 match headOp c with
 | some (.convert src dst x)=>match P.underlying src,P.underlying dst,ev c.st none x with
  | some .string,some (.slice e),some (.one (.str l))=>match P.underlying e with
   | some (.int .u8)=>some (e,l)
   | _=>none
  | _,_,_=>none
 | _=>none
def bytesR (l : List UInt8) (g cap : Nat) (e : TypeId) : Row:=rowL bsv 0 l (some ⟨g,0,none⟩) cap e 1 false
section
variable {C : Ctx}
theorem V.toBytes (e : TypeId) (l : List UInt8) {c : Cfg} (hc : strOf C.P c = some (e,l))
  (haf : ∀ g cap,(afterOp c (c.st.more [bytesR l g cap e] []) (.v (.one (.row c.st.nr (some ⟨g,0,none⟩) l.length cap)))).isSome = true)
  (k : ∀ g cap,V C (afterD c (c.st.more [bytesR l g cap e] []) (.v (.one (.row c.st.nr (some ⟨g,0,none⟩) l.length cap))))) : V C c:=by
 unfold strOf at hc
 split at hc
 ·rename_i src dst x hop
  split at hc
  ·rename_i e' l' hs hd hx
   split at hc
   ·rename_i he
    cases hc
    refine V.opM hop (fun ρ a w o ho hS=>?_)
    obtain ⟨e1,_⟩:=ev_sound hS.toP (GcOk.none c.st) hx
    have hrun:=run_bytes_of_string w src dst e ⟨l.toArray⟩ hs hd he
    have hsz : (⟨l.toArray⟩ : ByteArray).size = l.length:=by simp [ByteArray.size]
    rw [hsz] at hrun
    let cap:=grownCap w l.length 0 e
    let o' : Obj:=.cells (bytesRow ⟨l.toArray⟩ cap) e ((bytesRow ⟨l.toArray⟩ cap).size,(bytesRow ⟨l.toArray⟩ cap).size + 1)
    have hd0 : Chg (fun _=>False) w w.drew:=⟨rfl,rfl,rfl,Nat.le_refl _,fun _ _ _=>rfl⟩
    have hch : Chg (fun _=>False) w (w.drew.alloc o'):=Chg.trans (S:=fun _=>False) (T:=fun _=>False) hd0 (Chg.alloc _ _ _) (fun _ hi=>hi.elim)
    have hblk : (w.drew.alloc o').heap[w.heap.size]? = some o':=by
     show (w.heap.push o')[w.heap.size]? = some o'
     simp
    have hcell : ∀ i x,l[i]? = some x → (w.drew.alloc o').cell? ⟨w.heap.size,i,none⟩ = some (.int .u8 x.toNat):=by
     intro i x hi
     rw [Lib.cell_of_heap hblk]
     have hil:=(List.getElem?_eq_some_iff.1 hi).1
     rw [bytesRow,Array.getElem?_append_left (by simpa using hil)]
     simp [hi]
    have hR : (bytesR l w.heap.size cap e).ok (w.drew.alloc o'):=by
     refine ⟨fun i hi=>⟨rfl,fun y hy=>?_⟩,fun hn=>⟨w.heap.size,0,rfl,fun i j y hi hy=>?_⟩,(fun h=>by cases h),(fun o h=>by cases h)⟩
     ·simp only [bytesR,rowL,bsv,List.mem_singleton] at hy; subst hy; trivial
     ·have hi' : i < l.length:=hi
      cases j with
      | zero =>
       simp only [bytesR,rowL,bsv,List.getElem?_cons_zero,Option.some.injEq] at hy
       subst hy
       show (w.drew.alloc o').cell? ⟨w.heap.size,0 + (i * 1 + 0),none⟩ = _
       rw [show 0 + (i * 1 + 0) = i by omega,hcell i l[i] (by simp [hi'])]
       simp [SV.den0,SV.den,List.getD,List.getElem?_eq_getElem hi']
      | succ j=>simp [bytesR,rowL,bsv] at hy
    have hfresh : Fresh w (w.drew.alloc o') (numbered c.st.nr [bytesR l w.heap.size cap e]) []:=by
     refine ⟨fun r R hr=>?_,fun r r' R R' h1 h2 hne ho=>?_,fun p hp=>by cases hp⟩
     ·simp only [numbered,look] at hr
      split at hr
      ·cases hr
       refine ⟨hR,?_⟩
       rintro k ⟨ad,hs',rfl,_⟩
       cases hs'
       exact ⟨Nat.le_refl _,by show w.heap.size < (w.heap.push o').size; simp⟩
      ·cases hr
     ·simp only [numbered,look] at h1
      split at h1
      ·cases h1; cases ho
      ·cases h1
    refine ⟨ρ,.v (.one (.row c.st.nr (some ⟨w.heap.size,0,none⟩) l.length cap)),_,c.st.more [bytesR l w.heap.size cap e] [],?_,hS.more hch hfresh,?_,by simp,_,afterD_some (haf _ _),k _ _⟩
    ·unfold execOp
     rw [ho]
     refine execVal2 ?_
     rw [e1]
     exact hrun
    ·refine ⟨by show c.st.nr < c.st.nr + 1; omega,fun R hR'=>?_⟩
     have : look (c.st.more [bytesR l w.heap.size cap e] []).W.rows c.st.nr = some (bytesR l w.heap.size cap e):=by
      show look (appendL (numbered c.st.nr [bytesR l w.heap.size cap e]) c.st.rows) c.st.nr = _
      simp [numbered,appendL,look,Nat.beq_refl]
     rw [this] at hR'
     cases hR'
     exact ⟨rfl,rfl,rfl⟩
   ·cases hc
  ·cases hc
 ·cases hc
end
end Go.SX
end
section
namespace Go.SX
open Go
def Yields (P : Program) (l : Nat) (args : Array Value) (w : World) (R : Value → World → Prop) : Prop :=
 ∃ f tmps assign body,(Instr.yield l args).run P w = .ok (.round l f tmps assign body) w ∧
  ∀ c cs,∃ v w',R v w' ∧ Steps P (lone (Frame.round l f tmps assign body .normal) (c :: cs) w) (lone (c.finish v) cs w')
theorem Ok.op_yield {C : Ctx} {a : Act} {w : World} {ops : Array Oper} {i : Nat} {r : List Nat} {k : List Item} {o : Oper} (ho : ops[i]? = some o) (hw : Region.wanted o (yielded ops a.tmps) = true)
  {l : Nat} {f : FuncId} {tmps : Array Value} {assign body : Code} (hr : (execOp a.eval o).run C.P w = .ok (.round l f tmps assign body) w) {R : Value → World → Prop}
  (hst : ∀ c cs,∃ v w',R v w' ∧ Steps C.P (lone (Frame.round l f tmps assign body .normal) (c :: cs) w) (lone (c.finish v) cs w'))
  (h : ∀ v w',R v w' → Ok C (.inRegion ops r :: k) (a.put o.dst v) w') : Ok C (.inRegion ops (i :: r) :: k) a w:=by
 intro b hb hk hro cs hcs
 have hg:=stepGR_op (P:=C.P) (b:=b) (k:=k) (cs:=cs) (w:=w) (rest:=r) ho hw
 rw [Oper.semAt_eq _ _ _ (no_defer hr (by simp))] at hg
 obtain ⟨v,w2,hR,hsteps⟩:=hst (b.atR a (.inRegion ops (i :: r) :: k)) cs
 have henter : Go.step C.P (lone (b.atR a (.inRegion ops (i :: r) :: k)) cs w) = .next (lone (Frame.round l f tmps assign body .normal) (b.atR a (.inRegion ops (i :: r) :: k) :: cs) w) :=
  step_lone_go (by rw [hg]; simp [stepG.apply,hr,Frame.atR])
 obtain ⟨e,w3,h1,h2⟩:=h v w2 hR b hb hk hro cs hcs
 have hfin : (b.atR a (.inRegion ops (i :: r) :: k)).finish v = b.atR (a.put o.dst v) (.inRegion ops r :: k):=by rw [Frame.finish_atR,ho]; rfl
 rw [hfin] at hsteps
 exact ⟨e,w3,h1,h2.of_steps (.head henter hsteps)⟩
structure Yd (P : Program) (l n : Nat) (enc : Nat → Array Value) (w0 : World) where
 J : Nat → (Nat → Prop) → (Nat → Prop) → World → Prop
 Jx : (Nat → Prop) → (Nat → Prop) → World → Prop
 st : ∀ i O Ow W W',J i O Ow W → (∀ k,O k → W'.heap[k]? = W.heap[k]?) → J i O Ow W'
 stx : ∀ O Ow W W',Jx O Ow W → (∀ k,O k → W'.heap[k]? = W.heap[k]?) → Jx O Ow W'
 lt : ∀ i O Ow W,J i O Ow W → ∀ k,O k → k < W.heap.size
 ltx : ∀ O Ow W,Jx O Ow W → ∀ k,O k → k < W.heap.size
 own : ∀ i O Ow W,J i O Ow W → ∀ k,Ow k → O k
 y : ∀ i O Ow W,i < n → J i O Ow W → W.os = w0.os → W.tape = w0.tape → W.output = w0.output → Yields P l (enc i) W fun v W'=>∃ O' Ow',Chg Ow W W' ∧ (∀ k,O' k → O k ∨ W.heap.size ≤ k) ∧ (∀ k,Ow' k → Ow k ∨ W.heap.size ≤ k) ∧
  ((v = .bool true ∧ J (i + 1) O' Ow' W') ∨ (v = .bool false ∧ Jx O' Ow' W'))
def jP {P : Program} {l n : Nat} {enc : Nat → Array Value} {w0 : World} (Y : Yd P l n enc w0) (i : Nat) (O Ow : Nat → Prop) (ps : List Pers) : Pers :=
 ⟨O,fun W=>Y.J i O Ow W ∧ ∀ p ∈ ps,∀ k,p.D k → ¬ Ow k⟩
def yieldOf (c : Cfg) : Option (Nat × List CV) :=
 match c.todo with
 | .inRegion ops (i :: _) :: _=>match ops[i]? with
  | some o=>match o.op with
   | .call cl=>match grdOf c.st ops o.guard,cl.callee with
    | .yes,.value x=>match ev c.st none x,evs c.st none cl.args.toList with
     | some (.one (.val (.func (.yield l) fs cs))),some xs=>match fs.toList,cs.toList with
      | [],[]=>some (l,xs)
      | _,_=>none
     | _,_=>none
    | _,_=>none
   | _=>none
  | none=>none
 | _=>none
section
variable {C : Ctx}
def IterR {P : Program} {l n : Nat} {enc : Nat → Array Value} {w : World} (Y : Yd P l n enc w) (e : Ending) (w' : World) : Prop :=
 (∃ v,e = .returned v) ∧ w'.os = w.os ∧ w'.tape = w.tape ∧ w'.output = w.output ∧ ∃ O Ow,Y.J n O Ow w' ∨ Y.Jx O Ow w'
def Iter (P : Program) (g : FuncId) (ys : List CV) (F : St) (n : Nat) (enc : Nat → Array Value) : Prop :=
 ∀ (ρ : Nat → Nat) (w : World) (l : Nat) (Y : Yd P l n enc w) (O Ow : Nat → Prop),FSat ρ F w → Y.J 0 O Ow w →
  (∀ k,O k → (∀ b,b < F.next → ρ b ≠ k) ∧ ∀ r R,look F.rows r = some R → R.own = true → ¬ R.uses k) → (∀ p ∈ F.pers,∀ k,p.D k → ¬ Ow k) →
  Calls P g (#[Value.func (.yield l) #[] #[]] ++ (ys.map (CV.den ρ)).toArray) w (IterR Y)
def stI (n : Nat) (xs : List CV) (F : St) (p : Pers) (wr : Bool) : St :=
 { n:=n,slots:=enum xs 0,gs:=[],heap:=F.heap,next:=F.next,rows:=F.rows,nr:=F.nr,pers:=p :: F.pers,wr:=wr,fx:=F.next }
theorem Iter.mk {P : Program} {g : FuncId} {fn : Func} {ys : List CV} {F : St} {n : Nat} {enc : Nat → Array Value} (wr : Bool) (hf : P.funcs[g]? = some fn)
  (hb : (fn.body.isSome && Nat.ble (ys.length + 1) fn.ntmps) = true) (hw : fixA F ys = some ys)
  (h : ∀ ρ w l (Y : Yd P l n enc w) O Ow,V ⟨P,g,IterR Y,fun _=>True,w,ρ,none⟩ ⟨[.code (bodyOf fn)],stI fn.ntmps (.one (.val (.func (.yield l) #[] #[])) :: ys) F (jP Y 0 O Ow F.pers) wr⟩) : Iter P g ys F n enc:=by
 intro ρ w l Y O Ow hF hJ hO hOw
 rw [Bool.and_eq_true] at hb
 have hargs : (#[Value.func (.yield l) #[] #[]] ++ (ys.map (CV.den ρ)).toArray) = ((.one (.val (.func (.yield l) #[] #[])) :: ys : List CV).map (CV.den ρ)).toArray:=by
  apply Array.ext'; simp [CV.den,SV.den]
 rw [hargs]
 refine Calls.of_V (fun _=>True) ρ ρ _ (stI fn.ntmps (.one (.val (.func (.yield l) #[] #[])) :: ys) F (jP Y 0 O Ow F.pers) wr) hf hb.1 (by simpa using hb.2) (fun a h1 h2 h3=>?_) (h ρ w l Y O Ow)
 have hwf : ∀ x ∈ (.one (.val (.func (.yield l) #[] #[])) :: ys : List CV),x.wf F.W:=by
  intro x hx
  rcases List.mem_cons.1 hx with rfl | hx
  ·trivial
  ·exact fixA_wf hw x hx
 refine ⟨h1,?_,?_,?_,hF.inj,hF.lt,h2,Chg.refl _ _,?_,hF.rowsD,?_,fun b hb=>⟨hb,rfl⟩⟩
 ·intro i v hv
  obtain ⟨x,rfl,_,hx⟩:=look_enum _ 0 i v hv
  exact ⟨h3 i x (by simpa using hx),hwf x (List.mem_of_getElem? hx)⟩
 ·intro i g pol c x hv
  obtain ⟨y,e,_⟩:=look_enum _ 0 i _ hv
  cases e
 ·intro b blk hb
  obtain ⟨k1,k2,k3⟩:=hF.heap b blk hb
  exact ⟨k1,k2,k3,fun _=>.inr trivial⟩
 ·intro r R hR
  obtain ⟨k1,k2,k3⟩:=hF.rows r R hR
  exact ⟨k1,k2,fun k hk=>⟨(k3 k hk).1,(k3 k hk).2,fun _=>.inr trivial⟩⟩
 ·intro p hp
  rcases List.mem_cons.1 hp with rfl | hp
  ·exact ⟨⟨hJ,hOw⟩,fun w2 hw2=>⟨Y.st _ _ _ _ _ hJ hw2,hOw⟩,fun k hD=>⟨Y.lt _ _ _ _ hJ k hD,(hO k hD).1,(hO k hD).2⟩⟩
  ·exact hF.pers p hp
theorem V.iterEnd {P : Program} {g : FuncId} {l n : Nat} {enc : Nat → Array Value} {w : World} {base : Nat → Nat} (Y : Yd P l n enc w) (i : Nat) (hi : i = n) (O Ow : Nat → Prop) (ps : List Pers) (v : RV) {c : Cfg} (hr : resOf P g c.st = some v) (he : isEnd c.todo = true)
  (hp : c.st.pers = jP Y i O Ow ps :: ps) : V ⟨P,g,IterR Y,fun _=>True,w,base,none⟩ c:=by
 subst hi
 refine V.ret v hr he (fun ρ a w' hS=>?_)
 obtain ⟨⟨p1,_⟩,_⟩:=hS.pers (jP Y i O Ow ps) (by rw [hp]; exact List.mem_cons_self ..)
 exact ⟨⟨_,rfl⟩,hS.chg.os,hS.chg.tape,hS.chg.output,O,Ow,.inl p1⟩
end
end Go.SX
end
section
namespace Go.SX
open Go
section
variable {P : Program}
end
end Go.SX
end
section
namespace Go.SX
open Go
def domS (ρ : Nat → Nat) (s : St) (k : Nat) : Prop:=(∃ b,b < s.next ∧ ρ b = k) ∨ (∃ r R,look s.rows r = some R ∧ R.uses k) ∨ ∃ p ∈ s.pers,p.D k
def asW (w0 W : World) : World:={ w0 with heap:=W.heap }
section
variable {C : Ctx} {ρ : Nat → Nat} {s : St} {a : Act} {w w' : World}
theorem lt_of_same {w w' : World} {k : Nat} (hk : k < w.heap.size) (h : w'.heap[k]? = w.heap[k]?) : k < w'.heap.size:=by
 rcases Nat.lt_or_ge k w'.heap.size with h1 | h1
 ·exact h1
 ·rw [Array.getElem?_eq_none h1,Array.getElem?_eq_getElem hk] at h; cases h
theorem Sat.move (h : Sat C ρ s a w) (hO : ∀ k,(domS ρ s k ∨ (k < C.w0.heap.size ∧ ¬ C.S k)) → w'.heap[k]? = w.heap[k]?) (hsz : C.w0.heap.size ≤ w'.heap.size)
  (h1 : w'.os = C.w0.os) (h2 : w'.tape = C.w0.tape) (h3 : w'.output = C.w0.output) : Sat C ρ s a w':=by
 have hb : ∀ b,b < s.next → w'.heap[ρ b]? = w.heap[ρ b]?:=fun b hb=>hO _ (.inl (.inl ⟨b,hb,rfl⟩))
 have hr : ∀ r R,look s.rows r = some R → ∀ k,R.uses k → w'.heap[k]? = w.heap[k]?:=fun r R hR k hk=>hO _ (.inl (.inr (.inl ⟨r,R,hR,hk⟩)))
 have hp : ∀ p ∈ s.pers,∀ k,p.D k → w'.heap[k]? = w.heap[k]?:=fun p hp k hk=>hO _ (.inl (.inr (.inr ⟨p,hp,hk⟩)))
 refine ⟨h.n,h.slots,h.grds,?_,h.inj,fun b hb'=>lt_of_same (h.lt b hb') (hb b hb'),h.defers,⟨h1,h2,h3,hsz,fun k hk hn=>(hO k (.inr ⟨hk,hn⟩)).trans (h.chg.block k hk hn)⟩,?_,h.rowsD,?_,h.fix⟩
 ·intro b blk hbl
  obtain ⟨k1,k2,k3,k4⟩:=h.heap b blk hbl
  exact ⟨k1,(hb b k1).trans k2,k3,k4⟩
 ·intro r R hR
  obtain ⟨k0,k1,k2⟩:=h.rows r R hR
  exact ⟨k0,k1.congr (hr r R hR),fun k hk=>⟨lt_of_same (k2 k hk).1 (hr r R hR k hk),(k2 k hk).2⟩⟩
 ·intro p hpm
  obtain ⟨q1,q2,q3⟩:=h.pers p hpm
  exact ⟨q2 _ (hp p hpm),fun w2 hw2=>q2 w2 (fun k hD=>(hw2 k hD).trans (hp p hpm k hD)),fun k hD=>⟨lt_of_same (q3 k hD).1 (hp p hpm k hD),(q3 k hD).2⟩⟩
theorem Sat.toAs (h : Sat C ρ s a w) : Sat C ρ s a (asW C.w0 w):=h.move (fun _ _=>rfl) h.chg.size rfl rfl rfl
end
def recOf (q : Loop) (jump : Option Code) : Loop:={ q with state:=if jump.isNone then .ready else .done,pending:=jump }
def objL (l : Nat) (q : Loop) : Row:=objRow l (.loop q)
def objD (r : Nat) : Row:=objRow r (.deferred (some []))
def withL (s : St) (l r : Nat) (q : Loop) : St:={ s with rows:=appendL s.rows [(s.nr,objD r),(s.nr + 1,objL l q)],nr:=s.nr + 2 }
def jumpPre {ι : Type} (pre : Nat → ι → Prop) (prex : Code → ι → Prop) (i : Nat) : Option Code → ι → Prop
 | none,x=>pre (i + 1) x
 | some c,x=>prex c x
def RoundR {ι : Type} (sx : ι → St) (pre : Nat → ι → Prop) (prex : Code → ι → Prop) (l r : Nat) (q : Loop) (i : Nat) (s : St) (ρ : Nat → Nat) (W : World) (e : Ending) (W' : World) : Prop :=
 ∃ (jump : Option Code) (x : ι) (ρ' : Nat → Nat),e = .returned (.bool jump.isNone) ∧ jumpPre pre prex i jump x ∧
  FSat ρ' (withL (sx x) l r (recOf q jump)) W' ∧ (∀ b,b < s.next → ρ' b = ρ b) ∧ (∀ j v,look (sx x).slots j = some v → v.wf (withL (sx x) l r (recOf q jump)).W) ∧ Chg (touch ρ s) W W' ∧
  (∀ k,domS ρ' (withL (sx x) l r (recOf q jump)) k → (domS ρ s k ∨ touch ρ s k) ∨ W.heap.size ≤ k) ∧
  (∀ k,touch ρ' (withL (sx x) l r (recOf q jump)) k → touch ρ s k ∨ W.heap.size ≤ k)
def setPs : List (Tmp × CV) → List (Nat × RV) → List (Nat × RV)
 | [],sl=>sl
 | (t,v) :: l,sl=>setPs l (upd sl t (.v v))
def psOk (n : Nat) : List (Tmp × CV) → Bool
 | []=>true
 | (t,v) :: l=>match Nat.blt t n,plainC v with
  | true,true=>psOk n l
  | _,_=>false
def roundSt (s : St) (ps : List (Tmp × CV)) : St:={ s with slots:=setPs ps s.slots,fx:=s.next }
section
variable {C : Ctx}
theorem touch_dom {ρ : Nat → Nat} {s : St} {a : Act} {w : World} (h : Sat C ρ s a w) {k : Nat} (hk : touch ρ s k) : domS ρ s k:=by
 rcases hk with ⟨b,blk,h1,_,h3⟩ | ⟨r,R,h1,_,h3⟩
 ·exact .inl ⟨b,(h.heap b blk h1).1,h3⟩
 ·exact .inr (.inl ⟨r,R,h1,h3⟩)
theorem dom_lt {ρ : Nat → Nat} {s : St} {a : Act} {w : World} (h : Sat C ρ s a w) {k : Nat} (hk : domS ρ s k) : k < w.heap.size:=by
 rcases hk with ⟨b,h1,rfl⟩ | ⟨r,R,h1,h2⟩ | ⟨p,h1,h2⟩
 ·exact h.lt b h1
 ·exact ((h.rows r R h1).2.2 k h2).1
 ·exact ((h.pers p h1).2.2 k h2).1
theorem touch_new {ρ : Nat → Nat} {s : St} {a : Act} {w : World} (h : Sat C ρ s a w) {k : Nat} (hk : touch ρ s k) : C.w0.heap.size ≤ k ∨ C.S k:=by
 rcases hk with ⟨b,blk,h1,h2,rfl⟩ | ⟨r,R,h1,h2,h3⟩
 ·exact (h.heap b blk h1).2.2.2 h2
 ·exact ((h.rows r R h1).2.2 k h3).2.2 h2
theorem roundSt_slots {ρ : Nat → Nat} (n : Nat) (W : WF) : ∀ (ps : List (Tmp × CV)) (sl : List (Nat × RV)) (tmps : Array Value),psOk n ps = true → tmps.size = n →
  (∀ i v,look sl i = some v → tmps[i]? = some (v.den ρ) ∧ v.wf W) →
  ∀ i v,look (setPs ps sl) i = some v → (ps.foldl (fun tm (t,x)=>tm.setIfInBounds t (x.den ρ)) tmps)[i]? = some (v.den ρ) ∧ v.wf W
 | [],sl,tmps,_,_,h,i,v,hv=>h i v hv
 | (t,x) :: ps,sl,tmps,hok,hsz,h,i,v,hv=>by
  simp only [psOk] at hok
  split at hok
  ·rename_i h1 h2
   refine roundSt_slots n W ps (upd sl t (.v x)) (tmps.setIfInBounds t (x.den ρ)) hok (by simpa using hsz) (fun j u hu=>?_) i v hv
   rw [look_upd] at hu
   have ht : t < tmps.size:=by rw [hsz]; exact blt_lt h1
   by_cases e : t = j
   ·subst e
    rw [if_pos rfl] at hu
    cases hu
    exact ⟨by simp [ht]; rfl,plainC_wf h2 W⟩
   ·rw [if_neg e] at hu
    obtain ⟨k1,k2⟩:=h j u hu
    exact ⟨by rw [Array.getElem?_setIfInBounds_ne e]; exact k1,k2⟩
  ·cases hok
theorem setPs_grd {g : Nat} {pol c : Bool} {x : CV} : ∀ (ps : List (Tmp × CV)) (sl : List (Nat × RV)) (i : Nat),look (setPs ps sl) i = some (.grd g pol c x) → look sl i = some (.grd g pol c x)
 | [],sl,i,h=>h
 | (t,v) :: ps,sl,i,h=>by
  have:=setPs_grd ps _ i h
  rw [look_upd] at this
  split at this
  ·cases this
  ·exact this
theorem roundSat {ρ : Nat → Nat} {s : St} {a : Act} {w0 W : World} (hS : Sat C ρ s a w0) (hh : W.heap = w0.heap) (hg : s.gs = []) (hd : s.defs = []) (ps : List (Tmp × CV)) (hps : psOk s.n ps = true) (R : Ending → World → Prop) (l : Nat)
  {tmps : Array Value} (ht : tmps = ps.foldl (fun tm (t,x)=>tm.setIfInBounds t (x.den ρ)) a.tmps) :
  Sat ⟨C.P,C.f,R,touch ρ s,W,ρ,some l⟩ ρ (roundSt s ps) ⟨tmps,[]⟩ W:=by
 have hsl:=roundSt_slots (ρ:=ρ) s.n s.W ps s.slots a.tmps hps hS.n hS.slots
 have hsize : ∀ (l : List (Tmp × CV)) (t : Array Value),(l.foldl (fun tm (t,x)=>tm.setIfInBounds t (x.den ρ)) t).size = t.size:=by
  intro l
  induction l with
  | nil=>intro t; rfl
  | cons p l ih=>intro t; simp only [List.foldl_cons]; rw [ih]; simp
 have hfs:=hS.toF
 refine ⟨?_,?_,?_,?_,hS.inj,fun b hb=>by rw [hh]; exact hS.lt b hb,?_,Chg.refl _ _,?_,hS.rowsD,?_,fun b hb=>⟨hb,rfl⟩⟩
 ·show tmps.size = s.n
  rw [ht,hsize]; exact hS.n
 ·intro i v hv
  subst ht
  exact hsl i v hv
 ·intro i g pol c x hv
  have:=setPs_grd ps s.slots i hv
  have:=(hS.grds i g pol c x this).1
  rw [hg] at this; cases this
 ·intro b blk hb
  obtain ⟨k1,k2,k3,_⟩:=hS.heap b blk hb
  exact ⟨k1,by rw [hh]; exact k2,k3,fun hrw=>.inr (.inl ⟨b,blk,hb,hrw,rfl⟩)⟩
 ·exact hd.symm
 ·intro r R' hR
  obtain ⟨k0,k1,k2⟩:=hS.rows r R' hR
  exact ⟨k0,k1.congr (fun k _=>by rw [hh]),fun k hk=>⟨by rw [hh]; exact (k2 k hk).1,(k2 k hk).2.1,fun ho=>.inr (.inr ⟨r,R',hR,ho,hk⟩)⟩⟩
 ·intro p hp
  obtain ⟨q1,q2,q3⟩:=hS.pers p hp
  exact ⟨q2 _ (fun k _=>by rw [hh]),fun w2 hw2=>q2 w2 (fun k hD=>by rw [hw2 k hD,hh]),fun k hD=>⟨by rw [hh]; exact (q3 k hD).1,(q3 k hD).2⟩⟩
theorem Sat.rowsEq {ρ : Nat → Nat} {s : St} {a : Act} {w : World} (h : Sat C ρ s a w) (rows : List (Nat × Row)) (he : ∀ r,look rows r = look s.rows r) : Sat C ρ { s with rows:=rows } a w:=by
 have hle : s.W.le ({ s with rows:=rows } : St).W:=⟨Nat.le_refl _,Nat.le_refl _,fun r _ R hR=>by
  have hR' : look rows r = some R:=hR
  rw [he r] at hR'; exact hR'⟩
 refine ⟨h.n,fun i v hv=>⟨(h.slots i v hv).1,RV.wf_mono hle v (h.slots i v hv).2⟩,h.grds,?_,h.inj,h.lt,h.defers,h.chg,?_,?_,?_,h.fix⟩
 ·intro b blk hb
  obtain ⟨k1,k2,k3,k4⟩:=h.heap b blk hb
  exact ⟨k1,k2,fun x hx=>SV.wf_mono hle x (k3 x hx),k4⟩
 ·intro r R hR
  have hR' : look rows r = some R:=hR
  rw [he r] at hR'
  exact h.rows r R hR'
 ·intro r r' R R' h1 h2
  have h1' : look rows r = some R:=h1
  have h2' : look rows r' = some R':=h2
  rw [he r] at h1'
  rw [he r'] at h2'
  exact h.rowsD r r' R R' h1' h2'
 ·intro p hp
  obtain ⟨q1,q2,q3⟩:=h.pers p hp
  refine ⟨q1,q2,fun k hk=>⟨(q3 k hk).1,(q3 k hk).2.1,fun r R hR=>?_⟩⟩
  have hR' : look rows r = some R:=hR
  rw [he r] at hR'
  exact (q3 k hk).2.2 r R hR'
theorem Sat.setDefs {ρ : Nat → Nat} {s : St} {a : Act} {w : World} (h : Sat C ρ s a w) (ds : List Deferred) : Sat C ρ { s with defs:=ds } { a with defers:=ds } w :=
 ⟨h.n,h.slots,h.grds,h.heap,h.inj,h.lt,rfl,h.chg,h.rows,h.rowsD,h.pers,h.fix⟩
theorem look_none {α : Type} : ∀ {l : List (Nat × α)} {i : Nat},(∀ v,look l i ≠ some v) → look l i = none
 | l,i,h=>by cases e : look l i with
  | none=>rfl
  | some v=>exact absurd e (h v)
theorem look_app {α : Type} : ∀ (l m : List (Nat × α)) (i : Nat),look (appendL l m) i = match look l i with | some v=>some v | none=>look m i
 | [],m,i=>rfl
 | (k,v) :: l,m,i=>by
  simp only [appendL,look]
  split
  ·rfl
  ·exact look_app l m i
theorem withL_rows {s : St} (hlt : ∀ i R,look s.rows i = some R → i < s.nr) (l r : Nat) (q : Loop) :
  (∀ i,look (withL s l r q).rows i = look ((s.addObj r (.deferred (some []))).addObj l (.loop q)).rows i) ∧ look (withL s l r q).rows s.nr = some (objD r) ∧ look (withL s l r q).rows (s.nr + 1) = some (objL l q):=by
 have h0 : look s.rows s.nr = none:=look_none (fun v hv=>by have:=hlt _ _ hv; omega)
 have h1 : look s.rows (s.nr + 1) = none:=look_none (fun v hv=>by have:=hlt _ _ hv; omega)
 have e1 : Nat.beq (s.nr + 1) s.nr = false:=by cases e : Nat.beq (s.nr + 1) s.nr with | true=>have:=(beq_iff _ _).1 e; omega | false=>rfl
 have e2 : Nat.beq s.nr (s.nr + 1) = false:=by cases e : Nat.beq s.nr (s.nr + 1) with | true=>have:=(beq_iff _ _).1 e; omega | false=>rfl
 refine ⟨fun i=>?_,?_,?_⟩
 ·simp only [withL,look_app,St.addObj,look]
  cases hi : look s.rows i with
  | some R =>
   have:=hlt i R hi
   have f1 : Nat.beq (s.nr + 1) i = false:=by cases e : Nat.beq (s.nr + 1) i with | true=>have:=(beq_iff _ _).1 e; omega | false=>rfl
   have f2 : Nat.beq s.nr i = false:=by cases e : Nat.beq s.nr i with | true=>have:=(beq_iff _ _).1 e; omega | false=>rfl
   rw [f1,f2]
  | none =>
   cases f2 : Nat.beq s.nr i with
   | true =>
    have:=(beq_iff _ _).1 f2
    subst this
    rw [e1]; rfl
   | false=>rfl
 ·simp only [withL,look_app,h0,look,Nat.beq_refl]
 ·simp only [withL,look_app,h1,look,e2,Nat.beq_refl]
theorem Sat.putL {ρ : Nat → Nat} {s : St} {fx : Nat} {a : Act} {w : World} (hlt : ∀ i R,look s.rows i = some R → i < s.nr) {l r : Nat} {q : Loop} (h : Sat C ρ { withL s l r q with fx:=fx } a w) (q' : Loop) :
  Sat C ρ { withL s l r q' with fx:=fx } a (w.putObj l (.loop q')):=by
 obtain ⟨_,k2,k3⟩:=withL_rows hlt l r q
 obtain ⟨_,k2',k3'⟩:=withL_rows hlt l r q'
 have h1:=h.setObj k3 (.loop q')
 have h2:=h1.rowsEq (withL s l r q').rows (fun i=>?_)
 ·exact h2
 ·simp only [St.setObj,look_upd]
  by_cases e : s.nr + 1 = i
  ·subst e; rw [if_pos rfl,k3']; rfl
  ·rw [if_neg e]
   simp only [withL,look_app]
   cases look s.rows i with
   | some R=>rfl
   | none =>
    simp only [look]
    cases f2 : Nat.beq s.nr i with
    | true=>rfl
    | false =>
     cases f1 : Nat.beq (s.nr + 1) i with
     | true=>have:=(beq_iff _ _).1 f1; exact absurd this e
     | false=>rfl
theorem V.beginRound (i l : Nat) (q : Loop) {c : Cfg} {k : List Item} (ht : c.todo = .beginRound :: k) (hr : C.round = some l) (hi : look c.st.rows i = some (objL l q)) (hq : q.state = .ready)
  (h : V C ⟨k,c.st.setObj i l (.loop { q with state:=.busy })⟩) : V C c:=by
 intro ρ a w hS
 rw [ht]
 obtain ⟨_,hok,_⟩:=hS.rows i _ hi
 have hw : w.heap[l]? = some (.loop q):=by
  obtain ⟨g,h1,h2⟩:=hok.obj _ rfl
  cases h1
  exact h2
 refine Ok.of_step (fun b cs hro _=>stepR_beginRound (hro.trans hr) (run_beginRound hw hq)) ?_
 exact h ρ a _ (hS.setObj hi _)
def jumpOf : List Item → Option (Option Code)
 | []=>some none
 | .code .ret :: _=>some (some .ret)
 | .code (.exit id) :: k=>match exitTo id k with
  | none=>some (some (.exit id))
  | some _=>none
 | _=>none
def keysLt (n : Nat) : List (Nat × Row) → Bool
 | []=>true
 | (k,_) :: l=>match Nat.blt k n with
  | true=>keysLt n l
  | false=>false
theorem keysLt_ok {n : Nat} : ∀ {l : List (Nat × Row)},keysLt n l = true → ∀ i R,look l i = some R → i < n
 | (k,Q) :: l,h,i,R,hl=>by
  simp only [keysLt] at h
  simp only [look] at hl
  split at h
  ·rename_i hk
   split at hl
   ·rename_i e
    have:=(beq_iff _ _).1 e
    subst this
    exact blt_lt hk
   ·exact keysLt_ok h i R hl
  ·cases h
def headR (ks : List Nat) (m : Nat) (pm : List Bool) (c : Cfg) : Option St :=
 match canon c.st.heap (upto c.st.fx 0) (svsSlots c.st.slots ks) with
 | (hs,rs)=>pickSt ks hs (appendL rs [m,m + 1]) pm c.st
theorem V.roundEnd {P : Program} {f : FuncId} {ι : Type} {sx : ι → St} {pre : Nat → ι → Prop} {prex : Code → ι → Prop} {l r i : Nat} {q : Loop} {s : St} {ρ0 : Nat → Nat} {W : World}
  (ks : List Nat) (pm : List Bool) (jump : Option Code) (x : ι) {c : Cfg} (ht : jumpOf c.todo = some jump)
  (hp : headR ks (sx x).nr pm c = some { withL (sx x) l r { q with state:=.busy,pending:=none } with fx:=s.next })
  (hr : (ownAll (sx x).rows && keysLt (sx x).nr (sx x).rows) = true) (hn : (sx x).next = s.next) (hps : (sx x).pers = s.pers)
  (hpre : jumpPre pre prex i jump x) :
  V ⟨P,f,RoundR sx pre prex l r q i s ρ0 W,touch ρ0 s,W,ρ0,some l⟩ c:=by
 intro ρ a w hS
 rw [Bool.and_eq_true] at hr
 obtain ⟨hown,hkeys⟩:=hr
 have hlt:=keysLt_ok hkeys
 unfold headR at hp
 split at hp
 have hS1:=hS.pick hp
 generalize (fun i=>ρ (List.getD _ i 0)) = ρ' at hS1
 have hS2:=hS1.putL (q:={ q with state:=.busy,pending:=none }) hlt (recOf q jump)
 have hw : w.heap[l]? = some (.loop { q with state:=.busy,pending:=none }):=by
  obtain ⟨_,hok,_⟩:=hS1.rows _ _ (withL_rows hlt l r _).2.2
  obtain ⟨g,h1,h2⟩:=hok.obj _ rfl
  cases h1
  exact h2
 have hend:=run_endRound (P:=P) jump hw
 have hR : RoundR sx pre prex l r q i s ρ0 W (.returned (.bool jump.isNone)) (w.putObj l (.loop (recOf q jump))):=by
  have hF:=hS2.toF
  refine ⟨jump,x,ρ',rfl,hpre,⟨hF.heap,hF.inj,hF.lt,hF.rows,hF.rowsD,hF.pers⟩,fun b hb=>(hS2.fix b hb).2,fun j v hv=>(hS2.slots j v hv).2,hS2.chg,?_,?_⟩
  ·rintro k (⟨b,h1,h2⟩ | ⟨q',R,h1,h2⟩ | ⟨p,h1,h2⟩)
   ·have hb : b < s.next:=by rw [← hn]; exact h1
    exact .inl (.inl (.inl ⟨b,hb,by rw [← h2]; exact ((hS2.fix b hb).2).symm⟩))
   ·have ho : R.own = true:=by
     simp only [withL,look_app] at h1
     cases e : look (sx x).rows q' with
     | some R'=>rw [e] at h1; cases h1; exact ownAll_ok hown e
     | none =>
      rw [e] at h1
      simp only [look] at h1
      split at h1
      ·cases h1; rfl
      ·split at h1
       ·cases h1; rfl
       ·cases h1
    rcases ((hS2.rows q' R h1).2.2 k h2).2.2 ho with h | h
    ·exact .inr h
    ·exact .inl (.inr h)
   ·exact .inl (.inl (.inr (.inr ⟨p,by rw [← hps]; exact h1,h2⟩)))
  ·rintro k (⟨b,blk,h1,h2,rfl⟩ | ⟨q',R,h1,h2,h3⟩)
   ·exact ((hS2.heap b blk h1).2.2.2 h2).symm
   ·exact (((hS2.rows q' R h1).2.2 k h3).2.2 h2).symm
 obtain ⟨todo,st⟩:=c
 intro b hb hk hro cs hcs
 cases cs with
 | nil=>exact absurd rfl (hcs rfl)
 | cons c0 cs =>
  refine ⟨_,_,hR,c0,cs,_,rfl,rfl,.one ?_⟩
  simp only at ht ⊢
  unfold jumpOf at ht
  split at ht
  ·cases ht; exact stepR_round_end hro hk hend
  ·cases ht; exact stepR_round_ret hro hk hend
  ·rename_i id k _
   cases he : exitTo id k with
   | none=>rw [he] at ht; cases ht; exact stepR_round_exit hro hk he hend
   | some k'=>rw [he] at ht; cases ht
  ·cases ht
theorem Steps.tail {P : Program} {m m1 m' : Machine} (h : Steps P m m') (h1 : Go.step P m = .next m1) (hne : m ≠ m') : Steps P m1 m':=by
 obtain ⟨n,hn⟩:=h
 cases n with
 | zero=>simp [runN] at hn; exact absurd hn hne
 | succ n=>simp [runN,h1] at hn; exact ⟨n,hn⟩
theorem V.retD (i r : Nat) {c : Cfg} (he : isEnd c.todo = true) (hr : C.round = none) (hno : ∀ e w,C.R e w → ∃ v,e = .returned v) (hd : c.st.defs = [⟨.collected r,#[]⟩]) (hi : look c.st.rows i = some (objD r))
  (h : V C ⟨c.todo,{ c.st.setObj i r (.deferred none) with defs:=[] }⟩) : V C c:=by
 intro ρ a w hS b hb hk hro cs hcs
 have hw : w.heap[r]? = some (.deferred (some [])):=by
  obtain ⟨_,hok,_⟩:=hS.rows i _ hi
  obtain ⟨g,h1,h2⟩:=hok.obj _ rfl
  cases h1
  exact h2
 have hS1:=(hS.setObj hi (.deferred none)).setDefs []
 obtain ⟨e,w',h1,h2⟩:=h ρ _ _ hS1 b hb hk hro cs hcs
 obtain ⟨v,rfl⟩:=hno _ _ h1
 refine ⟨_,w',h1,?_⟩
 unfold Fin at h2 ⊢
 rw [hr] at h2 ⊢
 obtain ⟨fr,k1,k2,k3⟩:=h2
 refine ⟨fr,?_,k2,k3⟩
 have hro' : b.roundOf = none:=hro.trans hr
 obtain ⟨todo,st⟩:=c
 have hst : ∀ a w,Go.step C.P (lone (b.atR a todo) cs w) = .next (lone { b.atR a todo with mode:=.returning } cs w):=by
  intro a w
  simp only at he
  unfold isEnd at he
  split at he
  ·exact stepR_end hro'
  ·exact stepR_ret hro'
  ·cases he
 have k1' : Steps C.P _ _:=Steps.tail k1 (hst _ _) (fun e=>by
  have h0:=k3.1
  have h2 : (b.atR { a with defers:=[] } todo) = fr:=by simp [lone] at e; exact e.2
  rw [← h2] at h0
  cases h0)
 have s2:=step_collected (P:=C.P) (fr:={ b.atR a todo with mode:=.returning }) (cs:=cs) (w:=w) (d:=⟨.collected r,#[]⟩) (ds:=[]) (by simp) (by show a.defers = _; rw [hS.defers]; exact hd) rfl (run_takeDeferred hw)
 exact Steps.trans (.one (hst a w)) (Steps.trans (.one s2) k1')
end
end Go.SX
end
section
namespace Go.SX
open Go
structure Shape {ι : Type} (sx : ι → St) (sl : List (Nat × RV)) (n nx fx : Nat) (ps : List Pers) : Prop where
 slots : ∀ x,(sx x).slots = sl
 n : ∀ x,(sx x).n = n
 next : ∀ x,(sx x).next = nx
 fx : ∀ x,(sx x).fx = fx
 pers : ∀ x,(sx x).pers = ps
 gs : ∀ x,(sx x).gs = []
 defs : ∀ x,(sx x).defs = []
 keys : ∀ x,keysLt (sx x).nr (sx x).rows = true
def iterOf (c : Cfg) (g : Operand) : Option (FuncId × List CV × (List (Nat × Blk) × Nat × List (Nat × Row) × Nat)) :=
 match calleeS c.st none (.value g) with
 | some (f,caps)=>match canon c.st.heap [] (svsOf caps) with
  | (hs,rs)=>match renC hs rs caps,pickSt [] hs rs [] c.st with
   | some ys,some s'=>some (f,ys,fragOf s')
   | _,_=>none
 | none=>none
def meets (l : List Nat) : List Nat → Bool
 | []=>false
 | b :: m=>match hasNat l b with
  | true=>true
  | false=>meets l m
theorem meets_no {l m : List Nat} (h : meets l m = false) : ∀ b ∈ m,b ∉ l:=by
 induction m with
 | nil=>intro b hb; simp at hb
 | cons c m ih =>
  intro b hb hl
  simp only [meets] at h
  split at h
  ·cases h
  ·rename_i hn
   rcases List.mem_cons.1 hb with rfl | hb
   ·rw [(hasNat_mem l b).2 hl] at hn; cases hn
   ·exact ih h b hb hl
def apart (ks : List Nat) (c : Cfg) (g : Operand) : Bool :=
 match calleeS c.st none (.value g) with
 | some (_,caps)=>match meets (canon c.st.heap [] (svsOf caps)).1 (canon c.st.heap (upto c.st.fx 0) (svsSlots c.st.slots ks)).1 with
  | true=>false
  | false=>true
 | none=>false
def leftSt (s : St) (l r : Nat) (q : Loop) : St:={ withL s l r q with defs:=[⟨.collected r,#[]⟩] }
section
variable {C : Ctx}
theorem RoundR.out {ι : Type} {sx : ι → St} {sl : List (Nat × RV)} {n nx fx : Nat} {ps : List Pers} (hsh : Shape sx sl n nx fx ps) {x x' : ι} {l r : Nat} {q : Loop} {jump : Option Code} {ρ ρ' : Nat → Nat} {a : Act} {W W' : World}
  (hS : Sat C ρ (withL (sx x) l r (recOf q none)) a (asW C.w0 W)) (hF : FSat ρ' (withL (sx x') l r (recOf q jump)) W') (hρ : ∀ b,b < (withL (sx x) l r (recOf q none)).next → ρ' b = ρ b)
  (hwf : ∀ j v,look (sx x').slots j = some v → v.wf (withL (sx x') l r (recOf q jump)).W) (hch : Chg (touch ρ (withL (sx x) l r (recOf q none))) W W')
  (ht : ∀ k,touch ρ' (withL (sx x') l r (recOf q jump)) k → touch ρ (withL (sx x) l r (recOf q none)) k ∨ W.heap.size ≤ k) : Sat C ρ' (withL (sx x') l r (recOf q jump)) a (asW C.w0 W'):=by
 have hnew : ∀ k,touch ρ' (withL (sx x') l r (recOf q jump)) k → C.w0.heap.size ≤ k ∨ C.S k:=by
  intro k hk
  rcases ht k hk with h | h
  ·exact touch_new hS h
  ·have : C.w0.heap.size ≤ W.heap.size:=hS.chg.size
   exact .inl (Nat.le_trans this h)
 have hn1 : ∀ x,(withL (sx x) l r (recOf q none)).next = nx:=fun x=>hsh.next x
 have hn2 : ∀ x,(withL (sx x) l r (recOf q jump)).next = nx:=fun x=>hsh.next x
 have hslot : ∀ i v,look (sx x').slots i = some v → look (withL (sx x) l r (recOf q none)).slots i = some v:=fun i v hv=>by
  show look (sx x).slots i = some v
  rw [hsh.slots] at hv ⊢; exact hv
 refine ⟨hS.n.trans ((hsh.n x).trans (hsh.n x').symm),?_,?_,?_,hF.inj,hF.lt,?_,⟨rfl,rfl,rfl,Nat.le_trans hS.chg.size hch.size,?_⟩,?_,hF.rowsD,fun p hp=>⟨(hF.pers p hp).2.1 _ (fun _ _=>rfl),(hF.pers p hp).2⟩,?_⟩
 ·intro i v hv
  obtain ⟨k1,k2⟩:=hS.slots i v (hslot i v hv)
  refine ⟨?_,hwf i v hv⟩
  rw [RV.den_congr (W:=(withL (sx x) l r (recOf q none)).W) (ρ:=ρ) (ρ':=ρ') hρ v k2]
  exact k1
 ·intro i g pol b y hv
  have h1:=(hS.grds i g pol b y (hslot i _ hv)).1
  rw [show (withL (sx x) l r (recOf q none)).gs = [] from hsh.gs x] at h1
  cases h1
 ·intro b blk hb
  obtain ⟨k1,k2,k3⟩:=hF.heap b blk hb
  exact ⟨k1,k2,k3,fun hrw=>hnew _ (.inl ⟨b,blk,hb,hrw,rfl⟩)⟩
 ·exact hS.defers.trans ((hsh.defs x).trans (hsh.defs x').symm)
 ·intro k hk hnS
  have h1 : W'.heap[k]? = W.heap[k]?:=hch.block k (Nat.lt_of_lt_of_le hk hS.chg.size) (fun htk=>(touch_new hS htk).elim (fun h=>by omega) hnS)
  show W'.heap[k]? = _
  rw [h1]
  exact hS.chg.block k hk hnS
 ·intro r' R hR
  obtain ⟨k1,k2,k3⟩:=hF.rows r' R hR
  exact ⟨k1,k2.congr (fun _ _=>rfl),fun k hk=>⟨(k3 k hk).1,(k3 k hk).2,fun ho=>hnew _ (.inr ⟨r',R,hR,ho,hk⟩)⟩⟩
 ·intro b hb
  have hb' : b < (withL (sx x) l r (recOf q none)).fx:=by
   show b < (sx x).fx
   rw [hsh.fx]
   have : b < (sx x').fx:=hb
   rw [hsh.fx] at this; exact this
  obtain ⟨h1,h2⟩:=hS.fix b hb'
  refine ⟨?_,(hρ b h1).trans h2⟩
  rw [hn2]
  rw [hn1] at h1
  exact h1
theorem objAt {s : St} (hk : keysLt s.nr s.rows = true) {l r : Nat} {q : Loop} {ρ : Nat → Nat} {a : Act} {W : World} (hS : Sat C ρ (withL s l r q) a (asW C.w0 W)) : W.heap[l]? = some (.loop q):=by
 obtain ⟨_,hok,_⟩:=hS.rows _ _ (withL_rows (keysLt_ok hk) l r q).2.2
 obtain ⟨g,h1,h2⟩:=hok.obj _ rfl
 cases h1
 exact h2
theorem sizeL {s : St} (hk : keysLt s.nr s.rows = true) {l r : Nat} {q : Loop} {ρ : Nat → Nat} {a : Act} {W W' : World} (hS : Sat C ρ (withL s l r q) a (asW C.w0 W)) (hl : C.w0.heap.size ≤ l)
  (hO : ∀ k,(domS ρ (withL s l r q) k ∨ (k < C.w0.heap.size ∧ ¬ C.S k)) → W'.heap[k]? = W.heap[k]?) : C.w0.heap.size ≤ W'.heap.size:=by
 have h1:=hO l (.inl (.inr (.inl ⟨_,_,(withL_rows (keysLt_ok hk) l r q).2.2,objRow_uses.2 rfl⟩)))
 have h2:=objAt hk hS
 rw [h2] at h1
 have:=(Array.getElem?_eq_some_iff.1 h1).1
 omega
def ydOf {ι : Type} (C : Ctx) (sx : ι → St) (sl : List (Nat × RV)) (n nx fx : Nat) (ps : List Pers) (hsh : Shape sx sl n nx fx ps) (pre : Nat → ι → Prop) (prex : Code → ι → Prop) (N : Nat) (enc : Nat → List CV) (encV : Nat → Array Value)
  (henc : ∀ i ρ,((enc i).map (CV.den ρ)).toArray = encV i) (psT : Array Tmp) (hsz : ∀ i,(enc i).length = psT.size) (hpl : ∀ i,psOk n (psT.toList.zip (enc i)) = true) (a : Act) (l r : Nat) (q : Loop) (hq : q.fn = C.f ∧ q.params = psT ∧ q.tmps = a.tmps) (hl : C.w0.heap.size ≤ l) (w1 : World)
  (hround : ∀ i x ρ W,i < N → pre i x → V ⟨C.P,C.f,RoundR sx pre prex l r q i (withL (sx x) l r (recOf q none)) ρ W,touch ρ (withL (sx x) l r (recOf q none)),W,ρ,some l⟩
   ⟨[.code q.assign,.beginRound,.code q.body],roundSt (withL (sx x) l r (recOf q none)) (psT.toList.zip (enc i))⟩) : Yd C.P l N encV w1 where
 J:=fun i O Ow W=>∃ x ρ,pre i x ∧ Sat C ρ (withL (sx x) l r (recOf q none)) a (asW C.w0 W) ∧ (∀ k,O k ↔ (domS ρ (withL (sx x) l r (recOf q none)) k ∨ (k < C.w0.heap.size ∧ ¬ C.S k))) ∧ ∀ k,Ow k ↔ touch ρ (withL (sx x) l r (recOf q none)) k
 Jx:=fun O Ow W=>∃ cd x ρ,prex cd x ∧ Sat C ρ (withL (sx x) l r (recOf q (some cd))) a (asW C.w0 W) ∧ (∀ k,O k ↔ (domS ρ (withL (sx x) l r (recOf q (some cd))) k ∨ (k < C.w0.heap.size ∧ ¬ C.S k))) ∧ ∀ k,Ow k ↔ touch ρ (withL (sx x) l r (recOf q (some cd))) k
 st:=by
  rintro i O Ow W W' ⟨x,ρ,h1,h2,h3,h4⟩ hO
  exact ⟨x,ρ,h1,h2.move (fun k hk=>hO k ((h3 k).2 hk)) (sizeL (hsh.keys x) h2 hl (fun k hk=>hO k ((h3 k).2 hk))) rfl rfl rfl,h3,h4⟩
 stx:=by
  rintro O Ow W W' ⟨cd,x,ρ,h1,h2,h3,h4⟩ hO
  exact ⟨cd,x,ρ,h1,h2.move (fun k hk=>hO k ((h3 k).2 hk)) (sizeL (hsh.keys x) h2 hl (fun k hk=>hO k ((h3 k).2 hk))) rfl rfl rfl,h3,h4⟩
 lt:=by
  rintro i O Ow W ⟨x,ρ,h1,h2,h3,h4⟩ k hk
  rcases (h3 k).1 hk with h | h
  ·exact dom_lt h2 h
  ·exact Nat.lt_of_lt_of_le h.1 h2.chg.size
 ltx:=by
  rintro O Ow W ⟨cd,x,ρ,h1,h2,h3,h4⟩ k hk
  rcases (h3 k).1 hk with h | h
  ·exact dom_lt h2 h
  ·exact Nat.lt_of_lt_of_le h.1 h2.chg.size
 own:=by
  rintro i O Ow W ⟨x,ρ,h1,h2,h3,h4⟩ k hk
  exact (h3 k).2 (.inl (touch_dom h2 ((h4 k).1 hk)))
 y:=by
  rintro i O Ow W hi ⟨x,ρ,h1,h2,h3,h4⟩ _ _ _
  obtain ⟨hq1,hq2,hq3⟩:=hq
  have hw : W.heap[l]? = some (.loop (recOf q none)):=objAt (hsh.keys x) h2
  have hgs : (withL (sx x) l r (recOf q none)).gs = []:=hsh.gs x
  have hds : (withL (sx x) l r (recOf q none)).defs = []:=hsh.defs x
  refine ⟨C.f,((psT.zip (encV i)).foldl (fun tmps (t,a)=>tmps.setIfInBounds t a) a.tmps),q.assign,q.body,?_,fun c cs=>?_⟩
  ·have:=run_yield (P:=C.P) (args:=encV i) hw (by show _ = q.params.size; rw [← henc i id,hq2,← hsz i]; simp)
   rw [this]
   show Result.ok (Next.round l q.fn ((q.params.zip (encV i)).foldl _ q.tmps) q.assign q.body) W = _
   rw [hq1,hq2,hq3]
  ·have hS:=roundSat (W:=W) h2 rfl hgs hds (psT.toList.zip (enc i)) (by show psOk (sx x).n _ = true; rw [hsh.n]; exact hpl i)
    (RoundR sx pre prex l r q i (withL (sx x) l r (recOf q none)) ρ W) l (tmps:=(psT.zip (encV i)).foldl (fun tmps (t,a)=>tmps.setIfInBounds t a) a.tmps) (by
     rw [← henc i ρ,← Array.foldl_toList,Array.toList_zip,List.zip_map_right,List.foldl_map]; rfl)
   obtain ⟨e,W',hR,c',cs',v,hcs,he,hst⟩:=hround i x ρ W hi h1 ρ _ _ hS { (default : Frame) with fn:=C.f,kind:=.normal,roundOf:=some l } rfl rfl rfl (c :: cs) (by simp)
   obtain ⟨jump,x',ρ',he',hpre,hF,hρ,hwf,hch,hdom,htc⟩:=hR
   cases hcs
   have hv : v = .bool jump.isNone:=by rw [he] at he'; injection he'
   have hS':=RoundR.out hsh h2 hF hρ hwf hch htc
   refine ⟨v,W',⟨fun k=>domS ρ' (withL (sx x') l r (recOf q jump)) k ∨ (k < C.w0.heap.size ∧ ¬ C.S k),touch ρ' (withL (sx x') l r (recOf q jump)),⟨hch.os,hch.tape,hch.output,hch.size,fun k hk hn=>hch.block k hk (fun h=>hn ((h4 k).2 h))⟩,?_,?_,?_⟩,?_⟩
   ·rintro k (h | h)
    ·rcases hdom k h with (h | h) | h
     ·exact .inl ((h3 k).2 (.inl h))
     ·exact .inl ((h3 k).2 (.inl (touch_dom h2 h)))
     ·exact .inr h
    ·exact .inl ((h3 k).2 (.inr h))
   ·intro k h
    rcases htc k h with h | h
    ·exact .inl ((h4 k).2 h)
    ·exact .inr h
   ·cases jump with
    | none=>exact .inl ⟨hv,x',ρ',hpre,hS',fun k=>Iff.rfl,fun k=>Iff.rfl⟩
    | some cd=>exact .inr ⟨hv,cd,x',ρ',hpre,hS',fun k=>Iff.rfl,fun k=>Iff.rfl⟩
   ·have hfr : Frame.round l C.f ((psT.zip (encV i)).foldl (fun tmps (t,a)=>tmps.setIfInBounds t a) a.tmps) q.assign q.body .normal =
      ({ (default : Frame) with fn:=C.f,kind:=.normal,roundOf:=some l } : Frame).atR ⟨(psT.zip (encV i)).foldl (fun tmps (t,a)=>tmps.setIfInBounds t a) a.tmps,[]⟩ [.code q.assign,.beginRound,.code q.body]:=by
     simp [Frame.round,Frame.atR]
    rw [hfr]
    exact hst
theorem pick_look {s s' : St} {ks hs rs : List Nat} {pm : List Bool} (hpk : pickSt ks hs rs pm s = some s') {b : Nat} (hb : b < s'.next) : hs.getD b 0 ∈ hs ∧ ∃ blk,look s.heap (hs.getD b 0) = some blk:=by
 unfold pickSt at hpk
 split at hpk
 case h_2=>cases hpk
 rename_i sl hpp rows _ _ _ hhp _
 have hs':=Option.some.inj hpk
 have hlen : b < hs.length:=by rw [← hs'] at hb; exact hb
 have hmem : hs.getD b 0 ∈ hs:=by simp [List.getD,List.getElem?_eq_getElem hlen]
 refine ⟨hmem,?_⟩
 have : ∀ (l : List Nat) (i0 : Nat) (r : List (Nat × Blk)),pickHeap hs rs s.heap l i0 = some r → ∀ b ∈ l,∃ blk,look s.heap b = some blk:=by
  intro l
  induction l with
  | nil=>intro i0 r _ b hb; simp at hb
  | cons d l ih =>
   intro i0 r hr b hb
   simp only [pickHeap] at hr
   split at hr
   ·rename_i blk hc
    split at hr
    ·split at hr
     ·rename_i r' hr'
      rcases List.mem_cons.1 hb with rfl | hb
      ·exact ⟨blk,hc⟩
      ·exact ih _ _ hr' b hb
     ·cases hr
    ·cases hr
   ·cases hr
 exact this hs 0 hpp hhp _ hmem
theorem pick_lt {ρ : Nat → Nat} {s s' : St} {a : Act} {w : World} (hS : Sat C ρ s a w) {ks hs rs : List Nat} {pm : List Bool} (hpk : pickSt ks hs rs pm s = some s') (b : Nat) (hb : b < s'.next) : hs.getD b 0 < s.next:=by
 obtain ⟨_,blk,hbk⟩:=pick_look hpk hb
 exact (hS.heap _ blk hbk).1
theorem pick_row {s s' : St} {ks hs rs : List Nat} {pm : List Bool} (hpk : pickSt ks hs rs pm s = some s') {r : Nat} {R : Row} (hR : look s'.rows r = some R) : ∃ r2,look s.rows r2 = some R:=by
 unfold pickSt at hpk
 split at hpk
 case h_2=>cases hpk
 rename_i sl hpp rows _ _ _ _ hrows
 have hs':=Option.some.inj hpk
 rw [← hs'] at hR
 obtain ⟨r2,_,_,h3⟩:=pickRows_ok hrows r R hR
 exact ⟨r2,h3⟩
theorem pick_blk {s s' : St} {ks hs rs : List Nat} {pm : List Bool} (hpk : pickSt ks hs rs pm s = some s') {b : Nat} {blk : Blk} (hb : look s'.heap b = some blk) : ∃ blk0,look s.heap (hs.getD b 0) = some blk0 ∧ blk.rw = blk0.rw:=by
 unfold pickSt at hpk
 split at hpk
 case h_2=>cases hpk
 rename_i sl hpp rows _ _ _ hhp _
 have hs':=Option.some.inj hpk
 rw [← hs'] at hb
 obtain ⟨b0,blk0,_,h2,h3,_,_,h6⟩:=pickHeap_ok hhp b blk hb
 simp only [Nat.sub_zero] at h2
 exact ⟨blk0,by simp [List.getD,h2,h3],h6⟩
theorem pick_pers {s s' : St} {ks hs rs : List Nat} {pm : List Bool} (hpk : pickSt ks hs rs pm s = some s') {p : Pers} (hp : p ∈ s'.pers) : p ∈ s.pers:=by
 unfold pickSt at hpk
 split at hpk
 case h_2=>cases hpk
 have hs':=Option.some.inj hpk
 rw [← hs'] at hp
 exact keepP_sub _ _ _ hp
theorem Sat.fragAt {ρ : Nat → Nat} {s s' F : St} {a : Act} {w : World} (hS : Sat C ρ s a w) {hs rs : List Nat} (hpk : pickSt [] hs rs [] s = some s') (hfr : fragOf s' = fragOf F) (pi : List (Nat × Bool))
  (hpi : getP pi s.pers = some (askP C.w0.heap.size C.S pi F.pers)) : FSat (fun i=>ρ (hs.getD i 0)) F w:=by
 have hFs:=(hS.pick hpk).toF
 have hpn : s'.next = F.next:=by simp only [fragOf,Prod.mk.injEq] at hfr; exact hfr.2.1
 refine hFs.withPers hfr (fun q hq=>?_)
 have hbase : ∀ q' ∈ s.pers,q'.φ w ∧ (∀ w',(∀ k,q'.D k → w'.heap[k]? = w.heap[k]?) → q'.φ w') ∧
   ∀ k,q'.D k → k < w.heap.size ∧ (∀ b,b < F.next → ρ (hs.getD b 0) ≠ k) ∧ ∀ r R,look F.rows r = some R → R.own = true → ¬ R.uses k:=by
  intro q' hq'
  obtain ⟨p1,p2,p3⟩:=hS.pers q' hq'
  refine ⟨p1,p2,fun k hD=>⟨(p3 k hD).1,fun b hb'=>?_,fun r R hR ho hu'=>?_⟩⟩
  ·exact (p3 k hD).2.1 _ (pick_lt hS hpk _ (by rw [hpn]; exact hb'))
  ·unfold pickSt at hpk
   split at hpk
   case h_2=>cases hpk
   rename_i sl hpp rows _ _ _ _ hrows
   have hs':=Option.some.inj hpk
   have hR' : look s'.rows r = some R:=by
    simp only [fragOf,Prod.mk.injEq] at hfr; rw [hfr.2.2.1]; exact hR
   rw [← hs'] at hR'
   obtain ⟨r2,_,_,h3⟩:=pickRows_ok hrows r R hR'
   exact (p3 k hD).2.2 r2 R h3 ho hu'
 rcases askP_mem (n0:=C.w0.heap.size) (S:=C.S) (l:=pi) q hq with h1 | h1
 ·exact hbase q (getP_mem hpi q h1)
 ·obtain ⟨p1,p2,p3⟩:=hbase _ (getP_mem hpi _ h1)
  exact ⟨p1.1,fun w' hw'=>(p2 w' hw').1,p3⟩
theorem rwAll_ok : ∀ {l : List (Nat × Blk)} {b : Nat} {blk : Blk},rwAll l = true → look l b = some blk → blk.rw = true
 | (k,q) :: l,b,blk,h,hl=>by
  simp only [rwAll] at h
  split at h
  ·rename_i hq
   simp only [look] at hl
   split at hl
   ·cases hl; exact hq
   ·exact rwAll_ok h hl
  ·cases h
theorem V.rangeF {ι : Type} (sx : ι → St) {sl : List (Nat × RV)} {n nx fx : Nat} {ps : List Pers} (hsh : Shape sx sl n nx fx ps) (pre : Nat → ι → Prop) (prex : Code → ι → Prop) {N : Nat} (enc : Nat → List CV) {encV : Nat → Array Value}
  (henc : ∀ i ρ,((enc i).map (CV.den ρ)).toArray = encV i) (x0 : ι) (ks : List Nat) (pm : List Bool) (pi : List (Nat × Bool)) {g : Operand} {psT : Array Tmp} {asg body : Code} {k : List Item} {c : Cfg} {gf : FuncId} {ys : List CV} {F : St}
  (ht : c.todo = .code (.rangeFunc g psT asg body) :: k) (hr : C.round = none) (hp : headK ks pm c = some (sx x0)) (hpre : pre 0 x0) (hit : Iter C.P gf ys F N encV) (hen : entersB C.P gf = true)
  (hF : iterOf c g = some (gf,ys,fragOf F)) (hFs : (apart ks c g && (F.rows.isEmpty && (rwAll F.heap && told F.next F.heap))) = true) (hpi : getP pi c.st.pers = some (askP C.w0.heap.size C.S pi F.pers))
  (hsz : ∀ i,(enc i).length = psT.size) (hpl : ∀ i,psOk n (psT.toList.zip (enc i)) = true)
  (hround : ∀ i x ρ W l r q,i < N → pre i x → V ⟨C.P,C.f,RoundR sx pre prex l r q i (withL (sx x) l r (recOf q none)) ρ W,touch ρ (withL (sx x) l r (recOf q none)),W,ρ,some l⟩
   ⟨[.code asg,.beginRound,.code body],roundSt (withL (sx x) l r (recOf q none)) (psT.toList.zip (enc i))⟩)
  (hend : ∀ x l r q,pre N x → V C ⟨k,leftSt (sx x) l r q⟩) (hjump : ∀ cd x l r q,prex cd x → V C ⟨.code cd :: k,leftSt (sx x) l r q⟩) : V C c:=by
 intro ρ a w hS b hb hk hro cs hcs
 obtain ⟨todo,st⟩:=c
 simp only at ht hS
 subst ht
 simp only [Bool.and_eq_true] at hFs
 obtain ⟨hap,hrw0,hrwF,htold⟩:=hFs
 -- the function
 unfold iterOf at hF
 unfold apart at hap
 split at hF
 case h_2=>cases hF
 rename_i f caps hcal
 rw [hcal] at hap
 simp only at hap
 split at hF
 rename_i hs rs hcan
 split at hF
 case h_2=>cases hF
 rename_i ys1 s' hren hpk
 simp only [Option.some.injEq,Prod.mk.injEq] at hF
 obtain ⟨rfl,rfl,hfr⟩:=hF
 -- the loop's own side
 unfold headK at hp
 rw [hcan] at hap
 split at hp
 rename_i hsO rsO hcanO
 rw [hcanO] at hap
 simp only at hap
 have hmeet : meets hs hsO = false:=by
  cases e : meets hs hsO with
  | true=>rw [e] at hap; cases hap
  | false=>rfl
 have hO:=hS.pick hp
 have ha : a.defers = []:=hO.defers.trans (hsh.defs x0)
 -- the two objects
 let q0 : Loop:={ state:=.ready,pending:=none,fn:=C.f,tmps:=a.tmps,params:=psT,assign:=asg,body:=body,defers:=w.heap.size }
 have hsz1 : (w.alloc (.deferred (some []))).heap.size = w.heap.size + 1:=World.size_alloc _ _
 have hO2:=(hO.newObj (.deferred (some []))).newObj (.loop q0)
 rw [hsz1] at hO2
 have hlt0:=keysLt_ok (hsh.keys x0)
 have hO3 : Sat C (fun i=>ρ (hsO.getD i 0)) (withL (sx x0) (w.heap.size + 1) w.heap.size (recOf q0 none)) a ((w.alloc (.deferred (some []))).alloc (.loop q0)):=hO2.rowsEq _ (withL_rows hlt0 (w.heap.size + 1) w.heap.size q0).1
 have hS1:=(hS.below (Chg.alloc _ w (.deferred (some [])))).below (Chg.alloc _ (w.alloc (.deferred (some []))) (.loop q0))
 generalize hw1 : (w.alloc (.deferred (some []))).alloc (.loop q0) = w1 at hO3 hS1 hO2
 have hl : C.w0.heap.size ≤ w.heap.size + 1:=Nat.le_trans hS.chg.size (Nat.le_succ _)
 let Y:=ydOf C sx sl n nx fx ps hsh pre prex N enc encV henc psT hsz hpl a (w.heap.size + 1) w.heap.size q0 ⟨rfl,rfl,rfl⟩ hl w1 (fun i x ρ W=>hround i x ρ W _ _ q0)
 have hFS:=hS1.fragAt hpk hfr pi hpi
 have hpn : s'.next = F.next:=by simp only [fragOf,Prod.mk.injEq] at hfr; exact hfr.2.1
 have hph : s'.heap = F.heap:=by simp only [fragOf,Prod.mk.injEq] at hfr; exact hfr.1
 have hρlt : ∀ b,b < F.next → ρ (hs.getD b 0) < w.heap.size:=fun b hb=>hS.lt _ (pick_lt hS hpk b (by rw [hpn]; exact hb))
 have hne : ∀ b',b' < (sx x0).next → ∀ b,b < F.next → ρ (hs.getD b 0) ≠ ρ (hsO.getD b' 0):=by
  intro b' hb' b hb e
  have h1:=pick_look hp hb'
  have h2:=pick_look hpk (b:=b) (by rw [hpn]; exact hb)
  have:=hS.inj _ _ (pick_lt hS hpk b (by rw [hpn]; exact hb)) (pick_lt hS hp b' hb') e
  exact meets_no hmeet _ h1.1 (this ▸ h2.1)
 have hrowO : ∀ q' R,look (withL (sx x0) (w.heap.size + 1) w.heap.size (recOf q0 none)).rows q' = some R → (∃ r2,look st.rows r2 = some R) ∨ ∀ k,R.uses k → w.heap.size ≤ k:=by
  intro q' R h1
  simp only [withL,look_app] at h1
  cases e : look (sx x0).rows q' with
  | some R'=>rw [e] at h1; cases h1; exact .inl (pick_row hp e)
  | none =>
   rw [e] at h1
   simp only [look] at h1
   split at h1
   ·cases h1; exact .inr (fun k hk=>Nat.le_of_eq (objRow_uses.1 hk))
   ·split at h1
    ·cases h1; exact .inr (fun k hk=>by have:=objRow_uses.1 hk; omega)
    ·cases h1
 have hdis : ∀ k,(domS (fun i=>ρ (hsO.getD i 0)) (withL (sx x0) (w.heap.size + 1) w.heap.size (recOf q0 none)) k ∨ (k < C.w0.heap.size ∧ ¬ C.S k)) → ∀ b,b < F.next → ρ (hs.getD b 0) ≠ k:=by
  rintro k ((⟨b',h1,rfl⟩ | ⟨q',R,h1,h2⟩ | ⟨p,h1,h2⟩) | ⟨h1,h2⟩) b hb
  ·exact hne b' h1 b hb
  ·rcases hrowO q' R h1 with ⟨r2,hR⟩ | h
   ·exact ((hS.rows r2 R hR).2.2 k h2).2.1 _ (pick_lt hS hpk b (by rw [hpn]; exact hb))
   ·have:=h k h2; have:=hρlt b hb; omega
  ·exact ((hS.pers p (pick_pers hp h1)).2.2 k h2).2.1 _ (pick_lt hS hpk b (by rw [hpn]; exact hb))
  ·intro e
   obtain ⟨blk,hblk⟩:=told_ok htold hb
   have hrw:=rwAll_ok hrwF hblk
   rw [← hph] at hblk
   obtain ⟨blk0,hb0,hb1⟩:=pick_blk hpk hblk
   rcases (hS.heap _ blk0 hb0).2.2.2 (by rw [← hb1]; exact hrw) with h | h
   ·omega
   ·rw [e] at h; exact h2 h
 have hpO : ∀ p ∈ F.pers,∀ k,p.D k → ¬ touch (fun i=>ρ (hsO.getD i 0)) (withL (sx x0) (w.heap.size + 1) w.heap.size (recOf q0 none)) k:=by
  intro p hpF k hD htk
  have hp3 : k < w.heap.size ∧ (∀ b,b < st.next → ρ b ≠ k) ∧ ∀ r R,look st.rows r = some R → R.own = true → ¬ R.uses k:=by
   rcases askP_mem (n0:=C.w0.heap.size) (S:=C.S) (l:=pi) p hpF with h1 | h1
   ·exact (hS.pers p (getP_mem hpi p h1)).2.2 k hD
   ·exact (hS.pers _ (getP_mem hpi _ h1)).2.2 k hD
  rcases htk with ⟨b,blk,h1,_,h3⟩ | ⟨q',R,h1,h2,h3⟩
  ·exact hp3.2.1 _ (pick_lt hS hp b (hO3.heap b blk h1).1) h3
  ·rcases hrowO q' R h1 with ⟨r2,hR⟩ | h
   ·exact hp3.2.2 r2 R hR h2 h3
   ·have:=h k h3; omega
 have hcalls:=hit (fun i=>ρ (hs.getD i 0)) w1 (w.heap.size + 1) Y
  (fun k=>domS (fun i=>ρ (hsO.getD i 0)) (withL (sx x0) (w.heap.size + 1) w.heap.size (recOf q0 none)) k ∨ (k < C.w0.heap.size ∧ ¬ C.S k)) (touch (fun i=>ρ (hsO.getD i 0)) (withL (sx x0) (w.heap.size + 1) w.heap.size (recOf q0 none)))
  hFS ⟨x0,_,hpre,hO3.toAs,fun k=>Iff.rfl,fun k=>Iff.rfl⟩ (fun k hk=>⟨hdis k hk,fun r R hR=>by
   have : F.rows = []:=List.isEmpty_iff.1 hrw0
   rw [this] at hR; cases hR⟩) hpO
 -- the call
 have hxs : evs st none (rangeCall g (w.heap.size + 1)).args.toList = some [.one (.val (.func (.yield (w.heap.size + 1)) #[] #[]))]:=rfl
 have hinv:=calleeS_sound (cl:=rangeCall g (w.heap.size + 1)) (t:=0) (P:=C.P) hS1.toP (GcOk.none st) hcal hxs (enters hen)
 have hren' : ys1.map (CV.den (fun i=>ρ (hs.getD i 0))) = caps.map (CV.den ρ):=by
  unfold pickSt at hpk
  split at hpk
  case h_2=>cases hpk
  rename_i sl hpp rows _ _ _ _ hrows
  have hRR : RowsRen rs st.W ⟨hs.length,rs.length,rows⟩:=by
   intro r' r R hr hl
   obtain ⟨r2,_,h2,h3⟩:=pickRows_ok hrows r' R hl
   simp only [Nat.sub_zero] at h2
   rw [hr] at h2
   cases h2
   exact h3
  exact (renC_ok (ρ:=ρ) (W:=st.W) (W':=⟨hs.length,rs.length,rows⟩) rfl rfl hRR hren).1
 have hargs : (([.one (.val (.func (.yield (w.heap.size + 1)) #[] #[]))] ++ caps : List CV).map (CV.den ρ)).toArray = #[Value.func (.yield (w.heap.size + 1)) #[] #[]] ++ (ys1.map (CV.den (fun i=>ρ (hs.getD i 0)))).toArray:=by
  rw [hren']
  apply Array.ext'
  simp [CV.den,SV.den]
 rw [hargs,Sem.run_bind] at hinv
 cases hres : (resolve a.eval (rangeCall g (w.heap.size + 1)) 0).run C.P w1 with
 | halt x w2=>rw [hres] at hinv; cases hinv
 | ok d w2 =>
  rw [hres] at hinv
  simp only [Result.andThen_ok] at hinv
  have he : (Instr.enterLoop b.fn a.tmps psT asg body b.roundOf).run C.P w = .ok (w.heap.size + 1,[{ target:=.collected w.heap.size,args:=#[] }]) w1:=by
   rw [hro,hr,hb,← hw1]
   exact run_enterLoop_outer C.f a.tmps psT asg body
  have henter:=stepR_rangeFunc (P:=C.P) (b:=b) (a:=a) (k:=k) (cs:=cs) (w:=w) he hres hinv
  obtain ⟨e,w3,fr,hR,hsteps,hfn,hleave⟩:=hcalls (b.atR { a with defers:=[{ target:=.collected w.heap.size,args:=#[] }] ++ a.defers } (.inRangeFunc (w.heap.size + 1) :: k) :: cs)
  obtain ⟨⟨v,rfl⟩,hos,htp,hout,O',Ow',hJ⟩:=hR
  rw [ha] at hsteps henter
  have sback : Steps C.P (lone (b.atR a (.code (.rangeFunc g psT asg body) :: k)) cs w) (lone (b.atR { a with defers:=[{ target:=.collected w.heap.size,args:=#[] }] } (.endRangeFunc (w.heap.size + 1) :: k)) cs w3):=by
   refine .head henter (Steps.trans hsteps (.one ?_))
   rw [← finish_atR_inRangeFunc (w.heap.size + 1) v]; exact step_leave_returned hleave
  have hw1os : w1.os = C.w0.os ∧ w1.tape = C.w0.tape ∧ w1.output = C.w0.output:=⟨hS1.chg.os,hS1.chg.tape,hS1.chg.output⟩
  have hdone : ∀ (x : ι) (ρ3 : Nat → Nat) (jump : Option Code) ,Sat C ρ3 (withL (sx x) (w.heap.size + 1) w.heap.size (recOf q0 jump)) a (asW C.w0 w3) →
    (∀ q,V C ⟨(jump.map Item.code).toList ++ k,leftSt (sx x) (w.heap.size + 1) w.heap.size q⟩) → ∃ e w',C.R e w' ∧ Fin C (lone (b.atR a (.code (.rangeFunc g psT asg body) :: k)) cs w) cs e w':=by
   intro x ρ3 jump hS3 hV
   have hw3:=objAt (hsh.keys x) hS3
   have hbusy : (recOf q0 jump).state ≠ .busy:=by
    cases jump with
    | none=>intro h; cases h
    | some _=>intro h; cases h
   have hendL:=run_endLoop (P:=C.P) hw3 hbusy
   have hS4 : Sat C ρ3 (withL (sx x) (w.heap.size + 1) w.heap.size (recOf q0 jump)) a w3:=hS3.move (fun _ _=>rfl) hS3.chg.size (hos.trans hw1os.1) (htp.trans hw1os.2.1) (hout.trans hw1os.2.2)
   have hS5:=Sat.putL (fx:=(sx x).fx) (keysLt_ok (hsh.keys x)) hS4 { recOf q0 jump with state:=.exhausted }
   have hS6:=hS5.setDefs [{ target:=.collected w.heap.size,args:=#[] }]
   obtain ⟨e,w',h1,h2⟩:=hV _ ρ3 _ _ hS6 b hb hk hro cs hcs
   exact ⟨e,w',h1,h2.of_steps (Steps.trans sback (.one (stepR_endRangeFunc hendL)))⟩
  rcases hJ with ⟨x,ρ3,h1,h2,_⟩ | ⟨cd,x,ρ3,h1,h2,_⟩
  ·exact hdone x ρ3 none h2 (fun q=>hend x _ _ q h1)
  ·exact hdone x ρ3 (some cd) h2 (fun q=>hjump cd x _ _ q h1)
end
end Go.SX
end
section
namespace Go.SX
open Go
section
variable {C : Ctx}
theorem V.nilB {α : Type} (f : α → List SV) (d : α) (b j : Nat) (blk : Blk) (e : TypeId) (sz : Nat) {c : Cfg} (hb : look c.st.heap b = some blk) (hj : blk.cells[j]? = some (.val (.slice none 0 0)))
  (h : V C ⟨c.todo,{ c.st with heap:=upd c.st.heap b { blk with cells:=blk.cells.set j (.row c.st.nr none 0 0) },rows:=(c.st.nr,rowL f d [] none 0 e sz true) :: c.st.rows,nr:=c.st.nr + 1 }⟩) : V C c:=by
 intro ρ a w hS
 have h1:=hS.nilRow e sz (fun i=>f (([] : List α).getD i d))
 refine h ρ a w ⟨h1.n,h1.slots,h1.grds,?_,h1.inj,h1.lt,h1.defers,h1.chg,h1.rows,h1.rowsD,h1.pers,h1.fix⟩
 intro b' blk' hb'
 simp only [look_upd] at hb'
 by_cases e' : b = b'
 ·subst e'
  rw [if_pos rfl] at hb'
  cases hb'
  obtain ⟨k1,k2,k3,k4⟩:=h1.heap b blk hb
  refine ⟨k1,?_,?_,k4⟩
  ·rw [k2]
   have : (blk.cells.set j (.row c.st.nr none 0 0)).map (SV.den ρ) = blk.cells.map (SV.den ρ):=by
    rw [List.map_set]
    apply List.ext_getElem?
    intro i
    rw [List.getElem?_set]
    split
    ·rename_i e1
     subst e1
     split
     ·rw [List.getElem?_map,hj]; rfl
     ·rename_i hlt
      rw [List.getElem?_eq_none (by omega)]
    ·rfl
   rw [this]
  ·intro x hx
   rcases List.mem_or_eq_of_mem_set hx with hx | rfl
   ·exact k3 x hx
   ·refine ⟨Nat.lt_succ_self _,fun R hR=>?_⟩
    simp only [St.W,look,Nat.beq_refl] at hR
    cases hR
    exact ⟨rfl,rfl,rfl⟩
 ·rw [if_neg e'] at hb'
  exact h1.heap b' blk' hb'
end
def isRf (c : Cfg) : Bool:=match c.todo with
 | .code (.rangeFunc _ _ _ _) :: _=>true
 | _=>false
def rfG (c : Cfg) : Operand:=match c.todo with
 | .code (.rangeFunc g _ _ _) :: _=>g
 | _=>.tmp 0
def rfPs (c : Cfg) : Array Tmp:=match c.todo with
 | .code (.rangeFunc _ ps _ _) :: _=>ps
 | _=>#[]
def rfAsg (c : Cfg) : Code:=match c.todo with
 | .code (.rangeFunc _ _ asg _) :: _=>asg
 | _=>.ret
def rfBody (c : Cfg) : Code:=match c.todo with
 | .code (.rangeFunc _ _ _ body) :: _=>body
 | _=>.ret
def rfK (c : Cfg) : List Item:=match c.todo with
 | .code (.rangeFunc _ _ _ _) :: k=>k
 | _=>[]
section
variable {C : Ctx}
theorem V.rangeFc {ι : Type} (sx : ι → St) {sl : List (Nat × RV)} {n nx fx : Nat} {ps : List Pers} (hsh : Shape sx sl n nx fx ps) (pre : Nat → ι → Prop) (prex : Code → ι → Prop) {N : Nat} (enc : Nat → List CV) {encV : Nat → Array Value}
  (henc : ∀ i ρ,((enc i).map (CV.den ρ)).toArray = encV i) (x0 : ι) (ks : List Nat) (pm : List Bool) (pi : List (Nat × Bool)) {c : Cfg} {gf : FuncId} {ys : List CV} {F : St} (hit : Iter C.P gf ys F N encV)
  (ht : (isRf c && (C.round.isNone && entersB C.P gf)) = true) (hp : headK ks pm c = some (sx x0)) (hpre : pre 0 x0)
  (hF : iterOf c (rfG c) = some (gf,ys,fragOf F)) (hFs : (apart ks c (rfG c) && (F.rows.isEmpty && (rwAll F.heap && told F.next F.heap))) = true) (hpi : getP pi c.st.pers = some (askP C.w0.heap.size C.S pi F.pers))
  (hsz : ∀ i,Nat.beq (enc i).length (rfPs c).size = true) (hpl : ∀ i,psOk n ((rfPs c).toList.zip (enc i)) = true)
  (hround : ∀ i x ρ W l r q,i < N → pre i x → V ⟨C.P,C.f,RoundR sx pre prex l r q i (withL (sx x) l r (recOf q none)) ρ W,touch ρ (withL (sx x) l r (recOf q none)),W,ρ,some l⟩
   ⟨[.code (rfAsg c),.beginRound,.code (rfBody c)],roundSt (withL (sx x) l r (recOf q none)) ((rfPs c).toList.zip (enc i))⟩)
  (hend : ∀ x l r q,pre N x → V C ⟨rfK c,leftSt (sx x) l r q⟩) (hjump : ∀ cd x l r q,prex cd x → V C ⟨.code cd :: rfK c,leftSt (sx x) l r q⟩) : V C c:=by
 obtain ⟨ht1,ht2,ht3⟩:=and3 ht
 have hr : C.round = none:=by simpa using ht2
 obtain ⟨todo,st⟩:=c
 unfold isRf at ht1
 split at ht1
 ·rename_i g ps asg body k he
  simp only at he
  subst he
  exact V.rangeF sx hsh pre prex enc henc x0 ks pm pi rfl hr hp hpre hit ht3 hF hFs hpi (fun i=>(beq_iff _ _).1 (hsz i)) hpl hround hend hjump
 ·cases ht1
end
def isBr (c : Cfg) : Bool:=match c.todo with
 | .beginRound :: _=>true
 | _=>false
def dropT (c : Cfg) : List Item:=match c.todo with
 | _ :: k=>k
 | []=>[]
theorem V.begin {C : Ctx} (i l : Nat) (q : Loop) {c : Cfg} (ht : isBr c = true) (hr : C.round = some l) (hi : look c.st.rows i = some (objL l q)) (hq : q.state = .ready)
  (h : V C ⟨dropT c,c.st.setObj i l (.loop { q with state:=.busy })⟩) : V C c:=by
 obtain ⟨todo,st⟩:=c
 unfold isBr at ht
 split at ht
 ·rename_i k he
  simp only at he
  subst he
  exact V.beginRound i l q rfl hr hi hq h
 ·cases ht
theorem V.slotAs {C : Ctx} (t : Nat) (u u' : CV) {c : Cfg} (hl : look c.st.slots t = some (.v u)) (hg : (!hasNat c.st.gs t && plainC u') = true) (hd : ∀ ρ,u'.den ρ = u.den ρ) (h : V C ⟨c.todo,{ c.st with slots:=upd c.st.slots t (.v u') }⟩) : V C c:=by
 intro ρ a w hS
 rw [Bool.and_eq_true] at hg
 have hg1 : hasNat c.st.gs t = false:=by simpa using hg.1
 refine h ρ a w ⟨hS.n,?_,?_,hS.heap,hS.inj,hS.lt,hS.defers,hS.chg,hS.rows,hS.rowsD,hS.pers,hS.fix⟩
 ·intro j v hv
  simp only [look_upd] at hv
  by_cases e : t = j
  ·rw [if_pos e] at hv
   cases hv
   subst e
   refine ⟨?_,plainC_wf hg.2 _⟩
   rw [(hS.slots t _ hl).1]
   show some (u.den ρ) = some (u'.den ρ)
   rw [hd]
  ·rw [if_neg e] at hv
   exact hS.slots j v hv
 ·intro j g pol b x hv
  simp only [look_upd] at hv ⊢
  by_cases e : t = j
  ·rw [if_pos e] at hv; cases hv
  ·rw [if_neg e] at hv
   obtain ⟨k1,k2⟩:=hS.grds j g pol b x hv
   refine ⟨k1,?_⟩
   rw [if_neg (fun e2=>by rw [← e2,hg1] at k1; cases k1)]
   exact k2
def strS (l : List UInt8) : List SV:=[.str l]
end Go.SX
end
section
namespace Go.SX
open Go
def condC (c : Cfg) : Option (Nat × Bool) :=
 match condOf c with
 | some x=>some x
 | none=>match c.todo with
  | .inRegion ops (i :: _) :: _=>match ops[i]? with
   | some o=>match o.guard with
    | some (j,_)=>match (ops[j]?).bind (·.dst) with
     | some t=>match look c.st.slots t with
      | some (.grd g _ _ _)=>match look c.st.slots g with
       | some (.v (.one (.sb b)))=>some (g,b)
       | _=>none
      | _=>none
     | none=>none
    | none=>none
   | none=>none
  | _=>none
theorem condC_look {c : Cfg} {g : Nat} {b : Bool} (h : condC c = some (g,b)) : look c.st.slots g = some (.v (.one (.sb b))):=by
 unfold condC at h
 split at h
 ·rename_i x hx
  cases h
  exact condOf_look hx
 ·split at h
  ·split at h
   ·split at h
    ·split at h
     ·split at h
      ·split at h
       ·rename_i hl
        cases h
        exact hl
       ·cases h
      ·cases h
     ·cases h
    ·cases h
   ·cases h
  ·cases h
def runC (P : Program) (T : List (Ent P)) : Nat → Cfg → Cfg × List Prop
 | 0,c=>(c,[])
 | n + 1,c=>match runT P T 1000 c with
  | (c1,ob)=>match condC c1 with
   | some (g,b)=>match b with
    | true=>match runC P T n (c1.know g true) with
     | (c2,ob2)=>(c2,ob ++ ob2)
    | false=>match runC P T n (c1.know g false) with
     | (c2,ob2)=>(c2,ob ++ ob2)
   | none=>match isLoop c1 with
    | true=>match runC P T n (iter c1) with
     | (c2,ob2)=>(c2,ob ++ ob2)
    | false=>(c1,ob)
section
variable {C : Ctx}
theorem runC_sound {T : List (Ent C.P)} : ∀ (n : Nat) (c : Cfg),(∀ p ∈ (runC C.P T n c).2,p) → (∀ e ∈ T,∀ q ∈ e.sp.need,q ∈ c.st.pers) → V C (runC C.P T n c).1 → V C c
 | 0,c,_,_,h=>h
 | n + 1,c,hob,hn,h=>by
  unfold runC at hob h
  have hpp:=runT_pers (P:=C.P) (T:=T) 1000 c
  have hrs:=runT_sound (C:=C) (T:=T) 1000 c
  generalize SX.runT C.P T 1000 c = r at hob h hpp hrs
  obtain ⟨c1,ob⟩:=r
  simp only at hob h hpp hrs
  have hn' : ∀ e ∈ T,∀ q ∈ e.sp.need,q ∈ c1.st.pers:=fun e he q hq=>by rw [hpp]; exact hn e he q hq
  split at hob
  ·rename_i g b hc
   rw [hc] at h
   cases b with
   | true =>
    simp only at hob h
    exact hrs (fun p hp=>hob p (List.mem_append_left _ hp)) hn (V.known g true true (condC_look hc) rfl (runC_sound n _ (fun p hp=>hob p (List.mem_append_right _ hp)) hn' h))
   | false =>
    simp only at hob h
    exact hrs (fun p hp=>hob p (List.mem_append_left _ hp)) hn (V.known g false false (condC_look hc) rfl (runC_sound n _ (fun p hp=>hob p (List.mem_append_right _ hp)) hn' h))
  ·rename_i hc
   rw [hc] at h
   simp only at h
   split at hob
   ·rename_i hl
    rw [hl] at h
    simp only at hob h
    exact hrs (fun p hp=>hob p (List.mem_append_left _ hp)) hn (V.iter (runC_sound n _ (fun p hp=>hob p (List.mem_append_right _ hp)) (fun e he q hq=>by rw [iter_st]; exact hn' e he q hq) h))
   ·rename_i hl
    rw [hl] at h
    simp only at hob h
    exact hrs hob hn h
theorem V.runC (T : List (Ent C.P)) (n : Nat) (ob : List Prop) {c : Cfg} (hr : (SX.runC C.P T n c).2 = ob) (hn : needT T c.st.pers = wantT T) (ho : allP ob) (h : V C (SX.runC C.P T n c).1) : V C c :=
 runC_sound n c (hr ▸ allP_mem ho) (needT_ok hn) h
end
end Go.SX
end
section
namespace Go.SX
open Go
def dOps (c : Cfg) : Array Oper:=match drawOf c with
 | some (ops,_)=>ops
 | none=>#[]
def dK (c : Cfg) : List Item:=match drawOf c with
 | some (_,k)=>k
 | none=>[]
def VX (C : Ctx) (T TR : List Nat) (L : Nat) (c0 : Cfg) (d : DCfg) : Prop :=
 ∀ D : Held,D.ok → D.h0 = heldOf T c0.st.heap → D.n0 = c0.st.next → D.r0 = heldOf TR c0.st.rows → D.L = L → D.nr0 = c0.st.nr → D.w0 = c0.st.rows → (LastOp (dOps c0) L ∨ (dOps c0).size ≤ L) → Region.noSelect (dOps c0) = true →
  (∀ b ∈ T,b < c0.st.next → D.TS (D.ρ0 b)) → (∀ r ∈ TR,∀ R,look c0.st.rows r = some R → ∀ k,R.uses k → D.TS k) → (∀ q Q,look c0.st.rows q = some Q → q < c0.st.nr) →
  (1000000007 ∈ TR → (∀ k,C.w0.heap.size ≤ k → D.TS k) ∧ ∀ k,C.S k → (∃ b,b < D.n0 ∧ D.ρ0 b = k) ∨ ∃ r R,look D.w0 r = some R ∧ R.own = true ∧ R.uses k) → D.rows d.st → VD C D (dOps c0) (dK c0) d
def headX (c : Cfg) : DCfg:=⟨(dOps c).size,Array.replicate (dOps c).size false,c.st⟩
def ownAt (rows : List (Nat × Row)) : List Nat → Bool
 | []=>true
 | r :: l=>match look rows r with
  | some R=>match R.own with
   | true=>ownAt rows l
   | false=>false
  | none=>ownAt rows l
theorem ownAt_ok {rows : List (Nat × Row)} : ∀ {l : List Nat},ownAt rows l = true → ∀ r ∈ l,∀ R,look rows r = some R → R.own = true
 | [],_,r,hr,_,_=>by simp at hr
 | q :: l,h,r,hr,R,hR=>by
  simp only [ownAt] at h
  split at h
  ·rename_i Q hQ
   split at h
   ·rename_i ho
    rcases List.mem_cons.1 hr with rfl | hr
    ·rw [hQ] at hR; cases hR; exact ho
    ·exact ownAt_ok h r hr R hR
   ·cases h
  ·rename_i hQ
   rcases List.mem_cons.1 hr with rfl | hr
   ·rw [hQ] at hR; cases hR
   ·exact ownAt_ok h r hr R hR
def isDraw (P : Program) (L : Nat) (c : Cfg) : Bool :=
 match drawOf c with
 | some (ops,_)=>P.follows .mixedOrders && (Region.noSelect ops && (lastB ops L || Nat.ble ops.size L))
 | none=>false
def loopX (P : Program) (T : List (Ent P)) (ops : Array Oper) (h0 : List (Nat × Blk)) (r0 : List (Nat × Row)) : Nat → DCfg → DCfg × List Prop
 | 0,d=>(d,[])
 | m + 1,d=>match Region.ready .any ops d.listed,d.fuel with
  | [i],n + 1=>match callD ops i d.st,ops[i]? with
   | some (none,f,xs),some o=>match callT T d.st.next f xs with
    | some (v,ob)=>match d.st.put o.dst v with
     | some s'=>match runDM P ops h0 r0 ops.size ⟨n,d.listed.setIfInBounds i true,s'⟩ with
      | (d',ob')=>match loopX P T ops h0 r0 m d' with
       | (d2,ob2)=>(d2,ob ++ (ob' ++ ob2))
     | none=>(d,[])
    | none=>(d,[])
   | _,_=>(d,[])
  | _,_=>(d,[])
def runX (P : Program) (E : List (Ent P)) (T TR : List Nat) (c0 : Cfg) (d : DCfg) : DCfg × List Prop :=
 match runDM P (dOps c0) (heldOf T c0.st.heap) (heldOf TR c0.st.rows) (dOps c0).size d with
 | (d1,ob1)=>match loopX P E (dOps c0) (heldOf T c0.st.heap) (heldOf TR c0.st.rows) 50 d1 with
  | (d2,ob2)=>(d2,ob1 ++ ob2)
def oneX (c0 : Cfg) (d : DCfg) : Option (Nat × Oper) :=
 match Region.ready .any (dOps c0) d.listed,d.fuel with
 | [i],_ + 1=>match (dOps c0)[i]? with
  | some o=>some (i,o)
  | none=>none
 | _,_=>none
theorem oneX_ok {c0 : Cfg} {d : DCfg} {i : Nat} {o : Oper} (h : oneX c0 d = some (i,o)) : Region.ready .any (dOps c0) d.listed = [i] ∧ (∃ n,d.fuel = n + 1) ∧ (dOps c0)[i]? = some o:=by
 unfold oneX at h
 split at h
 ·rename_i hr hf
  split at h
  ·rename_i ho
   simp only [Option.some.injEq,Prod.mk.injEq] at h
   obtain ⟨rfl,rfl⟩:=h
   exact ⟨hr,⟨_,hf⟩,ho⟩
  ·cases h
 ·cases h
def appX (P : Program) (c0 : Cfg) (d : DCfg) : Option App :=
 match oneX c0 d with
 | some (_,o)=>match grdOf d.st (dOps c0) o.guard,callAt o with
  | .yes,some cl=>appS P d.st cl
  | _,_=>none
 | none=>none
def pushD (c0 : Cfg) (d : DCfg) (r : Nat) (R : Row) : Option DCfg :=
 match oneX c0 d with
 | some (i,o)=>match (d.st.rowTo r R).put o.dst (.v (.one (.row d.st.nr R.s R.n R.cap))) with
  | some s'=>some ⟨d.fuel - 1,d.listed.setIfInBounds i true,s'⟩
  | none=>none
 | none=>none
def pushX (c0 : Cfg) (d : DCfg) (r : Nat) (R : Row) : DCfg:=(pushD c0 d r R).getD d
def atX (c0 : Cfg) (d : DCfg) : Cfg:=⟨[.inRegion (dOps c0) (Region.ready .any (dOps c0) d.listed)],d.st⟩
def rwIn (n : Nat) (T hs : List Nat) : List (Nat × Blk) → Bool
 | []=>true
 | (b,blk) :: l=>match blk.rw with
  | true=>match hasNat T (hs.getD b 0),Nat.blt (hs.getD b 0) n with
   | true,true=>rwIn n T hs l
   | _,_=>false
  | false=>rwIn n T hs l
theorem rwIn_ok {n : Nat} {T hs : List Nat} : ∀ {l : List (Nat × Blk)} {b : Nat} {blk : Blk},rwIn n T hs l = true → look l b = some blk → blk.rw = true → hs.getD b 0 ∈ T ∧ hs.getD b 0 < n
 | (q,x) :: l,b,blk,h,hl,hw=>by
  simp only [rwIn] at h
  simp only [look] at hl
  split at hl
  ·rename_i e
   have:=(beq_iff _ _).1 e
   subst this
   cases hl
   rw [hw] at h
   simp only at h
   split at h
   ·rename_i h1 h2; exact ⟨(hasNat_mem _ _).1 h1,blt_lt h2⟩
   ·cases h
  ·split at h
   ·split at h
    ·exact rwIn_ok h hl hw
    ·cases h
   ·exact rwIn_ok h hl hw
def callX (n0 : Nat) (S : Nat → Prop) (c0 : Cfg) (d : DCfg) (F' : St) (v : RV) : DCfg :=
 match oneX c0 d with
 | some (i,_)=>⟨d.fuel - 1,d.listed.setIfInBounds i true,(behindK n0 S (atX c0 d) F' v).st⟩
 | none=>d
theorem look_eraseK_ne {α : Type} {r q : Nat} (h : q ≠ r) : ∀ (l : List (Nat × α)),look (eraseK r l) q = look l q
 | []=>rfl
 | (j,u) :: l=>by
  simp only [eraseK]
  cases hb : Nat.beq j r with
  | true =>
   simp only [look]
   have hj:=(beq_iff _ _).1 hb
   have : Nat.beq j q = false:=by
    cases e : Nat.beq j q with
    | true=>have:=(beq_iff _ _).1 e; omega
    | false=>rfl
   rw [this]
   exact look_eraseK_ne h l
  | false =>
   simp only [look]
   split
   ·rfl
   ·exact look_eraseK_ne h l
theorem eraseAll_nil {α : Type} : ∀ (l : List (Nat × α)),eraseAll [] l = l
 | []=>rfl
 | (k,v) :: l=>by simp only [eraseAll,hasNat,eraseAll_nil l]
theorem look_bringRows_old {nr : Nat} {rows : List (Nat × Row)} {q : Nat} (hq : q < nr) : ∀ (l : List (Nat × Row)),look (bringRows nr rows l) q = look rows q
 | []=>rfl
 | (r,R) :: l=>by
  simp only [bringRows,look]
  have : Nat.beq (nr + r) q = false:=by
   cases e : Nat.beq (nr + r) q with
   | true=>have:=(beq_iff _ _).1 e; omega
   | false=>rfl
  rw [this]
  exact look_bringRows_old hq l
section
variable {C : Ctx} {T TR : List Nat} {L : Nat} {c0 : Cfg} {d : DCfg}
theorem V.drawX (T TR : List Nat) (L : Nat) {c : Cfg} (hc : (isDraw C.P L c && (ownAt c.st.rows TR && !hasNat TR 1000000007)) = true) (h : VX C T TR L c (headX c)) : V C c:=by
 rw [Bool.and_eq_true] at hc
 obtain ⟨hc,hown⟩:=hc
 rw [Bool.and_eq_true] at hown
 obtain ⟨hown,hsen⟩:=hown
 have hsen : 1000000007 ∉ TR:=fun h=>by rw [(hasNat_mem _ _).2 h] at hsen; cases hsen
 intro ρ a w hS
 have hlt : ∀ q Q,look c.st.rows q = some Q → q < c.st.nr:=fun q Q h=>(hS.rows q Q h).1
 revert ρ a w
 unfold isDraw at hc
 split at hc
 case h_2=>cases hc
 rename_i ops k hd
 obtain ⟨h1,h2,h3⟩:=and3 hc
 have e1 : dOps c = ops:=by unfold dOps; rw [hd]
 have e2 : dK c = k:=by unfold dK; rw [hd]
 have hL : LastOp ops L ∨ ops.size ≤ L:=by
  rw [Bool.or_eq_true] at h3
  rcases h3 with h | h
  ·exact .inl (lastB_ok h)
  ·exact .inr (Nat.le_of_ble_eq_true h)
 refine V.draw T TR L ops k hd h1 (fun D hD a1 a2 a3 a4 a5 hrw aT aTR=>?_) (ownAt_ok hown)
 have:=h D hD a1 a2 a3 a4 a5.1 a5.2 (by rw [e1]; exact hL) (by rw [e1]; exact h2) aT aTR hlt (fun h=>absurd h hsen) hrw
 unfold headX at this
 rw [e1,e2] at this
 exact this
theorem loopX_sound {E : List (Ent C.P)} {D : Held} {ops : Array Oper} {k : List Item} (hD : D.ok) (hL : LastOp ops D.L ∨ ops.size ≤ D.L) (hsel : Region.noSelect ops = true) :
  ∀ (m : Nat) (d : DCfg),(∀ p ∈ (loopX C.P E ops D.h0 D.r0 m d).2,p) → (∀ e ∈ E,∀ q ∈ e.sp.need,q ∈ d.st.pers) → D.rows d.st →
   (D.rows (loopX C.P E ops D.h0 D.r0 m d).1.st → VD C D ops k (loopX C.P E ops D.h0 D.r0 m d).1) → VD C D ops k d
 | 0,d,_,_,hrw,h=>h hrw
 | m + 1,d,hob,hn,hrw,h=>by
  unfold loopX at hob h
  split at hob
  case h_2=>exact (by
   rename_i hno
   split at h
   ·rename_i i n hr hf; exact absurd hf (hno i n hr)
   ·exact h hrw)
  rename_i i n hr hf
  rw [hr,hf] at h
  simp only at h
  split at hob
  case h_2=>exact (by
   rename_i hno
   split at h
   ·rename_i f xs o hc ho; exact absurd ho (hno f xs o hc)
   ·exact h hrw)
  rename_i f xs o hc ho
  rw [hc,ho] at h
  simp only at h
  split at hob
  case h_2=>exact (by
   rename_i hct; rw [hct] at h; exact h hrw)
  rename_i v ob1 hct
  rw [hct] at h
  simp only at h
  split at hob
  case h_2=>exact (by
   rename_i hput; rw [hput] at h; exact h hrw)
  rename_i s' hput
  rw [hput] at h
  simp only at h hob
  have hp1:=runDM_pers (P:=C.P) (ops:=ops) (h0:=D.h0) (r0:=D.r0) ops.size ⟨n,d.listed.setIfInBounds i true,s'⟩
  obtain ⟨b1,b2,b3⟩:=callT_ok (C:=C) hct (fun p hp=>hob p (List.mem_append_left _ hp)) hn
  obtain ⟨w1,w2⟩:=wfR_ok (W:=d.st.W) b2 rfl
  refine VD.call i f xs v hr hf ho hc (enters b1) hput w1 w2 b3 ?_
  have hW:=put_W hput
  have hrw2 : D.rows s':=⟨fun r R hR=>by rw [show s'.rows = d.st.rows from congrArg WF.rows hW]; exact hrw.1 r R hR,by rw [hW]; exact hrw.2⟩
  refine VD.runM hD hL hsel ops.size _ (fun p hp=>hob p (List.mem_append_right _ (List.mem_append_left _ hp))) hrw2 (fun hrw3=>?_)
  refine loopX_sound hD hL hsel m _ (fun p hp=>hob p (List.mem_append_right _ (List.mem_append_right _ hp))) (fun e he q hq=>?_) hrw3 h
  rw [hp1,put_pers hput]
  exact hn e he q hq
theorem VX.run (E : List (Ent C.P)) (ob : List Prop) (hr : (SX.runX C.P E T TR c0 d).2 = ob) (hn : needT E d.st.pers = wantT E) (ho : allP ob) (h : VX C T TR L c0 (SX.runX C.P E T TR c0 d).1) : VX C T TR L c0 d:=by
 intro D hD a1 a2 a3 a4 a5 a6 hL hsel aT aTR hlt aN hrw
 have hob:=hr ▸ allP_mem ho
 unfold SX.runX at hob h
 rw [← a1,← a3] at hob h
 have hp1:=runDM_pers (P:=C.P) (ops:=dOps c0) (h0:=D.h0) (r0:=D.r0) (dOps c0).size d
 refine VD.runM hD (by rw [a4]; exact hL) hsel (dOps c0).size d (fun p hp=>hob p (List.mem_append_left _ hp)) hrw (fun hrw1=>?_)
 refine loopX_sound hD (by rw [a4]; exact hL) hsel 50 _ (fun p hp=>hob p (List.mem_append_right _ hp)) (fun e he q hq=>?_) hrw1 (fun hrw2=>?_)
 ·rw [hp1]; exact needT_ok hn e he q hq
 ·exact h D hD a1 a2 a3 a4 a5 a6 hL hsel aT aTR hlt aN hrw2
theorem VX.fin (s1 : St) (hs : endD C.P (dOps c0) L d = some s1) (h : V C ⟨dK c0,s1⟩) : VX C T TR L c0 d :=
 fun _ _ _ _ _ a4 _ _ _ _ _ _ _ _ _=>VD.fin (by rw [a4]; exact hs) h
theorem VX.stop (hs : (endD C.P (dOps c0) L d).isSome = true) (h : V C ⟨dK c0,(endD C.P (dOps c0) L d).getD d.st⟩) : VX C T TR L c0 d:=by
 obtain ⟨s1,h1⟩:=Option.isSome_iff_exists.1 hs
 rw [h1] at h
 exact VX.fin s1 h1 h
theorem VX.callK {α : Type} {f : FuncId} {ys : List CV} {F : St} {p : α → Prop} {v : α → RV} {F' : α → St} (pi : List (Nat × Bool)) (hk : CallsK C.P f ys F p v F')
  (hb : (entersB C.P f && ((oneX c0 d).isSome && (F.rows.isEmpty && rwIn c0.st.next T (hsrs (atX c0 d)).1 F.heap))) = true) (hc : frameOf (atX c0 d) = some (f,ys,fragOf F)) (hpi : getP pi d.st.pers = some (askP C.w0.heap.size C.S pi F.pers))
  (hu : ∀ x,okK (atX c0 d) (F' x) (v x) = true) (k : ∀ x,p x → VX C T TR L c0 (callX C.w0.heap.size C.S c0 d (F' x) (v x))) : VX C T TR L c0 d:=by
 intro D hD a1 a2 a3 a4 a5 a6 hL hsel aT aTR hlt aN hrw ρ a w hS hρ hn0 hch hcl hsz
 simp only [Bool.and_eq_true] at hb
 obtain ⟨hent,hone,hFr,hrwT⟩:=hb
 obtain ⟨⟨i,o⟩,hone⟩:=Option.isSome_iff_exists.1 hone
 obtain ⟨hready,⟨n,hf⟩,ho⟩:=oneX_ok hone
 have hFr : F.rows = []:=List.isEmpty_iff.1 hFr
 have hat : atX c0 d = ⟨[.inRegion (dOps c0) [i]],d.st⟩:=by unfold atX; rw [hready]
 rw [hat] at hc hrwT hu
 unfold frameOf at hc
 split at hc
 case h_2=>cases hc
 rename_i f1 xs hcall
 split at hc
 rename_i hs rs hcan
 split at hc
 case h_2=>cases hc
 rename_i ys1 s' hren hpk
 simp only [Option.some.injEq,Prod.mk.injEq] at hc
 obtain ⟨rfl,rfl,hfr⟩:=hc
 have hh : hsrs ⟨[.inRegion (dOps c0) [i]],d.st⟩ = (hs,rs):=by unfold hsrs; rw [hcall]; exact hcan
 rw [hh] at hrwT
 have hpk' : pickSt [] hs rs [] d.st = some s':=hpk
 have hFS:=hS.fragAt hpk' hfr pi hpi
 have hrs : rs = []:=by
  have h1 : s'.rows = F.rows:=by simp only [fragOf,Prod.mk.injEq] at hfr; exact hfr.2.2.1
  have h2 : s'.nr = rs.length:=by
   unfold pickSt at hpk'
   split at hpk'
   case h_2=>cases hpk'
   rw [← Option.some.inj hpk']
  cases rs with
  | nil=>rfl
  | cons r0 rs' =>
   exfalso
   unfold pickSt at hpk'
   split at hpk'
   case h_2=>cases hpk'
   rename_i _ _ rows _ _ _ _ hrows
   have h3:=Option.some.inj hpk'
   rw [← h3,hFr] at h1
   have h4 : rows = []:=h1
   simp only [pickRows] at hrows
   split at hrows
   ·split at hrows
    ·rename_i R _ q hq
     simp only [Option.some.injEq] at hrows
     rw [h4] at hrows; cases hrows
    ·cases hrows
   ·cases hrows
 subst hrs
 have hys : xs.map (CV.den ρ) = ys1.map (CV.den (fun i=>ρ (hs.getD i 0))):=by
  have hpk2:=hpk'
  unfold pickSt at hpk2
  split at hpk2
  case h_2=>cases hpk2
  rename_i sl hpp rows _ _ _ _ hrows
  have hRR : RowsRen [] d.st.W ⟨hs.length,([] : List Nat).length,rows⟩:=by
   intro r' r R hr hl
   obtain ⟨r2,_,h2,h3⟩:=pickRows_ok hrows r' R hl
   simp only [Nat.sub_zero] at h2
   rw [hr] at h2
   cases h2
   exact h3
  exact ((renC_ok (ρ:=ρ) (W:=d.st.W) (W':=⟨hs.length,([] : List Nat).length,rows⟩) rfl rfl hRR hren).1).symm
 have hi : i ∈ Region.ready .any (dOps c0) d.listed:=by rw [hready]; simp
 rw [hf]
 refine wpAnyE_all hready (by simp) (fun j hj=>?_)
 have : j = i:=by simpa using hj
 subst this
 unfold callOf at hcall
 simp only [ho] at hcall
 split at hcall
 case h_2=>cases hcall
 rename_i cl hop
 split at hcall
 case h_3=>cases hcall
 case h_2=>split at hcall <;> cases hcall
 rename_i hg
 split at hcall
 case h_2=>cases hcall
 rename_i f' caps zs h1 h2
 simp only [Option.some.injEq,Prod.mk.injEq,true_and] at hcall
 obtain ⟨rfl,rfl⟩:=hcall
 have hrun:=calleeS_sound (t:=o.type) hS.toP (GcOk.none d.st) h1 h2 (enters hent)
 unfold wpOp
 simp only [ho,grd_yes hS hg,if_true]
 refine .inl ?_
 unfold Oper.wp execOp
 rw [hop]
 simp only
 rw [hrun,hys]
 refine (hk _ w hFS).mono ?_
 rintro e w2 ⟨x,ρ',hp,rfl,k1,k2,k3,k4,k5,k6,k7,k8,k9,k10⟩
 have hux:=hu x
 unfold okK at hux
 rw [hh] at hux
 obtain ⟨u1,u2,u3⟩:=and3 hux
 have hfr' : (pickSt [] hs [] [] d.st).map fragOf = some (fragOf F):=by rw [hpk']; exact congrArg some hfr
 obtain ⟨ρ1,b1,b2,b3,b4⟩:=hS.bringK1 (F':=F' x) hfr' u1 k1 k2 k3 k4 k5 k7 k8 k9 k10
 have hc2 : Chg D.TS D.ws w2:=hch.trans k7 (fun m hm=>.inr (by
  rcases hm with ⟨b,blk,q1,q2,q3⟩ | ⟨r,R,q1,_⟩
  ·obtain ⟨t1,t2⟩:=rwIn_ok hrwT q1 q2
   have:=aT _ t1 t2
   rw [← hρ _ (by rw [a2]; exact t2)] at this
   rw [← q3]; exact this
  ·rw [hFr] at q1; cases q1))
 have hst : ∃ s2,(d.st.bringK hs [] C.w0.heap.size C.S (F' x)).put o.dst ((v x).bring (newHs hs d.st.next (F' x).next) d.st.nr) = some s2:=by
  have h3:=bringK_put d.st hs [] C.w0.heap.size 0 C.S (fun _=>False) (F' x) o.dst ((v x).bring (newHs hs d.st.next (F' x).next) d.st.nr)
  unfold afterOp at u3
  simp only [ho] at u3
  cases hq : (d.st.bringK hs [] C.w0.heap.size C.S (F' x)).put o.dst ((v x).bring (newHs hs d.st.next (F' x).next) d.st.nr) with
  | some s2=>exact ⟨s2,rfl⟩
  | none =>
   rw [hq] at h3
   cases hq2 : (d.st.bringK hs [] 0 (fun _=>False) (F' x)).put o.dst ((v x).bring (newHs hs d.st.next (F' x).next) d.st.nr) with
   | none=>rw [hq2] at u3; cases u3
   | some s2=>rw [hq2] at h3; cases h3
 obtain ⟨s2,hs2⟩:=hst
 have hcx : callX C.w0.heap.size C.S c0 d (F' x) (v x) = ⟨n,d.listed.setIfInBounds j true,s2⟩:=by
  unfold callX
  rw [hone]
  simp only [hf,Nat.add_sub_cancel]
  unfold behindK
  rw [hat,hh]
  unfold afterD afterOp
  simp only [ho,hs2,Option.getD_some]
 have hden : (v x).den ρ' = ((v x).bring (newHs hs d.st.next (F' x).next) d.st.nr).den ρ1:=by
  rw [RV.bring_den,RV.den_congr (W:=(F' x).W) (ρ:=ρ') b2 _ k6]
 have hng : ∀ g pol b y,(v x).bring (newHs hs d.st.next (F' x).next) d.st.nr ≠ .grd g pol b y:=by
  intro g pol b y e
  cases hvx : v x with
  | grd=>rw [hvx] at u2; cases u2
  | v=>rw [hvx] at e; cases e
  | tup=>rw [hvx] at e; cases e
 have hle : d.st.W.le (d.st.bringK hs [] C.w0.heap.size C.S (F' x)).W:=by
  refine ⟨Nat.le_add_right _ _,Nat.le_add_right _ _,fun q hq R hR=>?_⟩
  have h5 : look (bringRows d.st.nr (eraseAll [] d.st.rows) (F' x).rows) q = some R:=hR
  have hq' : q < d.st.nr:=hq
  rw [look_bringRows_old hq',eraseAll_nil] at h5
  exact h5
 have hW:=put_W hs2
 have hrw2 : D.rows s2:=by
  refine ⟨fun q R hR=>?_,by rw [hW]; exact hrw.2.trans' hle⟩
  rw [show s2.rows = _ from congrArg WF.rows hW]
  have h5:=hrw.1 q R hR
  rw [a3] at hR
  have h6:=hlt q R (look_heldOf' hR).2
  have h7 : q < d.st.nr:=Nat.lt_of_lt_of_le h6 (by rw [← a5]; exact hrw.2.nr)
  show look (bringRows d.st.nr (eraseAll [] d.st.rows) (F' x).rows) q = some R
  rw [look_bringRows_old h7,eraseAll_nil]
  exact h5
 have hkx:=k x hp
 rw [hcx] at hkx
 rw [hden]
 refine ⟨fun _=>hc2,hkx D hD a1 a2 a3 a4 a5 a6 hL hsel aT aTR hlt aN hrw2 ρ1 _ w2 (b1.put hs2 (b3 _ k6) (fun g pol b y e=>absurd e (hng g pol b y))) (fun b hb=>(b4 b (by omega)).trans (hρ b hb)) ?_ hc2 (hcl.set hi) (by simpa using hsz)⟩
 show D.n0 ≤ s2.next
 rw [put_next hs2]
 exact Nat.le_trans hn0 (Nat.le_add_right _ _)
end
end Go.SX
end
section
namespace Go.SX
open Go
def callT1 (P : Program) (E : List (Ent P)) (c0 : Cfg) (d : DCfg) (i : Nat) : Option (DCfg × List Prop) :=
 match callD (dOps c0) i d.st,(dOps c0)[i]? with
 | some (none,f,xs),some o=>match callT E d.st.next f xs with
  | some (v,ob)=>match d.st.put o.dst v with
   | some s'=>some (⟨d.fuel - 1,d.listed.setIfInBounds i true,s'⟩,ob)
   | none=>none
  | none=>none
 | _,_=>none
def memT1 (P : Program) (c0 : Cfg) (d : DCfg) (i : Nat) : Option DCfg :=
 match (dOps c0)[i]? with
 | some o=>match grdOf d.st (dOps c0) o.guard,opMem P d.st none o.op with
  | .yes,some (v,s1)=>match s1.put o.dst v with
   | some s'=>some ⟨d.fuel - 1,d.listed.setIfInBounds i true,s'⟩
   | none=>none
  | _,_=>none
 | none=>none
def callY (P : Program) (E : List (Ent P)) (c0 : Cfg) (d : DCfg) (i : Nat) : DCfg:=((callT1 P E c0 d i).map (·.1)).getD d
def memY (P : Program) (c0 : Cfg) (d : DCfg) (i : Nat) : DCfg:=(memT1 P c0 d i).getD d
section
variable {C : Ctx} {T TR : List Nat} {L : Nat} {c0 : Cfg} {d : DCfg}
theorem VX.two (E : List (Ent C.P)) (ob : List Prop) (i j : Nat) (hr : Region.ready .any (dOps c0) d.listed = [i,j]) (hf : Nat.blt 0 d.fuel = true) (hc : (callT1 C.P E c0 d i).map (·.2) = some ob) (hm : (memT1 C.P c0 d j).isSome = true) (hn : needT E d.st.pers = wantT E) (ho : allP ob)
  (h1 : VX C T TR L c0 (callY C.P E c0 d i)) (h2 : VX C T TR L c0 (memY C.P c0 d j)) : VX C T TR L c0 d:=by
 intro D hD a1 a2 a3 a4 a5 a6 hL hsel aT aTR hlt aN hrw ρ a w hS hρ hn0 hch hcl hsz
 obtain ⟨n,hn'⟩ : ∃ n,d.fuel = n + 1:=⟨d.fuel - 1,by have:=blt_lt hf; omega⟩
 have hready : ∀ m,m ∈ Region.ready .any (dOps c0) d.listed ↔ m = i ∨ m = j:=by intro m; rw [hr]; simp
 rw [hn']
 refine wpAnyE_all hr (by simp) (fun m hm'=>?_)
 rcases List.mem_cons.1 hm' with rfl | hm'
 ·-- the call
  obtain ⟨⟨d1,ob'⟩,hd1,rfl⟩:=Option.map_eq_some_iff.1 hc
  have hY : callY C.P E c0 d m = d1:=by unfold callY; rw [hd1]; rfl
  rw [hY] at h1
  unfold callT1 at hd1
  split at hd1
  case h_2=>cases hd1
  rename_i f xs o hcd hop
  split at hd1
  case h_2=>cases hd1
  rename_i v ob2 hct
  split at hd1
  case h_2=>cases hd1
  rename_i s' hput
  cases hd1
  obtain ⟨b1,b2,b3⟩:=callT_ok (C:=C) hct (allP_mem ho) (needT_ok hn)
  obtain ⟨w1,w2⟩:=wfR_ok (W:=d.st.W) b2 rfl
  have hW:=put_W hput
  have hrw2 : D.rows s':=⟨fun r R hR=>by rw [show s'.rows = d.st.rows from congrArg WF.rows hW]; exact hrw.1 r R hR,by rw [hW]; exact hrw.2⟩
  unfold callD callOf at hcd
  simp only [hop] at hcd
  split at hcd
  case h_2=>cases hcd
  rename_i cl hopc
  split at hcd
  case h_3=>cases hcd
  case h_2=>split at hcd <;> cases hcd
  rename_i hg
  split at hcd
  case h_2=>cases hcd
  rename_i f' caps ys q1 q2
  simp only [Option.some.injEq,Prod.mk.injEq,true_and] at hcd
  obtain ⟨rfl,rfl⟩:=hcd
  have hrun:=calleeS_sound (t:=o.type) hS.toP (GcOk.none d.st) q1 q2 (enters b1)
  unfold wpOp
  simp only [hop,grd_yes hS hg,if_true]
  refine .inl ?_
  unfold Oper.wp execOp
  rw [hopc]
  simp only
  rw [hrun]
  refine (b3 ρ a w hS).mono ?_
  rintro e w2' ⟨rfl,hcw⟩
  have hc2 : Chg D.TS D.ws w2':=hch.trans hcw (fun i hi=>hi.elim)
  have:=h1 D hD a1 a2 a3 a4 a5 a6 hL hsel aT aTR hlt aN hrw2 ρ _ w2' ((hS.below hcw).put hput w1 (fun g pol c x e=>absurd e (w2 g pol c x))) hρ (by show D.n0 ≤ s'.next; rw [put_next hput]; exact hn0) hc2 (hcl.set ((hready m).2 (.inl rfl))) (by simpa using hsz)
  simp only [hn',Nat.add_sub_cancel] at this
  exact ⟨fun _=>hc2,this⟩
 ·-- the new block
  have hmj : m = j:=by simpa using hm'
  subst hmj
  obtain ⟨d2,hd2⟩:=Option.isSome_iff_exists.1 hm
  have hY : memY C.P c0 d m = d2:=by unfold memY; rw [hd2]; rfl
  rw [hY] at h2
  unfold memT1 at hd2
  split at hd2
  case h_2=>cases hd2
  rename_i o hop
  split at hd2
  case h_2=>cases hd2
  rename_i v s1 hg hmem
  split at hd2
  case h_2=>cases hd2
  rename_i s' hput
  cases hd2
  obtain ⟨k1,k2,k3⟩:=opMem_rows hmem
  obtain ⟨ρ',w2,e1,e2,e3,e4,e5,e6,e7⟩:=opMem_sound hS (GcOk.none d.st) o hmem
  have hc2 : Chg D.TS D.ws w2:=hch.trans e7 (fun i hi=>hi.elim)
  have hW:=put_W hput
  have hrw2 : D.rows s':=by
   refine ⟨fun r R hR=>?_,?_⟩
   ·rw [show s'.rows = s1.rows from congrArg WF.rows hW,k1]; exact hrw.1 r R hR
   ·rw [hW]
    exact hrw.2.trans' ⟨k3,Nat.le_of_eq k2.symm,fun r _ R hR=>by
     have hR' : look s1.rows r = some R:=hR
     rw [k1] at hR'; exact hR'⟩
  unfold wpOp
  simp only [hop,grd_yes hS hg,if_true]
  refine .inl ?_
  unfold Oper.wp
  rw [e1]
  have:=h2 D hD a1 a2 a3 a4 a5 a6 hL hsel aT aTR hlt aN hrw2 ρ' _ w2 (e2.put hput e3 (fun g pol c x e=>absurd e (e4 g pol c x))) (fun b hb=>(e5 b (by omega)).trans (hρ b hb)) (by show D.n0 ≤ s'.next; rw [put_next hput]; omega) hc2 (hcl.set ((hready m).2 (.inr rfl))) (by simpa using hsz)
  simp only [hn',Nat.add_sub_cancel] at this
  exact ⟨fun _=>hc2,this⟩
end
end Go.SX
end
section
namespace Go.SX
open Go
end Go.SX
end
section
namespace Go.SX
open Go
open Go.ChangeMaps (setBlock)
def Stab (p : Pers) : Prop:=∀ w w' : World,(∀ k,p.D k → w'.heap[k]? = w.heap[k]?) → p.φ w → p.φ w'
theorem rowP_stab (R : Row) : Stab (rowP R):=rowP_stable R
section
variable {C : Ctx} {ρ : Nat → Nat} {s : St} {a : Act} {w : World}
end
end Go.SX
end
section
namespace Go.SX
open Go
def SV.absz (b g : Nat) : SV → SV
 | .ptr b' off=>match Nat.beq b b' with
  | true=>.val (.pointer (some ⟨g,off,none⟩))
  | false=>.ptr b' off
 | .sli b' n cap=>match Nat.beq b b' with
  | true=>.val (.slice (some ⟨g,0,none⟩) n cap)
  | false=>.sli b' n cap
 | x=>x
def CV.absz (b g : Nat) : CV → CV
 | .one x=>.one (x.absz b g)
 | .agg xs=>.agg (xs.map (SV.absz b g))
def RV.absz (b g : Nat) : RV → RV
 | .v x=>.v (x.absz b g)
 | .tup xs=>.tup (xs.map (CV.absz b g))
 | .grd q pol c x=>.grd q pol c (x.absz b g)
def St.absz (s : St) (b g : Nat) : St:={ s with slots:=mapK (RV.absz b g) s.slots,heap:=mapK (fun k=>⟨k.cells.map (SV.absz b g),k.elem,k.rw⟩) s.heap }
theorem SV.absz_den {b g : Nat} {ρ : Nat → Nat} (h : ρ b = g) (x : SV) : (x.absz b g).den ρ = x.den ρ:=by
 cases x with
 | ptr b' off =>
  simp only [SV.absz]
  split
  ·rename_i e; have:=(beq_iff _ _).1 e; subst this; simp only [SV.den,h]
  ·rfl
 | sli b' n cap =>
  simp only [SV.absz]
  split
  ·rename_i e; have:=(beq_iff _ _).1 e; subst this; simp only [SV.den,h]
  ·rfl
 | _=>rfl
theorem CV.absz_den {b g : Nat} {ρ : Nat → Nat} (h : ρ b = g) (x : CV) : (x.absz b g).den ρ = x.den ρ:=by
 cases x with
 | one x=>exact SV.absz_den h x
 | agg xs =>
  simp only [CV.absz,CV.den,List.map_map]
  congr 2
  exact List.map_congr_left fun x _=>SV.absz_den h x
theorem RV.absz_den {b g : Nat} {ρ : Nat → Nat} (h : ρ b = g) (x : RV) : (x.absz b g).den ρ = x.den ρ:=by
 cases x with
 | v x=>exact CV.absz_den h x
 | tup xs =>
  simp only [RV.absz,RV.den,List.map_map]
  congr 2
  exact List.map_congr_left fun x _=>CV.absz_den h x
 | grd q pol c x=>simp only [RV.absz,RV.den,CV.absz_den h x]
theorem SV.absz_wf {b g : Nat} {W : WF} (x : SV) (h : x.wf W) : (x.absz b g).wf W:=by
 cases x with
 | ptr b' off=>simp only [SV.absz]; split <;> first | trivial | exact h
 | sli b' n cap=>simp only [SV.absz]; split <;> first | trivial | exact h
 | _=>exact h
theorem CV.absz_wf {b g : Nat} {W : WF} (x : CV) (h : x.wf W) : (x.absz b g).wf W:=by
 cases x with
 | one x=>exact SV.absz_wf x h
 | agg xs=>intro y hy; obtain ⟨z,hz,rfl⟩:=List.mem_map.1 hy; exact SV.absz_wf z (h z hz)
theorem RV.absz_wf {b g : Nat} {W : WF} (x : RV) (h : x.wf W) : (x.absz b g).wf W:=by
 cases x with
 | v x=>exact CV.absz_wf x h
 | tup xs=>intro y hy; obtain ⟨z,hz,rfl⟩:=List.mem_map.1 hy; exact CV.absz_wf z (h z hz)
 | grd q pol c x=>exact fun hc=>CV.absz_wf x (h hc)
section
variable {C : Ctx} {ρ : Nat → Nat} {s : St} {a : Act} {w : World}
theorem Sat.absz (h : Sat C ρ s a w) (b : Nat) : Sat C ρ (s.absz b (ρ b)) a w:=by
 refine ⟨h.n,?_,?_,?_,h.inj,h.lt,h.defers,h.chg,h.rows,h.rowsD,h.pers,h.fix⟩
 ·intro i v hv
  simp only [St.absz,look_mapK] at hv
  obtain ⟨u,hu,rfl⟩:=Option.map_eq_some_iff.1 hv
  obtain ⟨k1,k2⟩:=h.slots i u hu
  exact ⟨by rw [RV.absz_den rfl]; exact k1,RV.absz_wf u k2⟩
 ·intro i g pol b' x hv
  simp only [St.absz,look_mapK] at hv ⊢
  obtain ⟨u,hu,hu'⟩:=Option.map_eq_some_iff.1 hv
  cases u with
  | grd g' pol' b'' x' =>
   simp only [RV.absz,RV.grd.injEq] at hu'
   obtain ⟨rfl,rfl,rfl,rfl⟩:=hu'
   obtain ⟨k1,k2⟩:=h.grds i _ _ _ _ hu
   exact ⟨k1,k2.map (F:=RV.absz b (ρ b)) (f:=SV.absz b (ρ b)) (fun _=>rfl) (fun _ _ _ _=>rfl) (fun x b hb=>by cases x <;> first | exact hb | cases hb) (fun _=>rfl)⟩
  | v x=>cases hu'
  | tup x=>cases hu'
 ·intro b' blk hb
  simp only [St.absz,look_mapK] at hb
  obtain ⟨u,hu,rfl⟩:=Option.map_eq_some_iff.1 hb
  obtain ⟨k1,k2,k3,k4⟩:=h.heap b' u hu
  refine ⟨k1,?_,?_,k4⟩
  ·have : (u.cells.map (SV.absz b (ρ b))).map (SV.den ρ) = u.cells.map (SV.den ρ):=by rw [List.map_map]; exact List.map_congr_left fun x _=>SV.absz_den rfl x
   simp only [this]; exact k2
  ·intro x hx; obtain ⟨y,hy,rfl⟩:=List.mem_map.1 hx; exact SV.absz_wf y (k3 y hy)
def freeKeys : List (Nat × RV) → List Nat
 | []=>[]
 | (k,v) :: l=>match v with
  | .grd _ _ _ _=>freeKeys l
  | _=>k :: freeKeys l
def hsNo (b : Nat) (hp : List (Nat × Blk)) : Nat → Nat → List Nat
 | 0,_=>[]
 | n + 1,i=>match Nat.beq b i with
  | true=>hsNo b hp n (i + 1)
  | false=>match look hp i with
   | some _=>i :: hsNo b hp n (i + 1)
   | none=>hsNo b hp n (i + 1)
theorem hsNo_ne {b : Nat} {hp : List (Nat × Blk)} : ∀ {n i x : Nat},x ∈ hsNo b hp n i → x ≠ b ∧ x < i + n
 | 0,i,x,h=>by simp [hsNo] at h
 | n + 1,i,x,h=>by
  simp only [hsNo] at h
  split at h
  ·obtain ⟨h1,h2⟩:=hsNo_ne h; exact ⟨h1,by omega⟩
  ·rename_i e
   split at h
   ·rcases List.mem_cons.1 h with rfl | h
    ·exact ⟨fun e'=>beq_false e e'.symm,by omega⟩
    ·obtain ⟨h1,h2⟩:=hsNo_ne h; exact ⟨h1,by omega⟩
   ·obtain ⟨h1,h2⟩:=hsNo_ne h; exact ⟨h1,by omega⟩
def rKeys : List (Nat × Row) → List Nat
 | []=>[]
 | (k,_) :: l=>k :: rKeys l
def allTrue : List Pers → List Bool
 | []=>[]
 | _ :: l=>true :: allTrue l
def absB (b g : Nat) (s : St) : Option St:=pickSt (freeKeys s.slots) (hsNo b s.heap s.next 0) (rKeys s.rows) (allTrue s.pers) (s.absz b g)
def absS (b g : Nat) (s : St) : St:=(absB b g s).getD s
theorem Sat.absB (h : Sat C ρ s a w) {b : Nat} (hb : b < s.next) (hp : (SX.absB b (ρ b) s).isSome = true) :
  ∃ ρ',Sat C ρ' (absS b (ρ b) s) a w ∧ (∀ c,c < (absS b (ρ b) s).next → ρ' c ≠ ρ b) ∧ (∀ r R,look (absS b (ρ b) s).rows r = some R → ∃ r',look s.rows r' = some R) ∧ ∀ p ∈ (absS b (ρ b) s).pers,p ∈ s.pers:=by
 obtain ⟨s',hs'⟩:=Option.isSome_iff_exists.1 hp
 have e : absS b (ρ b) s = s':=by unfold absS; rw [hs']; rfl
 rw [e]
 refine ⟨_,(h.absz b).pick hs',?_,?_,?_⟩
 ·intro c hc e'
  have hpk : pickSt (freeKeys s.slots) (hsNo b s.heap s.next 0) (rKeys s.rows) (allTrue s.pers) (s.absz b (ρ b)) = some s':=hs'
  unfold pickSt at hpk
  split at hpk
  case h_2=>cases hpk
  cases hpk
  have hc' : c < (hsNo b s.heap s.next 0).length:=hc
  have hm : (hsNo b s.heap s.next 0).getD c 0 ∈ hsNo b s.heap s.next 0:=by
   rw [List.getD,List.getElem?_eq_getElem hc']
   exact List.getElem_mem hc'
  obtain ⟨h1,h2⟩:=hsNo_ne hm
  exact h1 (h.inj _ _ (by omega) hb e')
 ·intro r R hR
  have hpk : pickSt (freeKeys s.slots) (hsNo b s.heap s.next 0) (rKeys s.rows) (allTrue s.pers) (s.absz b (ρ b)) = some s':=hs'
  unfold pickSt at hpk
  split at hpk
  case h_2=>cases hpk
  rename_i sl hpp rows hnd1 hnd2 hsl hhp hrows
  cases hpk
  obtain ⟨r2,_,_,h3⟩:=pickRows_ok hrows r R hR
  exact ⟨r2,h3⟩
 ·intro p hp2
  have hpk : pickSt (freeKeys s.slots) (hsNo b s.heap s.next 0) (rKeys s.rows) (allTrue s.pers) (s.absz b (ρ b)) = some s':=hs'
  unfold pickSt at hpk
  split at hpk
  case h_2=>cases hpk
  cases hpk
  exact keepP_sub _ _ p hp2
theorem range_map_getD {α : Type} (l : List α) (d : α) : (List.range l.length).map (fun i=>l.getD i d) = l:=by
 apply List.ext_getElem?
 intro i
 rw [List.getElem?_map]
 by_cases hi : i < l.length
 ·rw [List.getElem?_range hi,Option.map_some,List.getD,List.getElem?_eq_getElem hi]; rfl
 ·rw [List.getElem?_eq_none (by simp; omega),List.getElem?_eq_none (by omega)]; rfl
theorem rowL_flat {α : Type} (f : α → List SV) (d : α) (l : List α) (q : Option Addr) (cap : Nat) (e : TypeId) (sz : Nat) (own : Bool) : (rowL f d l q cap e sz own).flat = (l.flatMap f).map SV.den0:=by
 show (List.range l.length).flatMap (fun i=>(f (l.getD i d)).map SV.den0) = _
 conv=>rhs; rw [← range_map_getD l d]
 rw [List.flatMap_map,List.map_flatMap]
theorem flat_at {α : Type} {f : α → List SV} {sz : Nat} (hf : ∀ x,(f x).length = sz) (d : α) : ∀ {l : List α} {i j : Nat},i < l.length → j < sz → (l.flatMap f)[i * sz + j]? = (f (l.getD i d))[j]?
 | x :: l,0,j,_,hj=>by
  rw [List.flatMap_cons,List.getElem?_append_left (by rw [hf]; omega)]
  simp
 | x :: l,i + 1,j,hi,hj=>by
  rw [List.flatMap_cons,List.getElem?_append_right (by rw [hf,Nat.succ_mul]; omega),hf]
  rw [show (i + 1) * sz + j - sz = i * sz + j by rw [Nat.succ_mul]; omega]
  rw [flat_at hf d (by simpa using hi) hj]
  simp
theorem flat_len {α : Type} {f : α → List SV} {sz : Nat} (hf : ∀ x,(f x).length = sz) : ∀ l : List α,(l.flatMap f).length = l.length * sz
 | []=>by simp
 | x :: l=>by rw [List.flatMap_cons,List.length_append,hf,flat_len hf l,List.length_cons,Nat.succ_mul]; omega
theorem rowL_ok {α : Type} {w : World} {g : Nat} {f : α → List SV} {d : α} {l : List α} {e : TypeId} {sz : Nat} {own : Bool} (hg : w.heap[g]? = some (.cells ((l.flatMap f).map SV.den0).toArray e (0,0))) (hf : ∀ x,(f x).length = sz)
  (hpl : ∀ x,∀ y ∈ f x,y.plain) (hm : l.length ≤ maxLen) : (rowL f d l (some ⟨g,0,none⟩) l.length e sz own).ok w:=by
 have hsz : ((l.flatMap f).map SV.den0).length = l.length * sz:=by rw [List.length_map,flat_len hf]
 refine ⟨fun i hi=>⟨hf _,hpl _⟩,fun hp=>⟨g,0,rfl,fun i j x hi hx=>?_⟩,fun _ _=>⟨by rw [rowL_flat]; exact hsz,.inr ⟨g,l.length,_,rfl,Nat.zero_le _,hg,Nat.le_refl _,hm,(by show ((l.flatMap f).map SV.den0).toArray.size = l.length * sz; rw [List.size_toArray]; exact hsz),?_⟩⟩,fun o ho=>(by cases ho)⟩
 ·have hi' : i < l.length:=hi
  have hx' : (f (l.getD i d))[j]? = some x:=hx
  have hj : j < sz:=by
   rw [← hf (l.getD i d)]
   exact (List.getElem?_eq_some_iff.1 hx').1
  rw [Lib.cell_of_heap hg]
  show ((l.flatMap f).map SV.den0).toArray[0 + (i * sz + j)]? = _
  rw [Nat.zero_add,List.getElem?_toArray,List.getElem?_map,flat_at hf d hi' hj,hx']
  rfl
 ·rw [rowL_flat]
  simp only [rowL]
  rw [← hsz]
  exact List.take_length
theorem V.rowB {α : Type} (f : α → List SV) (d : α) (l : List α) (e : TypeId) (sz : Nat) (b : Nat) {c : Cfg} (hb : look c.st.heap b = some ⟨l.flatMap f,e,true⟩) (hf : ∀ x,(f x).length = sz) (hpl : ∀ x,∀ y ∈ f x,y.plain) (hm : l.length ≤ maxLen) (hp : ∀ g,(SX.absB b g c.st).isSome = true)
  (h : ∀ g,V C ⟨c.todo,{ absS b g c.st with rows:=((absS b g c.st).nr,rowL f d l (some ⟨g,0,none⟩) l.length e sz true) :: (absS b g c.st).rows,nr:=(absS b g c.st).nr + 1 }⟩) : V C c:=by
 intro ρ a w hS
 obtain ⟨k1,k2,k3,k4⟩:=hS.heap b _ hb
 obtain ⟨ρ',h1,h2,h3,h5⟩:=hS.absB k1 (hp (ρ b))
 have hφ : w.heap[ρ b]? = some (.cells ((l.flatMap f).map SV.den0).toArray e (0,0)):=by
  rw [k2]
  have : (l.flatMap f).map (SV.den ρ) = (l.flatMap f).map SV.den0:=List.map_congr_left fun y hy=>by
   obtain ⟨x,_,hx⟩:=List.mem_flatMap.1 hy
   exact SV.plain_den (hpl x y hx) _
  simp only [this]
 have hnu : ∀ r R,look (absS b (ρ b) c.st).rows r = some R → ¬ R.uses (ρ b):=fun r R hR hu=>by
  obtain ⟨r',hr'⟩:=h3 r R hR
  exact ((hS.rows r' R hr').2.2 _ hu).2.1 b k1 rfl
 have huse : ∀ k,(rowL f d l (some ⟨ρ b,0,none⟩) l.length e sz true).uses k → k = ρ b:=by
  rintro k ⟨ad,h1,h2,_⟩
  cases h1; exact h2.symm
 have hlk : ∀ r R,look (((absS b (ρ b) c.st).nr,rowL f d l (some ⟨ρ b,0,none⟩) l.length e sz true) :: (absS b (ρ b) c.st).rows) r = some R →
   (r = (absS b (ρ b) c.st).nr ∧ R = rowL f d l (some ⟨ρ b,0,none⟩) l.length e sz true) ∨ look (absS b (ρ b) c.st).rows r = some R:=by
  intro r R hR
  simp only [look] at hR
  split at hR
  ·rename_i e; cases hR; exact .inl ⟨((beq_iff _ _).1 e).symm,rfl⟩
  ·exact .inr hR
 have hle : (absS b (ρ b) c.st).W.le ({ absS b (ρ b) c.st with rows:=((absS b (ρ b) c.st).nr,rowL f d l (some ⟨ρ b,0,none⟩) l.length e sz true) :: (absS b (ρ b) c.st).rows,nr:=(absS b (ρ b) c.st).nr + 1 } : St).W :=
  ⟨Nat.le_refl _,Nat.le_succ _,fun q hq Q hQ=>by
   rcases hlk q Q hQ with ⟨e,_⟩ | h4
   ·have hq' : q < (absS b (ρ b) c.st).nr:=hq
    omega
   ·exact h4⟩
 refine h (ρ b) ρ' a w ⟨h1.n,fun i v hv=>⟨(h1.slots i v hv).1,RV.wf_mono hle v (h1.slots i v hv).2⟩,h1.grds,?_,h1.inj,h1.lt,h1.defers,h1.chg,?_,?_,?_,h1.fix⟩
 ·intro b' blk hb'
  obtain ⟨q1,q2,q3,q4⟩:=h1.heap b' blk hb'
  exact ⟨q1,q2,fun x hx=>SV.wf_mono hle x (q3 x hx),q4⟩
 ·intro r R hR
  rcases hlk r R hR with ⟨rfl,rfl⟩ | h4
  ·refine ⟨Nat.lt_succ_self _,rowL_ok hφ hf hpl hm,fun k hk=>?_⟩
   rw [huse k hk]
   exact ⟨hS.lt b k1,h2,fun _=>k4 rfl⟩
  ·obtain ⟨q1,q2,q3⟩:=h1.rows r R h4
   exact ⟨Nat.lt_succ_of_lt q1,q2,q3⟩
 ·intro r r' R R' hR hR' hne ho k hk hk'
  rcases hlk r R hR with ⟨rfl,rfl⟩ | h4 <;> rcases hlk r' R' hR' with ⟨rfl,rfl⟩ | h6
  ·exact hne rfl
  ·rw [huse k hk] at hk'; exact hnu _ _ h6 hk'
  ·rw [huse k hk'] at hk; exact hnu _ _ h4 hk
  ·exact h1.rowsD r r' R R' h4 h6 hne ho k hk hk'
 ·intro p hp'
  obtain ⟨p1,p2,p3⟩:=h1.pers p hp'
  refine ⟨p1,p2,fun k hD=>⟨(p3 k hD).1,(p3 k hD).2.1,fun r R hR ho hu=>?_⟩⟩
  rcases hlk r R hR with ⟨rfl,rfl⟩ | h4
  ·rw [huse k hu] at hD
   exact ((hS.pers p (h5 p hp')).2.2 _ hD).2.1 b k1 rfl
  ·exact (p3 k hD).2.2 r R h4 ho hu
end
end Go.SX
end
section
namespace Go.SX
open Go
def stP (ps : List Pers) : St:={ n:=0,slots:=[],gs:=[],heap:=[],next:=0,rows:=[],nr:=0,pers:=ps,wr:=false }
section
variable {C : Ctx}
end
end Go.SX
end
section
namespace Go.SX
open Go
open Go.ChangeMaps (setBlock)
section
variable {C : Ctx} {T TR : List Nat} {L : Nat} {c0 : Cfg} {d : DCfg}
def storeT1 (P : Program) (T : List Nat) (c0 : Cfg) (d : DCfg) (i : Nat) : Option DCfg :=
 match (dOps c0)[i]? with
 | some o=>match grdOf d.st (dOps c0) o.guard,opStore P d.st none o.op,o.dst,storeBlk d.st none o.op with
  | .yes,some s1,none,some b=>match hasNat T b,Nat.blt b c0.st.next with
   | true,true=>some ⟨d.fuel - 1,d.listed.setIfInBounds i true,s1⟩
   | _,_=>none
  | _,_,_,_=>none
 | none=>none
def storeY (P : Program) (T : List Nat) (c0 : Cfg) (d : DCfg) (i : Nat) : DCfg:=(storeT1 P T c0 d i).getD d
theorem opStore_W {P : Program} {s s1 : St} {gc : Option (Nat × Bool)} {op : Op} (h : opStore P s gc op = some s1) : s1.W = s.W:=by
 unfold opStore at h
 split at h
 case h_2=>cases h
 split at h
 case h_2=>cases h
 split at h
 case h_2=>cases h
 split at h
 case h_2=>cases h
 cases h
 rfl
theorem VX.storeL (rs : List Nat) (hne : rs ≠ []) (hr : Region.ready .any (dOps c0) d.listed = rs) (hf : Nat.blt 0 d.fuel = true) (hall : ∀ m ∈ rs,(storeT1 C.P T c0 d m).isSome = true ∧ VX C T TR L c0 (storeY C.P T c0 d m)) : VX C T TR L c0 d:=by
 intro D hD a1 a2 a3 a4 a5 a6 hL hsel aT aTR hlt aN hrw ρ a w hS hρ hn0 hch hcl hsz
 obtain ⟨n,hn'⟩ : ∃ n,d.fuel = n + 1:=⟨d.fuel - 1,by have:=blt_lt hf; omega⟩
 have one : ∀ m,m ∈ rs → (storeT1 C.P T c0 d m).isSome = true → VX C T TR L c0 (storeY C.P T c0 d m) →
   wpOp C.P (dOps c0) (Qd C (dK c0)) m (fun a' w'=>(tailOp (dOps c0) D.L m = false → Chg D.TS D.ws w') ∧ wpAnyE C.P (dOps c0) (Qd C (dK c0)) (Chg D.TS D.ws) D.L n (d.listed.setIfInBounds m true) a' w') a w:=by
  intro m hm hs hk
  obtain ⟨d2,hd2⟩:=Option.isSome_iff_exists.1 hs
  have hY : storeY C.P T c0 d m = d2:=by unfold storeY; rw [hd2]; rfl
  rw [hY] at hk
  unfold storeT1 at hd2
  split at hd2
  case h_2=>cases hd2
  rename_i o ho
  split at hd2
  case h_2=>cases hd2
  rename_i s1 b hg hst hdst hblk
  split at hd2
  case h_2=>cases hd2
  rename_i hT hb
  cases hd2
  have hb':=blt_lt hb
  obtain ⟨b',w2,e0,e1,e2,e3,e4,e5⟩:=opStore_sound hS (GcOk.none d.st) o hst
  rw [hblk] at e0
  cases e0
  have hbn : b < D.n0:=by rw [a2]; exact hb'
  have hTS : D.TS (D.ρ0 b):=aT b ((hasNat_mem _ _).1 hT) hb'
  have hc2 : Chg D.TS D.ws w2:=hch.trans e4 (fun i hi=>.inr (by rw [hi,hρ b hbn]; exact hTS))
  have hW:=opStore_W hst
  have hrw2 : D.rows s1:=⟨fun r R hR=>by rw [show s1.rows = d.st.rows from congrArg WF.rows hW]; exact hrw.1 r R hR,by rw [hW]; exact hrw.2⟩
  unfold wpOp
  simp only [ho,grd_yes hS hg,if_true]
  refine .inl ?_
  unfold Oper.wp
  rw [e2]
  have:=hk D hD a1 a2 a3 a4 a5 a6 hL hsel aT aTR hlt aN hrw2 ρ a w2 e3 hρ (by show D.n0 ≤ s1.next; rw [e5]; exact hn0) hc2 (hcl.set (by rw [hr]; exact hm)) (by simpa using hsz)
  simp only [hn',Nat.add_sub_cancel] at this
  refine ⟨fun _=>hc2,?_⟩
  rw [hdst]
  exact this
 rw [hn']
 exact wpAnyE_all hr hne (fun m hm'=>one m hm' (hall m hm').1 (hall m hm').2)
theorem VX.store (i : Nat) (hr : Region.ready .any (dOps c0) d.listed = [i]) (hf : Nat.blt 0 d.fuel = true) (hi : (storeT1 C.P T c0 d i).isSome = true) (h1 : VX C T TR L c0 (storeY C.P T c0 d i)) : VX C T TR L c0 d :=
 VX.storeL [i] (by simp) hr hf (fun m hm=>by rw [List.mem_singleton.1 hm]; exact ⟨hi,h1⟩)
def tailRun (P : Program) (c0 : Cfg) : Nat → DCfg → Option St
 | 0,_=>none
 | n + 1,d=>match Region.ready .any (dOps c0) d.listed with
  | []=>some d.st
  | [j]=>match (dOps c0)[j]?,d.fuel,compAll (dOps c0) j with
   | some o,m + 1,true=>match grdOf d.st (dOps c0) o.guard with
    | .yes=>match opStore P d.st none o.op with
     | some s1=>match o.dst with
      | none=>tailRun P c0 n ⟨m,d.listed.setIfInBounds j true,s1⟩
      | some _=>none
     | none=>match opPure P d.st none o.op with
      | some (v,[])=>match d.st.put o.dst v with
       | some s1=>tailRun P c0 n ⟨m,d.listed.setIfInBounds j true,s1⟩
       | none=>none
      | _=>none
    | _=>none
   | _,_,_=>none
  | _=>none
theorem tailRun_ok {D : Held} : ∀ (n : Nat) {d : DCfg} {s : St},tailRun C.P c0 n d = some s → V C ⟨dK c0,s⟩ →
  ∀ ρ a w,Sat C ρ d.st a w → wpAnyE C.P (dOps c0) (Qd C (dK c0)) (Chg D.TS D.ws) D.L d.fuel d.listed a w
 | 0,_,_,h,_,_,_,_,_=>by cases h
 | n + 1,d,s,h,hv,ρ,a,w,hS=>by
  unfold tailRun at h
  split at h
  ·rename_i hr
   cases h
   exact wpAnyE_done hr (hv ρ a w hS) d.fuel
  ·rename_i j hr
   split at h
   case h_2=>cases h
   rename_i o m ho hfu hco
   split at h
   case h_2=>cases h
   rename_i hg
   have hfin : tailOp (dOps c0) D.L j = true:=by
    unfold tailOp
    cases Nat.beq j D.L with
    | true=>rfl
    | false=>exact hco
   rw [hfu]
   refine wpAnyE_all hr (by simp) (fun i hi=>?_)
   have : i = j:=by simpa using hi
   subst this
   unfold wpOp
   simp only [ho,grd_yes hS hg,if_true]
   refine .inl ?_
   split at h
   ·rename_i s1 hop
    split at h
    case h_2=>cases h
    rename_i hdst
    obtain ⟨b',w2,e0,e1,e2,e3,e4,e5⟩:=opStore_sound hS (GcOk.none d.st) o hop
    unfold Oper.wp
    rw [e2]
    refine ⟨fun hne=>(by rw [hfin] at hne; cases hne),?_⟩
    rw [hdst]
    exact tailRun_ok n h hv ρ a w2 e3
   ·split at h
    case h_2=>cases h
    rename_i v hop
    split at h
    case h_2=>cases h
    rename_i s1 hput
    obtain ⟨k1,k2,k3⟩:=opPure_sound hS.toP (GcOk.none d.st) o hop (fun p hp=>by cases hp)
    unfold Oper.wp
    rw [k1]
    refine ⟨fun hne=>(by rw [hfin] at hne; cases hne),?_⟩
    exact tailRun_ok n h hv ρ _ w (hS.put hput k2 (fun g pol c x e=>absurd e (k3 g pol c x)))
  ·cases h
def tailY (P : Program) (c0 : Cfg) (n : Nat) (d : DCfg) : St:=(tailRun P c0 n d).getD d.st
theorem VX.tail (n : Nat) (hl : (tailRun C.P c0 n d).isSome = true) (h : V C ⟨dK c0,tailY C.P c0 n d⟩) : VX C T TR L c0 d:=by
 intro D hD a1 a2 a3 a4 a5 a6 hL hsel aT aTR hlt aN hrw ρ a w hS hρ hn0 hch hcl hsz
 obtain ⟨s,hs⟩:=Option.isSome_iff_exists.1 hl
 unfold tailY at h
 rw [hs] at h
 exact tailRun_ok n hs h ρ a w hS
end
end Go.SX
end
section
namespace Go.SX
open Go
section
variable {C : Ctx}
theorem V.slotRow (t r : Nat) (R : Row) {c : Cfg} (hl : look c.st.slots t = some (.v (.one (.val (.slice R.s R.n R.cap))))) (hg : hasNat c.st.gs t = false) (hR : look c.st.rows r = some R)
  (h : V C ⟨c.todo,{ c.st with slots:=upd c.st.slots t (.v (.one (.row r R.s R.n R.cap))) }⟩) : V C c:=by
 intro ρ a w hS
 refine h ρ a w ⟨hS.n,?_,?_,hS.heap,hS.inj,hS.lt,hS.defers,hS.chg,hS.rows,hS.rowsD,hS.pers,hS.fix⟩
 ·intro i v hv
  simp only [look_upd] at hv
  by_cases e : t = i
  ·subst e
   rw [if_pos rfl] at hv
   cases hv
   refine ⟨(hS.slots t _ hl).1,(hS.rows r R hR).1,fun R' hR'=>?_⟩
   have hR2 : look c.st.rows r = some R':=hR'
   rw [hR] at hR2
   cases hR2
   exact ⟨rfl,rfl,rfl⟩
  ·rw [if_neg e] at hv
   exact hS.slots i v hv
 ·intro i g pol b x hv
  simp only [look_upd] at hv
  by_cases e : t = i
  ·rw [if_pos e] at hv; cases hv
  ·rw [if_neg e] at hv
   obtain ⟨h1,h2⟩:=hS.grds i g pol b x hv
   refine ⟨h1,?_⟩
   simp only [look_upd]
   have hne : t ≠ g:=fun e'=>by subst e'; rw [hg] at h1; cases h1
   rw [if_neg hne]
   exact h2
variable {T TR : List Nat} {L : Nat} {c0 : Cfg} {d : DCfg}
def valX (c0 : Cfg) (d : DCfg) (v : RV) : Option DCfg :=
 match oneX c0 d with
 | some (i,o)=>match d.st.put o.dst v with
  | some s'=>some ⟨d.fuel - 1,d.listed.setIfInBounds i true,s'⟩
  | none=>none
 | none=>none
def valY (c0 : Cfg) (d : DCfg) (v : RV) : DCfg:=(valX c0 d v).getD d
theorem VX.bytes (r : Nat) (R : Row) (l : List UInt8) (hc : bytesOf C.P (atX c0 d) = some (r,R)) (hl : l.length = R.n) (hg : ∀ i,i < R.n → R.get i = [.int .u8 ((l.getD i 0).toNat : Int)])
  (haf : (valX c0 d (.v (.one (.str l)))).isSome = true) (k : VX C T TR L c0 (valY c0 d (.v (.one (.str l))))) : VX C T TR L c0 d:=by
 intro D hD a1 a2 a3 a4 a5 a6 hL hsel aT aTR hlt aN hrw ρ a w hS hρ hn0 hch hcl hsz
 cases hx : oneX c0 d with
 | none=>unfold valX at haf; rw [hx] at haf; cases haf
 | some p =>
  obtain ⟨i,o⟩:=p
  obtain ⟨hready,⟨n,hfu⟩,ho⟩:=oneX_ok hx
  obtain ⟨d2,hd2⟩:=Option.isSome_iff_exists.1 haf
  have hY : valY c0 d (.v (.one (.str l))) = d2:=by unfold valY; rw [hd2]; rfl
  rw [hY] at k
  unfold valX at hd2
  rw [hx] at hd2
  simp only at hd2
  split at hd2
  case h_2=>cases hd2
  rename_i s' hput
  cases hd2
  have hi : i ∈ Region.ready .any (dOps c0) d.listed:=by rw [hready]; simp
  have hW:=put_W hput
  have hrw2 : D.rows s':=⟨fun r R hR=>by rw [show s'.rows = d.st.rows from congrArg WF.rows hW]; exact hrw.1 r R hR,by rw [hW]; exact hrw.2⟩
  have hk:=k D hD a1 a2 a3 a4 a5 a6 hL hsel aT aTR hlt aN hrw2 ρ _ w (hS.put hput trivial (fun g pol b x e=>by cases e)) hρ (by show D.n0 ≤ s'.next; rw [put_next hput]; exact hn0) hch (hcl.set hi) (by simpa using hsz)
  simp only [hfu,Nat.add_sub_cancel] at hk
  unfold bytesOf atX at hc
  simp only [hready,ho] at hc
  split at hc
  case h_2=>cases hc
  rename_i hgd
  split at hc
  case h_2=>cases hc
  rename_i src dst x hop
  split at hc
  case h_2=>cases hc
  rename_i e r' q n' cap h1 h2 hx'
  split at hc
  case h_2=>cases hc
  rename_i R' he hR
  split at hc
  case h_2=>cases hc
  rename_i hsz'
  cases hc
  obtain ⟨e1,hr,hwf⟩:=ev_sound hS.toP (GcOk.none d.st) hx'
  obtain ⟨rfl,rfl,rfl⟩:=hwf R hR
  have hb:=row_bytes (P:=C.P) (hS.rows r R hR).2.1 ((beq_iff _ _).1 hsz') hl hg
  have hex : (execOp a.eval o).run C.P w = .ok (.value ((RV.v (.one (.str l))).den ρ)) w:=by
   have : (convert src dst (.slice R.s R.n R.cap)).run C.P w = .ok (.string ⟨l.toArray⟩) w:=by
    rw [run_convert_bytes_string w src dst e _ _ _ h1 he h2]; exact hb
   unfold execOp
   rw [hop]
   refine execVal2 ?_
   rw [e1]
   exact this
  rw [hfu]
  refine wpAnyE_all hready (by simp) (fun j hj=>?_)
  have hj' : j = i:=by simpa using hj
  subst hj'
  unfold wpOp
  simp only [ho,grd_yes hS hgd,if_true]
  refine .inl ?_
  unfold Oper.wp
  rw [hex]
  exact ⟨fun _=>hch,hk⟩
end
end Go.SX
end
section
namespace Go.SX
open Go
section
variable {C : Ctx} {a : Act} {w w' : World} {ops : Array Oper} {o : Oper} {i : Nat} {l : List Nat} {k : List Item}
theorem Ok.op_callX (ho : ops[i]? = some o) (hw : Region.wanted o (yielded ops a.tmps) = true) {f : FuncId} {args : Array Value} (hr : (execOp a.eval o).run C.P w = .ok (.enter f args) w')
  {R : Ending → World → Prop} (hc : Calls C.P f args w' R) (hro : C.round = none) (hd : a.defers = []) (hf : (C.P.funcs[C.f]?).isSome = true)
  (h : ∀ e w2,R e w2 → (∃ v,e = .returned v ∧ Ok C (.inRegion ops l :: k) (a.put o.dst v) w2) ∨ (∃ ch,e = .panicked ch ∧ C.R (.panicked ch) w2)) : Ok C (.inRegion ops (i :: l) :: k) a w:=by
 intro b hb hk hro' cs hcs
 have hg:=stepGR_op (P:=C.P) (b:=b) (k:=k) (cs:=cs) (w:=w) (rest:=l) ho hw
 rw [Oper.semAt_eq _ _ _ (no_defer hr (by simp))] at hg
 obtain ⟨e,w2,fr,hR,hsteps,_,hleave⟩:=hc (b.atR a (.inRegion ops (i :: l) :: k) :: cs)
 have henter : Go.step C.P (lone (b.atR a (.inRegion ops (i :: l) :: k)) cs w) = .next (lone (Frame.enter C.P f args .normal) (b.atR a (.inRegion ops (i :: l) :: k) :: cs) w') :=
  step_lone_go (by rw [hg]; simp [stepG.apply,hr,Frame.atR])
 rcases h e w2 hR with ⟨v,rfl,hOk⟩ | ⟨ch,rfl,hCR⟩
 ·obtain ⟨e,w3,h1,h2⟩:=hOk b hb hk hro' cs hcs
  have hfin : (b.atR a (.inRegion ops (i :: l) :: k)).finish v = b.atR (a.put o.dst v) (.inRegion ops l :: k):=by rw [Frame.finish_atR,ho]; rfl
  refine ⟨e,w3,h1,h2.of_steps (.head henter (hsteps.trans (.one ?_)))⟩
  rw [← hfin]; exact step_leave_returned hleave
 ·obtain ⟨fn,hfn⟩:=Option.isSome_iff_exists.1 hf
  refine ⟨.panicked ch,w2,hCR,?_⟩
  unfold Fin
  rw [hro]
  refine ⟨(b.atR a (.inRegion ops (i :: l) :: k)).raise ch,.head henter (hsteps.trans (.one (step_leave_panicked hleave))),?_,?_⟩
  ·rw [Frame.raise_atR]; exact hb
  ·rw [Frame.raise_atR]; exact ⟨rfl,hd,fn,by show C.P.funcs[b.fn]? = some fn; rw [hb]; exact hfn⟩
theorem Ok.op_panics (ho : ops[i]? = some o) (hw : Region.wanted o (yielded ops a.tmps) = true) {v : Value} (hr : (execOp a.eval o).run C.P w = .halt (.panic v) w')
  (hro : C.round = none) (hd : a.defers = []) (hf : (C.P.funcs[C.f]?).isSome = true) (hnd : ∀ c,o.op ≠ .defer c) (h : C.R (.panicked [{ v,recovered:=false }]) w') : Ok C (.inRegion ops (i :: l) :: k) a w:=by
 intro b hb hk hro' cs hcs
 have hg:=stepGR_op (P:=C.P) (b:=b) (k:=k) (cs:=cs) (w:=w) (rest:=l) ho hw
 rw [Oper.semAt_eq _ _ _ hnd] at hg
 obtain ⟨fn,hfn⟩:=Option.isSome_iff_exists.1 hf
 refine ⟨_,w',h,?_⟩
 unfold Fin
 rw [hro]
 refine ⟨(b.atR a (.inRegion ops (i :: l) :: k)).raise [{ v,recovered:=false }],.one (step_lone_go ?_),?_,?_⟩
 ·rw [hg]; simp [stepG.apply,hr]
 ·rw [Frame.raise_atR]; exact hb
 ·rw [Frame.raise_atR]; exact ⟨rfl,hd,fn,by show C.P.funcs[b.fn]? = some fn; rw [hb]; exact hfn⟩
end
section
variable {C : Ctx}
theorem V.callX {c : Cfg} {f : FuncId} {xs : List CV} (hc : callOf c = some (none,f,xs)) (hent : ∀ args w,(callFunc f args).run C.P w = .ok (.enter f args) w) (hro : C.round = none) (hds : c.st.defs = []) (hf : (C.P.funcs[C.f]?).isSome = true)
  (h : ∀ ρ a w,Sat C ρ c.st a w → ∃ R',Calls C.P f (xs.map (CV.den ρ)).toArray w R' ∧
   ∀ e w',R' e w' → (∃ ρ' v s1 c',e = .returned (v.den ρ') ∧ Sat C ρ' s1 a w' ∧ v.wf s1.W ∧ (∀ g pol b x,v ≠ .grd g pol b x) ∧ afterOp c s1 v = some c' ∧ V C c') ∨ (∃ ch,e = .panicked ch ∧ C.R (.panicked ch) w')) : V C c:=by
 intro ρ a w hS
 obtain ⟨todo,st⟩:=c
 unfold callOf at hc
 simp only at hc h hS hds ⊢
 have hda : a.defers = []:=hS.defers.trans hds
 split at hc
 ·rename_i ops i l k
  split at hc
  ·rename_i o ho
   split at hc
   ·rename_i cl hop
    split at hc
    ·rename_i hg
     split at hc
     ·rename_i f' caps ys h1 h2
      simp only [Option.some.injEq,Prod.mk.injEq,true_and] at hc
      obtain ⟨rfl,rfl⟩:=hc
      obtain ⟨R',hcalls,hR⟩:=h ρ a w hS
      have hr:=calleeS_sound (t:=o.type) hS.toP (GcOk.none st) h1 h2 hent
      refine Ok.op_callX ho (grd_yes hS hg) (by unfold execOp; rw [hop]; exact hr) hcalls hro hda hf (fun e w2 hq=>?_)
      rcases hR e w2 hq with ⟨ρ',v,s1,c',rfl,hS1,hv,hng,haf,hV⟩ | hp
      ·refine .inl ⟨_,rfl,?_⟩
       simp only [afterOp,ho] at haf
       split at haf
       ·rename_i s' hput
        cases haf
        exact hV ρ' _ _ (hS1.put hput hv (fun g pol b x e=>absurd e (hng g pol b x)))
       ·cases haf
      ·exact .inr hp
     ·cases hc
    ·split at hc <;> cases hc
    ·cases hc
   ·cases hc
  ·cases hc
 ·cases hc
end
end Go.SX
end
