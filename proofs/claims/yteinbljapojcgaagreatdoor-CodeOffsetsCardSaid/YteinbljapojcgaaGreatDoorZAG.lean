/- A symbolic run of the program that Lean checks, and what the functions of the program come to by it: part 7 of 11. -/
import Derived.Test.YteinbljapojcgaaGreatDoorZAF
set_option linter.unusedVariables false
section
namespace Go.Proofs
open Go Go.SX
set_option maxRecDepth 10000
inductive FSel where
 | S | R
def FSel.fn : FSel → Nat
 | .S=>109 | .R=>110
def FSel.off : FSel → Nat
 | .S=>27 | .R=>28
def FSel.get : FSel → In → Bool
 | .S,x=>x.size | .R,x=>x.range
def FSel.set : FSel → In → Bool → In
 | .S,x,v=>{ x with size:=v } | .R,x,v=>{ x with range:=v }
def FSel.val (s : FSel) : SV:=.val (.func (.func s.fn) #[] #[])
def FSel.blk (s : FSel) (g : Nat) : Pers:=blkP g [s.val] 173
def psF (ps : List Pers) (x : In) (A : IA) : St:={ n:=0,slots:=[],gs:=[],heap:=[(0,⟨inO x A,30,true⟩)],next:=1,rows:=inRows x A,nr:=3,pers:=ps,wr:=false }
def PsR (ps : List Pers) (x : In) (A : IA) (ok : Bool) (x' : In) (ρ : Nat → Nat) (w : World) : Ending → World → Prop :=
 GivesF ρ (psF ps x A) (fun y : In × IA=>y.1 = x') (fun _=>.v (.one (.sb ok))) (fun y=>psF [] y.1 y.2) w
theorem fsel_calls (s : FSel) (g o : Nat) (w : World) (hg : g < w.heap.size) : Calls Tryz.prog s.fn #[.pointer (some ⟨g,o,none⟩)] w (Gives (.pointer (some ⟨g,o + s.off,none⟩)) w):=by
 cases s
 case S =>
  refine Calls.of_ptr g o hg false Tryz.func109 kq kq ?_
  refine V.u ?_
  exact V.ret (.v (.one (.ptr 0 (o + 27)))) kq kq (fun ρ a w' hS=>ptr_fin rfl kq rfl rfl hS)
 case R =>
  refine Calls.of_ptr g o hg false Tryz.func110 kq kq ?_
  refine V.u ?_
  exact V.ret (.v (.one (.ptr 0 (o + 28)))) kq kq (fun ρ a w' hS=>ptr_fin rfl kq rfl rfl hS)
theorem flagFine (x : In) (A : IA) (w : World) : Calls Tryz.prog 204 (([.agg (inV x A)] : List CV).map (CV.den fun _=>0)).toArray w (Gives (.bool true) w):=by
 refine Calls.of_P [] (by intro p hp; cases hp) [.agg (inV x A)] false Tryz.func204 kq kq kq ?_
 refine V.u ?_
 exact V.ret (.v (.one (.bool true))) kq kq (fun ρ a w hS=>⟨rfl,hS.chg⟩)
def bitT (v : Bool) : List UInt8:=match v with
 | true=>[49]
 | false=>[48]
theorem flagText_calls (v : Bool) (w : World) : Calls Tryz.prog 210 #[.bool v] w (Gives (.string ⟨(bitT v).toArray⟩) w):=by
 refine Calls.of_plain [.one (.sb v)] false Tryz.func210 kq kq (by simp [CV.wf,SV.wf]) ?_
 refine V.u ?_
 refine V.branch 3 v kq (fun hv=>?_) (fun hv=>?_)
 ·subst hv
  refine V.u ?_
  exact V.ret (.v (.one (.str [49]))) kq kq (fun ρ a w hS=>⟨rfl,hS.chg⟩)
 ·subst hv
  refine V.u ?_
  exact V.ret (.v (.one (.str [48]))) kq kq (fun ρ a w hS=>⟨rfl,hS.chg⟩)
set_option maxHeartbeats 2000000 in
theorem flagTextF (s : FSel) (x : In) (A : IA) (cb : Nat) (w : World) (hp : PersOk [s.blk cb] w) :
  Calls Tryz.prog 209 (([.agg (inV x A),.one (.val (.pointer (some ⟨cb,0,none⟩)))] : List CV).map (CV.den fun _=>0)).toArray w (Gives (.string ⟨(bitT (s.get x)).toArray⟩) w):=by
 cases s
 case S =>
  refine Calls.of_P _ hp [.agg (inV x A),.one (.val (.pointer (some ⟨cb,0,none⟩)))] false Tryz.func209 kq kq kq ?_
  refine V.u ?_
  refine V.loadP 0 173 cb 0 [FSel.val .S] 173 (.one (FSel.val .S)) kq kq kq kq kq ?_
  refine V.u ?_
  refine V.callQ (FSel.fn .S) [.one (.ptr 0 0)] (.v (.one (.ptr 0 (0 + FSel.off .S)))) kq kq (fun ρ a w hS=>fsel_calls .S (ρ 0) 0 w (hS.lt 0 (Nat.le_of_ble_eq_true kq))) ?_
  refine V.u ?_
  refine V.callP 210 [.one (.sb (FSel.get .S x))] (.v (.one (.str (bitT (FSel.get .S x))))) kq kq (fun _ _ w _=>flagText_calls _ w) ?_
  refine V.u ?_
  exact V.ret (.v (.one (.str (bitT (FSel.get .S x))))) kq kq (fun ρ a w hS=>⟨rfl,hS.chg⟩)
 case R =>
  refine Calls.of_P _ hp [.agg (inV x A),.one (.val (.pointer (some ⟨cb,0,none⟩)))] false Tryz.func209 kq kq kq ?_
  refine V.u ?_
  refine V.loadP 0 173 cb 0 [FSel.val .R] 173 (.one (FSel.val .R)) kq kq kq kq kq ?_
  refine V.u ?_
  refine V.callQ (FSel.fn .R) [.one (.ptr 0 0)] (.v (.one (.ptr 0 (0 + FSel.off .R)))) kq kq (fun ρ a w hS=>fsel_calls .R (ρ 0) 0 w (hS.lt 0 (Nat.le_of_ble_eq_true kq))) ?_
  refine V.u ?_
  refine V.callP 210 [.one (.sb (FSel.get .R x))] (.v (.one (.str (bitT (FSel.get .R x))))) kq kq (fun _ _ w _=>flagText_calls _ w) ?_
  refine V.u ?_
  exact V.ret (.v (.one (.str (bitT (FSel.get .R x))))) kq kq (fun ρ a w hS=>⟨rfl,hS.chg⟩)
set_option maxHeartbeats 2000000 in
theorem flagPut (s : FSel) (x : In) (A : IA) (cb : Nat) (b : WSt) (hb : b.bs.length ≤ 800000000) (ρ : Nat → Nat) (w : World) (hF : FSat ρ (wrF [s.blk cb] b) w) :
  Calls Tryz.prog 205 (([.one (.ptr 0 0),.agg (inV x A),.one (.val (.pointer (some ⟨cb,0,none⟩)))] : List CV).map (CV.den ρ)).toArray w (WrR [s.blk cb] b [bitB (s.get x)] [] ρ w):=by
 cases s
 case S =>
  refine Calls.of_F hF [.one (.ptr 0 0),.agg (inV x A),.one (.val (.pointer (some ⟨cb,0,none⟩)))] false Tryz.func205 kq kq (by simp [CV.wf,SV.wf,wrF,St.W,inV,inC]) ?_
  refine V.u ?_
  refine V.loadP 0 173 cb 0 [FSel.val .S] 173 (.one (FSel.val .S)) kq kq kq kq kq ?_
  refine V.u ?_
  refine V.callQ (FSel.fn .S) [.one (.ptr 1 0)] (.v (.one (.ptr 1 (0 + FSel.off .S)))) kq kq (fun ρ a w hS=>fsel_calls .S (ρ 1) 0 w (hS.lt 1 (Nat.le_of_ble_eq_true kq))) ?_
  refine V.u ?_
  refine V.callW 206 [.one (.ptr 0 0),.one (.sb (FSel.get .S x))] [.one (.ptr 0 0),.one (.sb (FSel.get .S x))] [0] [0,1] [false] (wrF [] b) _ _ _ kq kq kq (fun _=>rfl) (fun _=>kq) (fun ρ w hF=>wflag _ b (by omega) ρ w hF) ?_
  intro b1 e1
  refine V.u ?_
  exact V.retF (⟨b1.bs,b1.q,b1.c,b1.rs,b1.q2,b1.c2⟩ : WSt) [2,3] (.tup []) kq kq kq kq kq kq kq ⟨e1.1,e1.2⟩
 case R =>
  refine Calls.of_F hF [.one (.ptr 0 0),.agg (inV x A),.one (.val (.pointer (some ⟨cb,0,none⟩)))] false Tryz.func205 kq kq (by simp [CV.wf,SV.wf,wrF,St.W,inV,inC]) ?_
  refine V.u ?_
  refine V.loadP 0 173 cb 0 [FSel.val .R] 173 (.one (FSel.val .R)) kq kq kq kq kq ?_
  refine V.u ?_
  refine V.callQ (FSel.fn .R) [.one (.ptr 1 0)] (.v (.one (.ptr 1 (0 + FSel.off .R)))) kq kq (fun ρ a w hS=>fsel_calls .R (ρ 1) 0 w (hS.lt 1 (Nat.le_of_ble_eq_true kq))) ?_
  refine V.u ?_
  refine V.callW 206 [.one (.ptr 0 0),.one (.sb (FSel.get .R x))] [.one (.ptr 0 0),.one (.sb (FSel.get .R x))] [0] [0,1] [false] (wrF [] b) _ _ _ kq kq kq (fun _=>rfl) (fun _=>kq) (fun ρ w hF=>wflag _ b (by omega) ρ w hF) ?_
  intro b1 e1
  refine V.u ?_
  exact V.retF (⟨b1.bs,b1.q,b1.c,b1.rs,b1.q2,b1.c2⟩ : WSt) [2,3] (.tup []) kq kq kq kq kq kq kq ⟨e1.1,e1.2⟩
set_option maxHeartbeats 2000000 in
theorem flagGet (s : FSel) (X : RIn) (r : RSt) (x : In) (A : IA) (cb : Nat) (h : okIn X r) (ρ : Nat → Nat) (w : World) (hF : FSat ρ (gtF [s.blk cb] X r x A) w) :
  Calls Tryz.prog 207 (([.one (.ptr 0 0),.one (.ptr 1 0),.one (.val (.pointer (some ⟨cb,0,none⟩)))] : List CV).map (CV.den ρ)).toArray w (GtR [s.blk cb] X r x A (rdFlag X r).2 (s.set x (rdFlag X r).1) ρ w):=by
 cases s
 case S =>
  refine Calls.of_F hF [.one (.ptr 0 0),.one (.ptr 1 0),.one (.val (.pointer (some ⟨cb,0,none⟩)))] false Tryz.func207 kq kq (by simp [CV.wf,SV.wf,gtF,St.W]) ?_
  refine V.u ?_
  refine V.loadP 0 173 cb 0 [FSel.val .S] 173 (.one (FSel.val .S)) kq kq kq kq kq ?_
  refine V.u ?_
  refine V.callQ (FSel.fn .S) [.one (.ptr 1 0)] (.v (.one (.ptr 1 (0 + FSel.off .S)))) kq kq (fun ρ a w hS=>fsel_calls .S (ρ 1) 0 w (hS.lt 1 (Nat.le_of_ble_eq_true kq))) ?_
  refine V.u ?_
  refine V.callW 208 [.one (.ptr 0 0)] [.one (.ptr 0 0)] [0] [] [false] (rdF [] X r) _ _ _ kq kq kq (fun _=>rfl) (fun _=>kq) (fun ρ w hF=>rflag X r h ρ w hF) ?_
  rintro r1 rfl
  refine V.u ?_
  exact V.retF (⟨(rdFlag X r).2,FSel.set .S x (rdFlag X r).1,A⟩ : RSt × In × IA) [0,1,2] (.tup []) kq kq kq kq kq kq kq ⟨rfl,rfl⟩
 case R =>
  refine Calls.of_F hF [.one (.ptr 0 0),.one (.ptr 1 0),.one (.val (.pointer (some ⟨cb,0,none⟩)))] false Tryz.func207 kq kq (by simp [CV.wf,SV.wf,gtF,St.W]) ?_
  refine V.u ?_
  refine V.loadP 0 173 cb 0 [FSel.val .R] 173 (.one (FSel.val .R)) kq kq kq kq kq ?_
  refine V.u ?_
  refine V.callQ (FSel.fn .R) [.one (.ptr 1 0)] (.v (.one (.ptr 1 (0 + FSel.off .R)))) kq kq (fun ρ a w hS=>fsel_calls .R (ρ 1) 0 w (hS.lt 1 (Nat.le_of_ble_eq_true kq))) ?_
  refine V.u ?_
  refine V.callW 208 [.one (.ptr 0 0)] [.one (.ptr 0 0)] [0] [] [false] (rdF [] X r) _ _ _ kq kq kq (fun _=>rfl) (fun _=>kq) (fun ρ w hF=>rflag X r h ρ w hF) ?_
  rintro r1 rfl
  refine V.u ?_
  exact V.retF (⟨(rdFlag X r).2,FSel.set .R x (rdFlag X r).1,A⟩ : RSt × In × IA) [0,1,2] (.tup []) kq kq kq kq kq kq kq ⟨rfl,rfl⟩
set_option maxHeartbeats 2000000 in
theorem flagMove (s : FSel) (x y : In) (A B : IA) (cb : Nat) (ρ : Nat → Nat) (w : World) (hF : FSat ρ (mvF [s.blk cb] y B) w) :
  Calls Tryz.prog 203 (([.one (.ptr 0 0),.agg (inV x A),.one (.val (.pointer (some ⟨cb,0,none⟩)))] : List CV).map (CV.den ρ)).toArray w (MvR [s.blk cb] y B (s.set y (s.get x)) B ρ w):=by
 cases s
 case S =>
  refine Calls.of_F hF [.one (.ptr 0 0),.agg (inV x A),.one (.val (.pointer (some ⟨cb,0,none⟩)))] false Tryz.func203 kq kq (by simp [CV.wf,SV.wf,mvF,St.W,inV,inC]) ?_
  refine V.u ?_
  refine V.blkIn 2 cb [FSel.val .S] 173 kq kq kq kq kq ?_
  refine V.draw2 8 (FSel.fn .S) [.one (.ptr 0 0)] (.v (.one (.ptr 0 (0 + FSel.off .S)))) (FSel.fn .S) [.one (.ptr 1 0)] (.v (.one (.ptr 1 (0 + FSel.off .S)))) kq kq kq kq (fun ρ a w hS=>fsel_calls .S (ρ 0) 0 w (hS.lt 0 (Nat.le_of_ble_eq_true kq))) kq kq kq (fun ρ a w hS=>fsel_calls .S (ρ 1) 0 w (hS.lt 1 (Nat.le_of_ble_eq_true kq))) kq ?_
  refine V.u ?_
  exact V.retF ((FSel.set .S y (FSel.get .S x),B) : In × IA) [] (.tup []) kq kq kq kq kq kq kq rfl
 case R =>
  refine Calls.of_F hF [.one (.ptr 0 0),.agg (inV x A),.one (.val (.pointer (some ⟨cb,0,none⟩)))] false Tryz.func203 kq kq (by simp [CV.wf,SV.wf,mvF,St.W,inV,inC]) ?_
  refine V.u ?_
  refine V.blkIn 2 cb [FSel.val .R] 173 kq kq kq kq kq ?_
  refine V.draw2 8 (FSel.fn .R) [.one (.ptr 0 0)] (.v (.one (.ptr 0 (0 + FSel.off .R)))) (FSel.fn .R) [.one (.ptr 1 0)] (.v (.one (.ptr 1 (0 + FSel.off .R)))) kq kq kq kq (fun ρ a w hS=>fsel_calls .R (ρ 0) 0 w (hS.lt 0 (Nat.le_of_ble_eq_true kq))) kq kq kq (fun ρ a w hS=>fsel_calls .R (ρ 1) 0 w (hS.lt 1 (Nat.le_of_ble_eq_true kq))) kq ?_
  refine V.u ?_
  exact V.retF ((FSel.set .R y (FSel.get .R x),B) : In × IA) [] (.tup []) kq kq kq kq kq kq kq rfl
set_option maxHeartbeats 2000000 in
theorem flagParse (s : FSel) (l : List UInt8) (x : In) (A : IA) (cb : Nat) (ρ : Nat → Nat) (w : World) (hF : FSat ρ (psF [s.blk cb] x A) w) :
  Calls Tryz.prog 211 (([.one (.str l),.one (.ptr 0 0),.one (.val (.pointer (some ⟨cb,0,none⟩)))] : List CV).map (CV.den ρ)).toArray w (PsR [s.blk cb] x A ((l == [48]) || (l == [49])) (s.set x (l == [49])) ρ w):=by
 cases s
 case S =>
  refine Calls.of_F hF [.one (.str l),.one (.ptr 0 0),.one (.val (.pointer (some ⟨cb,0,none⟩)))] false Tryz.func211 kq kq (by simp [CV.wf,SV.wf,psF,St.W]) ?_
  refine V.u ?_
  refine V.loadP 0 173 cb 0 [FSel.val .S] 173 (.one (FSel.val .S)) kq kq kq kq kq ?_
  refine V.u ?_
  refine V.callQ (FSel.fn .S) [.one (.ptr 0 0)] (.v (.one (.ptr 0 (0 + FSel.off .S)))) kq kq (fun ρ a w hS=>fsel_calls .S (ρ 0) 0 w (hS.lt 0 (Nat.le_of_ble_eq_true kq))) ?_
  refine V.u ?_
  exact V.retF ((FSel.set .S x (l == [49]),A) : In × IA) [0,1,2] (.v (.one (.sb ((l == [48]) || (l == [49]))))) kq kq kq kq kq kq kq rfl
 case R =>
  refine Calls.of_F hF [.one (.str l),.one (.ptr 0 0),.one (.val (.pointer (some ⟨cb,0,none⟩)))] false Tryz.func211 kq kq (by simp [CV.wf,SV.wf,psF,St.W]) ?_
  refine V.u ?_
  refine V.loadP 0 173 cb 0 [FSel.val .R] 173 (.one (FSel.val .R)) kq kq kq kq kq ?_
  refine V.u ?_
  refine V.callQ (FSel.fn .R) [.one (.ptr 0 0)] (.v (.one (.ptr 0 (0 + FSel.off .R)))) kq kq (fun ρ a w hS=>fsel_calls .R (ρ 0) 0 w (hS.lt 0 (Nat.le_of_ble_eq_true kq))) ?_
  refine V.u ?_
  exact V.retF ((FSel.set .R x (l == [49]),A) : In × IA) [0,1,2] (.v (.one (.sb ((l == [48]) || (l == [49]))))) kq kq kq kq kq kq kq rfl
def isPl (n : Int) : Bool:=decide (n ≥ 0) && decide (n ≤ 1048576)
set_option maxHeartbeats 2000000 in
theorem plFine (s : Sel) (x : In) (A : IA) (cb : Nat) (w : World) (hp : PersOk [s.blk cb] w) :
  Calls Tryz.prog 212 (([.agg (inV x A),.one (.val (.pointer (some ⟨cb,0,none⟩)))] : List CV).map (CV.den fun _=>0)).toArray w (Gives (.bool (isPl (s.get x))) w):=by
 have tg : Tg s:=⟨⟩
 cases s
 all_goals
  refine Calls.of_P _ hp [.agg (inV x A),.one (.val (.pointer (some ⟨cb,0,none⟩)))] false Tryz.func212 kq kq kq ?_
  refine V.u ?_
  refine V.loadP 0 159 cb 0 [Sel.val tg.i] 159 (.one (Sel.val tg.i)) kq kq kq kq kq ?_
  refine V.u ?_
  refine V.callQ (Sel.fn tg.i) [.one (.ptr 0 0)] (.v (.one (.ptr 0 (0 + Sel.off tg.i)))) kq kq (fun ρ a w hS=>sel_calls tg.i (ρ 0) 0 w (hS.lt 0 (Nat.le_of_ble_eq_true kq))) ?_
  refine V.u ?_
  refine V.split 9 (decide (Sel.get tg.i x ≥ 0)) kq (fun hb=>?_) (fun hb=>?_)
  ·have e : isPl (Sel.get tg.i x) = decide (Sel.get tg.i x ≤ 1048576):=by simp only [isPl,hb,Bool.true_and]
   rw [e]
   refine V.u ?_
   refine V.loadP 0 159 cb 0 [Sel.val tg.i] 159 (.one (Sel.val tg.i)) kq kq kq kq kq ?_
   refine V.u ?_
   refine V.callQ (Sel.fn tg.i) [.one (.ptr 0 0)] (.v (.one (.ptr 0 (0 + Sel.off tg.i)))) kq kq (fun ρ a w hS=>sel_calls tg.i (ρ 0) 0 w (hS.lt 0 (Nat.le_of_ble_eq_true kq))) ?_
   refine V.u ?_
   exact V.ret (.v (.one (.sb (decide (Sel.get tg.i x ≤ 1048576))))) kq kq (fun ρ a w hS=>⟨rfl,hS.chg⟩)
  ·have e : isPl (Sel.get tg.i x) = false:=by simp only [isPl,hb,Bool.false_and]
   rw [e]
   refine V.u ?_
   exact V.ret (.v (.one (.bool false))) kq kq (fun ρ a w hS=>⟨rfl,hS.chg⟩)
set_option maxHeartbeats 2000000 in
theorem plPut (s : Sel) (x : In) (A : IA) (cb : Nat) (b : WSt) (hb : b.bs.length ≤ 800000000) (ρ : Nat → Nat) (w : World) (hF : FSat ρ (wrF [s.blk cb] b) w) :
  Calls Tryz.prog 213 (([.one (.ptr 0 0),.agg (inV x A),.one (.val (.pointer (some ⟨cb,0,none⟩)))] : List CV).map (CV.den ρ)).toArray w (WrR [s.blk cb] b (fourB (s.get x)) [] ρ w):=by
 have tg : Tg s:=⟨⟩
 cases s
 all_goals
  refine Calls.of_F hF [.one (.ptr 0 0),.agg (inV x A),.one (.val (.pointer (some ⟨cb,0,none⟩)))] false Tryz.func213 kq kq (by simp [CV.wf,SV.wf,wrF,St.W,inV,inC]) ?_
  refine V.u ?_
  refine V.loadP 0 159 cb 0 [Sel.val tg.i] 159 (.one (Sel.val tg.i)) kq kq kq kq kq ?_
  refine V.u ?_
  refine V.callQ (Sel.fn tg.i) [.one (.ptr 1 0)] (.v (.one (.ptr 1 (0 + Sel.off tg.i)))) kq kq (fun ρ a w hS=>sel_calls tg.i (ρ 1) 0 w (hS.lt 1 (Nat.le_of_ble_eq_true kq))) ?_
  refine V.u ?_
  refine V.callW 214 [.one (.ptr 0 0),.one (.int .i64 (Sel.get tg.i x))] [.one (.ptr 0 0),.one (.int .i64 (Sel.get tg.i x))] [0] [0,1] [false] (wrF [] b) _ _ _ kq kq kq (fun _=>rfl) (fun _=>kq) (fun ρ w hF=>wfour _ b (by omega) ρ w hF) ?_
  intro b1 e1
  refine V.u ?_
  exact V.retF (⟨b1.bs,b1.q,b1.c,b1.rs,b1.q2,b1.c2⟩ : WSt) [2,3] (.tup []) kq kq kq kq kq kq kq ⟨e1.1,e1.2⟩
set_option maxHeartbeats 2000000 in
theorem plGet (s : Sel) (X : RIn) (r : RSt) (x : In) (A : IA) (cb : Nat) (h : okIn X r) (ρ : Nat → Nat) (w : World) (hF : FSat ρ (gtF [s.blk cb] X r x A) w) :
  Calls Tryz.prog 215 (([.one (.ptr 0 0),.one (.ptr 1 0),.one (.val (.pointer (some ⟨cb,0,none⟩)))] : List CV).map (CV.den ρ)).toArray w (GtR [s.blk cb] X r x A (rdFour X r).2 (s.set x (rdFour X r).1) ρ w):=by
 have tg : Tg s:=⟨⟩
 cases s
 all_goals
  refine Calls.of_F hF [.one (.ptr 0 0),.one (.ptr 1 0),.one (.val (.pointer (some ⟨cb,0,none⟩)))] false Tryz.func215 kq kq (by simp [CV.wf,SV.wf,gtF,St.W]) ?_
  refine V.u ?_
  refine V.loadP 0 159 cb 0 [Sel.val tg.i] 159 (.one (Sel.val tg.i)) kq kq kq kq kq ?_
  refine V.u ?_
  refine V.callQ (Sel.fn tg.i) [.one (.ptr 1 0)] (.v (.one (.ptr 1 (0 + Sel.off tg.i)))) kq kq (fun ρ a w hS=>sel_calls tg.i (ρ 1) 0 w (hS.lt 1 (Nat.le_of_ble_eq_true kq))) ?_
  refine V.u ?_
  refine V.callW 216 [.one (.ptr 0 0)] [.one (.ptr 0 0)] [0] [] [false] (rdF [] X r) _ _ _ kq kq kq (fun _=>rfl) (fun _=>kq) (fun ρ w hF=>rfour X r h ρ w hF) ?_
  rintro r1 rfl
  refine V.u ?_
  exact V.retF (⟨(rdFour X r).2,Sel.set tg.i x (rdFour X r).1,A⟩ : RSt × In × IA) [0,1,2] (.tup []) kq kq kq kq kq kq kq ⟨rfl,rfl⟩
set_option maxHeartbeats 2000000 in
theorem plText (s : Sel) (x : In) (A : IA) (cb : Nat) (hx : int64 (s.get x)) (hl : (Lib.itoa (s.get x)).length ≤ 100) (w : World) (hp : PersOk [tabP,s.blk cb] w) :
  Calls Tryz.prog 217 (([.agg (inV x A),.one (.val (.pointer (some ⟨cb,0,none⟩)))] : List CV).map (CV.den fun _=>0)).toArray w (Gives (.string ⟨(64 :: Lib.itoa (s.get x)).toArray⟩) w):=by
 have tg : Tg s:=⟨⟩
 have hl : (Lib.itoa (tg.i.get x)).length ≤ 100:=hl
 have hx : int64 (tg.i.get x):=hx
 cases s
 all_goals
  refine Calls.of_P _ hp [.agg (inV x A),.one (.val (.pointer (some ⟨cb,0,none⟩)))] false Tryz.func217 kq kq kq ?_
  refine V.u ?_
  refine V.loadP 1 159 cb 0 [Sel.val tg.i] 159 (.one (Sel.val tg.i)) kq kq kq kq kq ?_
  refine V.u ?_
  refine V.callQ (Sel.fn tg.i) [.one (.ptr 0 0)] (.v (.one (.ptr 0 (0 + Sel.off tg.i)))) kq kq (fun ρ a w hS=>sel_calls tg.i (ρ 0) 0 w (hS.lt 0 (Nat.le_of_ble_eq_true kq))) ?_
  refine V.u ?_
  refine V.callP 123 [.one (.int .i64 (Sel.get tg.i x))] (.v (.one (.str (Lib.itoa (Sel.get tg.i x))))) kq kq (fun ρ a w hS=>itoa_calls _ hx.1 hx.2 w (hS.pers tabP (List.mem_of_getElem? (i:=0) kq)).1) ?_
  refine V.run 100 [(1 + (Lib.itoa (Sel.get tg.i x)).length : Nat) ≤ 9223372036854775807] kq (by simp only [allP]; omega) ?_
  exact V.ret (.v (.one (.str ([64] ++ Lib.itoa (Sel.get tg.i x))))) kq kq (fun ρ a w hS=>⟨rfl,hS.chg⟩)
theorem valMove (x y : In) (A B : IA) (ρ : Nat → Nat) (w : World) (hF : FSat ρ (mvF [] y B) w) :
  Calls Tryz.prog 177 (([.one (.ptr 0 0),.agg (inV x A)] : List CV).map (CV.den ρ)).toArray w (MvR [] y B { y with vn:=x.vn,vs:=x.vs } B ρ w):=by
 refine Calls.of_F hF [.one (.ptr 0 0),.agg (inV x A)] false Tryz.func177 kq kq (by simp [CV.wf,SV.wf,mvF,St.W,inV,inC]) ?_
 refine V.u ?_
 exact V.retF (({ y with vn:=x.vn,vs:=x.vs },B) : In × IA) [] (.tup []) kq kq kq kq kq kq kq rfl
def isVal (x : In) : Bool:=isNum x.vn && decide ((x.vs.length : Int) ≤ 255)
theorem valFine (x : In) (A : IA) (w : World) : Calls Tryz.prog 178 (([.agg (inV x A)] : List CV).map (CV.den fun _=>0)).toArray w (Gives (.bool (isVal x)) w):=by
 refine Calls.of_P [] (by intro p hp; cases hp) [.agg (inV x A)] false Tryz.func178 kq kq kq ?_
 refine V.u ?_
 refine V.callP 53 [.one (.int .i64 x.vn)] (.v (.one (.sb (isNum x.vn)))) kq kq (fun _ _ w _=>isNumber_calls _ w) ?_
 refine V.u ?_
 exact V.ret (.v (.one (.sb (isVal x)))) kq kq (fun ρ a w hS=>⟨rfl,hS.chg⟩)
set_option maxHeartbeats 2000000 in
theorem valPut (x : In) (A : IA) (b : WSt) (h1 : num32 x.vn) (hl : x.vs.length ≤ 50000000) (hb : b.bs.length ≤ 800000000) (ρ : Nat → Nat) (w : World) (hF : FSat ρ (wrF [] b) w) :
  Calls Tryz.prog 179 (([.one (.ptr 0 0),.agg (inV x A)] : List CV).map (CV.den ρ)).toArray w (WrR [] b (encN x.vn ++ encS x.vs) [] ρ w):=by
 refine Calls.of_F hF [.one (.ptr 0 0),.agg (inV x A)] true Tryz.func179 kq kq (by simp [CV.wf,SV.wf,wrF,St.W,inV,inC]) ?_
 refine V.u ?_
 refine V.callW 54 [.one (.ptr 0 0),.one (.int .i64 x.vn)] [.one (.ptr 0 0),.one (.int .i64 x.vn)] [0] [0,1] [] (wrF [] b) _ _ _ kq kq kq (fun _=>rfl) (fun _=>kq) (fun ρ w hF=>wnumber _ b h1.1 h1.2 (by omega) ρ w hF) ?_
 intro b1 e1
 have l1 : b1.bs.length ≤ b.bs.length + 10:=by rw [e1.1]; have:=groups_len 9 (zz x.vn); simp only [List.length_append]; omega
 refine V.u ?_
 refine V.callW 180 [.one (.ptr 0 0),.one (.str x.vs)] [.one (.ptr 0 0),.one (.str x.vs)] [0] [2,3] [] (wrF [] b1) _ _ _ kq kq kq (fun _=>rfl) (fun _=>kq) (fun ρ w hF=>wstr _ b1 (by omega) (by omega) ρ w hF) ?_
 intro b2 e2
 refine V.u ?_
 refine V.retF (⟨b2.bs,b2.q,b2.c,b2.rs,b2.q2,b2.c2⟩ : WSt) [4,5] (.tup []) kq kq kq kq kq kq kq ⟨?_,?_⟩
 ·simp only [e2.1,e1.1,encN,encS,List.append_assoc]
 ·simp only [e2.2,e1.2,List.append_nil]
set_option maxHeartbeats 2000000 in
theorem valGet (X : RIn) (r : RSt) (x : In) (A : IA) (h : okIn X r) (ρ : Nat → Nat) (w : World) (hF : FSat ρ (gtF [] X r x A) w) :
  Calls Tryz.prog 181 (([.one (.ptr 0 0),.one (.ptr 1 0)] : List CV).map (CV.den ρ)).toArray w (GtR [] X r x A (rdStr X (rdNum X r).2).2 { x with vn:=(rdNum X r).1,vs:=(rdStr X (rdNum X r).2).1 } ρ w):=by
 have h1:=(rdNum_ok h).1
 refine Calls.of_F hF [.one (.ptr 0 0),.one (.ptr 1 0)] false Tryz.func181 kq kq (by simp [CV.wf,SV.wf,gtF,St.W]) ?_
 refine V.u ?_
 refine V.callW 57 [.one (.ptr 0 0)] [.one (.ptr 0 0)] [0] [] [] (rdF [] X r) _ _ _ kq kq kq (fun _=>rfl) (fun _=>kq) (fun ρ w hF=>rnumber X r h ρ w hF) ?_
 rintro r1 rfl
 refine V.u ?_
 refine V.callW 182 [.one (.ptr 0 0)] [.one (.ptr 0 0)] [0] [] [] (rdF [] X _) _ _ _ kq kq kq (fun _=>rfl) (fun _=>kq) (fun ρ w hF=>rstr X _ h1 ρ w hF) ?_
 rintro r1 rfl
 refine V.u ?_
 exact V.retF (⟨(rdStr X (rdNum X r).2).2,{ x with vn:=(rdNum X r).1,vs:=(rdStr X (rdNum X r).2).1 },A⟩ : RSt × In × IA) [0,1,2] (.tup []) kq kq kq kq kq kq kq ⟨rfl,rfl⟩
set_option maxHeartbeats 2000000 in
theorem farPut (x : In) (A : IA) (b : WSt) (hb : b.bs.length ≤ 800000000) (hr : b.rs.length ≤ 800000000) (ρ : Nat → Nat) (w : World) (hF : FSat ρ (wrF [] b) w) :
  Calls Tryz.prog 229 (([.one (.ptr 0 0),.agg (inV x A)] : List CV).map (CV.den ρ)).toArray w (WrR [] b (fourB x.n) [((b.bs.length : Nat),x.p)] ρ w):=by
 refine Calls.of_F hF [.one (.ptr 0 0),.agg (inV x A)] true Tryz.func229 kq kq (by simp [CV.wf,SV.wf,wrF,St.W,inV,inC]) ?_
 refine V.u ?_
 refine V.callW 222 [.one (.ptr 0 0),.one (.int .i64 x.p)] [.one (.ptr 0 0),.one (.int .i64 x.p)] [0] [0,1] [] (wrF [] b) _ _ _ kq kq kq (fun _=>rfl) (fun _=>kq) (fun ρ w hF=>wreloc _ b (by omega) ρ w hF) ?_
 intro b1 e1
 have l1 : b1.bs.length ≤ b.bs.length:=by rw [e1.1,List.append_nil]; exact Nat.le_refl _
 refine V.u ?_
 refine V.callW 214 [.one (.ptr 0 0),.one (.int .i64 x.n)] [.one (.ptr 0 0),.one (.int .i64 x.n)] [0] [2,3] [] (wrF [] b1) _ _ _ kq kq kq (fun _=>rfl) (fun _=>kq) (fun ρ w hF=>wfour _ b1 (by omega) ρ w hF) ?_
 intro b2 e2
 refine V.u ?_
 refine V.retF (⟨b2.bs,b2.q,b2.c,b2.rs,b2.q2,b2.c2⟩ : WSt) [4,5] (.tup []) kq kq kq kq kq kq kq ⟨?_,?_⟩
 ·simp only [e2.1,e1.1,List.append_nil]
 ·simp only [e2.2,e1.2,List.append_nil]
def encP (n : Int) : List UInt8:=if n < 0 then fourB (-1) else fourB 0
def relP (n : Int) (at_ : Nat) : List (Int × Int):=if n < 0 then [] else [((at_ : Int),n)]
set_option maxHeartbeats 2000000 in
theorem procPut (s : Sel) (x : In) (A : IA) (cb : Nat) (b : WSt) (hb : b.bs.length ≤ 800000000) (hr : b.rs.length ≤ 800000000) (ρ : Nat → Nat) (w : World) (hF : FSat ρ (wrF [s.blk cb] b) w) :
  Calls Tryz.prog 221 (([.one (.ptr 0 0),.agg (inV x A),.one (.val (.pointer (some ⟨cb,0,none⟩)))] : List CV).map (CV.den ρ)).toArray w (WrR [s.blk cb] b (encP (s.get x)) (relP (s.get x) b.bs.length) ρ w):=by
 have tg : Tg s:=⟨⟩
 cases s
 all_goals
  refine Calls.of_F hF [.one (.ptr 0 0),.agg (inV x A),.one (.val (.pointer (some ⟨cb,0,none⟩)))] false Tryz.func221 kq kq (by simp [CV.wf,SV.wf,wrF,St.W,inV,inC]) ?_
  refine V.u ?_
  refine V.loadP 0 159 cb 0 [Sel.val tg.i] 159 (.one (Sel.val tg.i)) kq kq kq kq kq ?_
  refine V.u ?_
  refine V.callQ (Sel.fn tg.i) [.one (.ptr 1 0)] (.v (.one (.ptr 1 (0 + Sel.off tg.i)))) kq kq (fun ρ a w hS=>sel_calls tg.i (ρ 1) 0 w (hS.lt 1 (Nat.le_of_ble_eq_true kq))) ?_
  refine V.u ?_
  refine V.branch 9 (decide (Sel.get tg.i x < 0)) kq (fun hn=>?_) (fun hn=>?_)
  ·have hn' : Sel.get tg.i x < 0:=by simpa using hn
   simp only [encP,relP,if_pos hn']
   refine V.u ?_
   refine V.callW 214 [.one (.ptr 0 0),.one (.int .i64 (-1))] [.one (.ptr 0 0),.one (.int .i64 (-1))] [0] [0,1] [false] (wrF [] b) _ _ _ kq kq kq (fun _=>rfl) (fun _=>kq) (fun ρ w hF=>wfour _ b (by omega) ρ w hF) ?_
   intro b1 e1
   refine V.u ?_
   exact V.retF (⟨b1.bs,b1.q,b1.c,b1.rs,b1.q2,b1.c2⟩ : WSt) [2,3] (.tup []) kq kq kq kq kq kq kq ⟨e1.1,e1.2⟩
  ·have hn' : ¬ Sel.get tg.i x < 0:=by simpa using hn
   simp only [encP,relP,if_neg hn']
   refine V.u ?_
   refine V.loadP 0 159 cb 0 [Sel.val tg.i] 159 (.one (Sel.val tg.i)) kq kq kq kq kq ?_
   refine V.u ?_
   refine V.callQ (Sel.fn tg.i) [.one (.ptr 1 0)] (.v (.one (.ptr 1 (0 + Sel.off tg.i)))) kq kq (fun ρ a w hS=>sel_calls tg.i (ρ 1) 0 w (hS.lt 1 (Nat.le_of_ble_eq_true kq))) ?_
   refine V.u ?_
   refine V.callW 222 [.one (.ptr 0 0),.one (.int .i64 (Sel.get tg.i x))] [.one (.ptr 0 0),.one (.int .i64 (Sel.get tg.i x))] [0] [0,1] [false] (wrF [] b) _ _ _ kq kq kq (fun _=>rfl) (fun _=>kq) (fun ρ w hF=>wreloc _ b (by omega) ρ w hF) ?_
   intro b1 e1
   have l1 : b1.bs.length ≤ b.bs.length:=by rw [e1.1,List.append_nil]; exact Nat.le_refl _
   refine V.u ?_
   refine V.callW 214 [.one (.ptr 0 0),.one (.int .i64 (0))] [.one (.ptr 0 0),.one (.int .i64 (0))] [0] [2,3] [false] (wrF [] b1) _ _ _ kq kq kq (fun _=>rfl) (fun _=>kq) (fun ρ w hF=>wfour _ b1 (by omega) ρ w hF) ?_
   intro b2 e2
   refine V.u ?_
   refine V.retF (⟨b2.bs,b2.q,b2.c,b2.rs,b2.q2,b2.c2⟩ : WSt) [4,5] (.tup []) kq kq kq kq kq kq kq ⟨?_,?_⟩
   ·simp only [e2.1,e1.1,List.append_nil]
   ·simp only [e2.2,e1.2,List.append_nil]
def isPr (no : Bool) (n : Int) : Bool:=(decide (n ≥ 0) && decide (n ≤ 63)) || (no && (n == -1))
set_option maxHeartbeats 2000000 in
theorem procFine (s : Sel) (no : Bool) (x : In) (A : IA) (cb cn : Nat) (w : World) (hp : PersOk [s.blk cb,blkP cn [.sb no] 4] w) :
  Calls Tryz.prog 220 (([.agg (inV x A),.one (.val (.pointer (some ⟨cb,0,none⟩))),.one (.val (.pointer (some ⟨cn,0,none⟩)))] : List CV).map (CV.den fun _=>0)).toArray w (Gives (.bool (isPr no (s.get x))) w):=by
 have tg : Tg s:=⟨⟩
 cases s
 all_goals
  refine Calls.of_P _ hp [.agg (inV x A),.one (.val (.pointer (some ⟨cb,0,none⟩))),.one (.val (.pointer (some ⟨cn,0,none⟩)))] false Tryz.func220 kq kq kq ?_
  refine V.u ?_
  refine V.loadP 0 159 cb 0 [Sel.val tg.i] 159 (.one (Sel.val tg.i)) kq kq kq kq kq ?_
  refine V.u ?_
  refine V.callQ (Sel.fn tg.i) [.one (.ptr 0 0)] (.v (.one (.ptr 0 (0 + Sel.off tg.i)))) kq kq (fun ρ a w hS=>sel_calls tg.i (ρ 0) 0 w (hS.lt 0 (Nat.le_of_ble_eq_true kq))) ?_
  refine V.u ?_
  refine V.split 16 (decide (Sel.get tg.i x ≥ 0) && decide (Sel.get tg.i x ≤ 63)) kq (fun hb=>?_) (fun hb=>?_)
  ·have e : isPr no (Sel.get tg.i x) = true:=by simp only [isPr,hb,Bool.true_or]
   rw [e]
   refine V.u ?_
   exact V.ret (.v (.one (.bool true))) kq kq (fun ρ a w hS=>⟨rfl,hS.chg⟩)
  ·have e : isPr no (Sel.get tg.i x) = (no && (Sel.get tg.i x == -1)):=by simp only [isPr,hb,Bool.false_or]
   rw [e]
   refine V.u ?_
   refine V.loadP 1 4 cn 0 [.sb no] 4 (.one (.sb no)) kq kq kq kq kq ?_
   refine V.u ?_
   exact V.ret (.v (.one (.sb (no && (Sel.get tg.i x == -1))))) kq kq (fun ρ a w hS=>⟨rfl,hS.chg⟩)
def rdPr (no : Bool) (rl : List (Int × Int)) (X : RIn) (r : RSt) (old : Int) : Int × RSt :=
 if (no && ((rdFour X r).1 == -1)) = true then (-1,(rdFour X r).2)
 else if ((rdFour X r).1 == 0) = true then rdRel rl (r.at_ : Int) (rdFour X r).2
 else (old,⟨(rdFour X r).2.at_,true⟩)
set_option maxHeartbeats 2000000 in
theorem procGet (s : Sel) (no : Bool) (rl : List (Int × Int)) (X : RIn) (hX : X.n = rl.length) (hl : rl.length ≤ 1000000000) (r : RSt) (x : In) (A : IA) (cb cn : Nat) (h : okIn X r) (ρ : Nat → Nat) (w : World) (hF : FSat ρ (gtF [blkP cn [.sb no] 4,s.blk cb,rowP (relRow rl X.q X.c)] X r x A) w) :
  Calls Tryz.prog 223 (([.one (.ptr 0 0),.one (.ptr 1 0),.one (.val (.pointer (some ⟨cn,0,none⟩))),.one (.val (.pointer (some ⟨cb,0,none⟩)))] : List CV).map (CV.den ρ)).toArray w (GtR [blkP cn [.sb no] 4,s.blk cb,rowP (relRow rl X.q X.c)] X r x A (rdPr no rl X r (s.get x)).2 (s.set x (rdPr no rl X r (s.get x)).1) ρ w):=by
 have tg : Tg s:=⟨⟩
 cases s
 all_goals
  refine Calls.of_F hF [.one (.ptr 0 0),.one (.ptr 1 0),.one (.val (.pointer (some ⟨cn,0,none⟩))),.one (.val (.pointer (some ⟨cb,0,none⟩)))] false Tryz.func223 kq kq (by simp [CV.wf,SV.wf,gtF,St.W]) ?_
  refine V.u ?_
  refine V.callW 216 [.one (.ptr 0 0)] [.one (.ptr 0 0)] [0] [] [false,false,false] (rdF [] X r) _ _ _ kq kq kq (fun _=>rfl) (fun _=>kq) (fun ρ w hF=>rfour X r h ρ w hF) ?_
  rintro r1 rfl
  refine V.u ?_
  refine V.loadP 0 4 cn 0 [.sb no] 4 (.one (.sb no)) kq kq kq kq kq ?_
  refine V.u ?_
  refine V.branch 17 (no && ((rdFour X r).1 == -1)) kq (fun hb=>?_) (fun hb=>?_)
  ·have e : rdPr no rl X r (Sel.get tg.i x) = (-1,(rdFour X r).2):=by simp only [rdPr,if_pos hb]
   rw [e]
   refine V.u ?_
   refine V.loadP 1 159 cb 0 [Sel.val tg.i] 159 (.one (Sel.val tg.i)) kq kq kq kq kq ?_
   refine V.u ?_
   refine V.callQ (Sel.fn tg.i) [.one (.ptr 1 0)] (.v (.one (.ptr 1 (0 + Sel.off tg.i)))) kq kq (fun ρ a w hS=>sel_calls tg.i (ρ 1) 0 w (hS.lt 1 (Nat.le_of_ble_eq_true kq))) ?_
   refine V.u ?_
   exact V.retF (⟨(rdFour X r).2,Sel.set tg.i x (-1),A⟩ : RSt × In × IA) [0,1,2] (.tup []) kq kq kq kq kq kq kq ⟨rfl,rfl⟩
  ·refine V.u ?_
   refine V.branch 27 ((rdFour X r).1 == 0) kq (fun hc=>?_) (fun hc=>?_)
   ·have e : rdPr no rl X r (Sel.get tg.i x) = rdRel rl (r.at_ : Int) (rdFour X r).2:=by simp only [rdPr,hb,Bool.false_eq_true,if_false,if_pos hc]
    rw [e]
    refine V.u ?_
    refine V.loadP 1 159 cb 0 [Sel.val tg.i] 159 (.one (Sel.val tg.i)) kq kq kq kq kq ?_
    refine V.u ?_
    refine V.callQ (Sel.fn tg.i) [.one (.ptr 1 0)] (.v (.one (.ptr 1 (0 + Sel.off tg.i)))) kq kq (fun ρ a w hS=>sel_calls tg.i (ρ 1) 0 w (hS.lt 1 (Nat.le_of_ble_eq_true kq))) ?_
    refine V.u ?_
    refine V.callW 224 [.one (.ptr 0 0),.one (.int .i64 (r.at_ : Int))] [.one (.ptr 0 0),.one (.int .i64 (r.at_ : Int))] [0] [] [false,false,true] (rdF [rowP (relRow rl X.q X.c)] X (rdFour X r).2) _ _ _ kq kq kq (fun _=>rfl) (fun _=>kq) (fun ρ w hF=>rreloc rl X hX _ _ hl ρ w hF) ?_
    rintro r1 rfl
    refine V.u ?_
    exact V.retF (⟨(rdRel rl (r.at_ : Int) (rdFour X r).2).2,Sel.set tg.i x (rdRel rl (r.at_ : Int) (rdFour X r).2).1,A⟩ : RSt × In × IA) [0,1,2] (.tup []) kq kq kq kq kq kq kq ⟨rfl,rfl⟩
   ·have e : rdPr no rl X r (Sel.get tg.i x) = (Sel.get tg.i x,⟨(rdFour X r).2.at_,true⟩):=by simp only [rdPr,hb,hc,Bool.false_eq_true,if_false]
    rw [e]
    refine V.u ?_
    refine V.soft 0 ?_
    exact V.retF (⟨⟨(rdFour X r).2.at_,true⟩,Sel.set tg.i x (Sel.get tg.i x),A⟩ : RSt × In × IA) [0,1,2] (.tup []) kq kq kq kq kq kq kq ⟨rfl,rfl⟩
def prT (n : Int) : List UInt8:=if n < 0 then [33,45] else 33 :: Lib.itoa n
set_option maxHeartbeats 2000000 in
theorem procText (s : Sel) (x : In) (A : IA) (cb : Nat) (hx : int64 (s.get x)) (hl : (Lib.itoa (s.get x)).length ≤ 100) (w : World) (hp : PersOk [tabP,s.blk cb] w) :
  Calls Tryz.prog 225 (([.agg (inV x A),.one (.val (.pointer (some ⟨cb,0,none⟩)))] : List CV).map (CV.den fun _=>0)).toArray w (Gives (.string ⟨(prT (s.get x)).toArray⟩) w):=by
 have tg : Tg s:=⟨⟩
 have hl : (Lib.itoa (tg.i.get x)).length ≤ 100:=hl
 have hx : int64 (tg.i.get x):=hx
 cases s
 all_goals
  refine Calls.of_P _ hp [.agg (inV x A),.one (.val (.pointer (some ⟨cb,0,none⟩)))] false Tryz.func225 kq kq kq ?_
  refine V.u ?_
  refine V.loadP 1 159 cb 0 [Sel.val tg.i] 159 (.one (Sel.val tg.i)) kq kq kq kq kq ?_
  refine V.u ?_
  refine V.callQ (Sel.fn tg.i) [.one (.ptr 0 0)] (.v (.one (.ptr 0 (0 + Sel.off tg.i)))) kq kq (fun ρ a w hS=>sel_calls tg.i (ρ 0) 0 w (hS.lt 0 (Nat.le_of_ble_eq_true kq))) ?_
  refine V.u ?_
  refine V.branch 8 (decide (Sel.get tg.i x < 0)) kq (fun hn=>?_) (fun hn=>?_)
  ·have hn' : Sel.get tg.i x < 0:=by simpa using hn
   simp only [prT,if_pos hn']
   refine V.u ?_
   exact V.ret (.v (.one (.str [33,45]))) kq kq (fun ρ a w hS=>⟨rfl,hS.chg⟩)
  ·have hn' : ¬ Sel.get tg.i x < 0:=by simpa using hn
   simp only [prT,if_neg hn']
   refine V.u ?_
   refine V.loadP 1 159 cb 0 [Sel.val tg.i] 159 (.one (Sel.val tg.i)) kq kq kq kq kq ?_
   refine V.u ?_
   refine V.callQ (Sel.fn tg.i) [.one (.ptr 0 0)] (.v (.one (.ptr 0 (0 + Sel.off tg.i)))) kq kq (fun ρ a w hS=>sel_calls tg.i (ρ 0) 0 w (hS.lt 0 (Nat.le_of_ble_eq_true kq))) ?_
   refine V.u ?_
   refine V.callP 123 [.one (.int .i64 (Sel.get tg.i x))] (.v (.one (.str (Lib.itoa (Sel.get tg.i x))))) kq kq (fun ρ a w hS=>itoa_calls _ hx.1 hx.2 w (hS.pers tabP (List.mem_of_getElem? (i:=0) kq)).1) ?_
   refine V.run 100 [(1 + (Lib.itoa (Sel.get tg.i x)).length : Nat) ≤ 9223372036854775807] kq (by simp only [allP]; omega) ?_
   exact V.ret (.v (.one (.str ([33] ++ Lib.itoa (Sel.get tg.i x))))) kq kq (fun ρ a w hS=>⟨rfl,hS.chg⟩)
def isFar (x : In) : Bool:=decide (x.p ≥ 0) && decide (x.p ≤ 63) && decide (x.n ≥ 0) && decide (x.n ≤ 1048576)
theorem farFine (x : In) (A : IA) (w : World) : Calls Tryz.prog 228 (([.agg (inV x A)] : List CV).map (CV.den fun _=>0)).toArray w (Gives (.bool (isFar x)) w):=by
 refine Calls.of_P [] (by intro p hp; cases hp) [.agg (inV x A)] false Tryz.func228 kq kq kq ?_
 refine V.u ?_
 exact V.ret (.v (.one (.sb (isFar x)))) kq kq (fun ρ a w hS=>⟨rfl,hS.chg⟩)
set_option maxHeartbeats 2000000 in
theorem farGet (rl : List (Int × Int)) (X : RIn) (hX : X.n = rl.length) (hl : rl.length ≤ 1000000000) (r : RSt) (x : In) (A : IA) (h' : okIn X (rdRel rl (r.at_ : Int) r).2) (ρ : Nat → Nat) (w : World) (hF : FSat ρ (gtF [rowP (relRow rl X.q X.c)] X r x A) w) :
  Calls Tryz.prog 230 (([.one (.ptr 0 0),.one (.ptr 1 0)] : List CV).map (CV.den ρ)).toArray w (GtR [rowP (relRow rl X.q X.c)] X r x A (rdFour X (rdRel rl (r.at_ : Int) r).2).2 { x with p:=(rdRel rl (r.at_ : Int) r).1,n:=(rdFour X (rdRel rl (r.at_ : Int) r).2).1 } ρ w):=by
 refine Calls.of_F hF [.one (.ptr 0 0),.one (.ptr 1 0)] false Tryz.func230 kq kq (by simp [CV.wf,SV.wf,gtF,St.W]) ?_
 refine V.u ?_
 refine V.callW 224 [.one (.ptr 0 0),.one (.int .i64 (r.at_ : Int))] [.one (.ptr 0 0),.one (.int .i64 (r.at_ : Int))] [0] [] [true] (rdF [rowP (relRow rl X.q X.c)] X r) _ _ _ kq kq kq (fun _=>rfl) (fun _=>kq) (fun ρ w hF=>rreloc rl X hX _ _ hl ρ w hF) ?_
 rintro r1 rfl
 refine V.u ?_
 refine V.callW 216 [.one (.ptr 0 0)] [.one (.ptr 0 0)] [0] [] [false] (rdF [] X _) _ _ _ kq kq kq (fun _=>rfl) (fun _=>kq) (fun ρ w hF=>rfour X _ h' ρ w hF) ?_
 rintro r1 rfl
 refine V.u ?_
 exact V.retF (⟨(rdFour X (rdRel rl (r.at_ : Int) r).2).2,{ x with p:=(rdRel rl (r.at_ : Int) r).1,n:=(rdFour X (rdRel rl (r.at_ : Int) r).2).1 },A⟩ : RSt × In × IA) [0,1,2] (.tup []) kq kq kq kq kq kq kq ⟨rfl,rfl⟩
def dbTab : List Int:=[0,1,56,2,57,49,28,3,61,58,42,50,38,29,17,4,62,47,59,36,45,43,51,22,53,39,33,30,24,18,12,5,63,55,48,27,60,41,37,16,46,35,44,21,52,32,23,11,54,26,40,15,34,20,31,10,25,14,19,9,13,8,7,6]
structure GlbOk (w : World) : Prop where
 tab : Lib.TabIs Tryz.prog w "internal/strconv.uint64pow10" .u64 Lib.pow10Tab
 syn : ∃ tp p,w.var? Tryz.prog "strconv.ErrSyntax" = some #[Value.iface tp p]
 ran : ∃ tp p,w.var? Tryz.prog "strconv.ErrRange" = some #[Value.iface tp p]
 max : ∃ m,w.cell? ⟨1,0,none⟩ = some (Value.int .i64 m)
 sp : Lib.TabIs Tryz.prog w "strings.asciiSpace" .u8 Lib.asciiSpaceTab
 db : Lib.TabIs Tryz.prog w "math/bits.deBruijn64tab" .u8 dbTab
def glbP : Pers:=⟨fun k=>k < 12,GlbOk⟩
theorem var_same {w w' : World} (nm : String) (g : Nat) (hg : Tryz.prog.globalNamed nm = some g) (hlt : g < 12) (h : ∀ k,k < 12 → w'.heap[k]? = w.heap[k]?) : w'.var? Tryz.prog nm = w.var? Tryz.prog nm:=by
 unfold World.var?
 rw [hg]
 simp only [Option.bind_some]
 rw [h g hlt]
theorem glb_stable (w w' : World) (h : ∀ k,k < 12 → w'.heap[k]? = w.heap[k]?) (hg : GlbOk w) : GlbOk w':=by
 refine ⟨?_,?_,?_,?_,?_,?_⟩
 ·unfold Lib.TabIs; rw [var_same _ 3 kq (by decide) h]; exact hg.tab
 ·rw [var_same _ 4 kq (by decide) h]; exact hg.syn
 ·rw [var_same _ 5 kq (by decide) h]; exact hg.ran
 ·obtain ⟨m,hm⟩:=hg.max
  exact ⟨m,by rw [World.cell?_of_block (w:=w) (a:=⟨1,0,none⟩) (h 1 (by decide))]; exact hm⟩
 ·unfold Lib.TabIs; rw [var_same _ 0 kq (by decide) h]; exact hg.sp
 ·unfold Lib.TabIs; rw [var_same _ 10 kq (by decide) h]; exact hg.db
theorem glb_of {w : World} (h : PersOk [glbP] w) : GlbOk w:=(h glbP (List.mem_singleton.2 rfl)).1
theorem chg_drewN (w : World) (n : Nat) : Chg (fun _=>False) w (w.drewN n):=⟨rfl,rfl,rfl,Nat.le_refl _,fun _ _ _=>rfl⟩
noncomputable def sItoa : Con Tryz.prog:=Con.i1 123 [glbP] (fun n=>(.v (.one (.str (Lib.itoa n))),[inK .i64 n])) (fun n ρ w hob hp =>
 itoa_calls n (hob _ (List.mem_singleton.2 rfl)).1 (hob _ (List.mem_singleton.2 rfl)).2 w (glb_of hp).tab)
noncomputable def sCutPrefix : Con Tryz.prog:=Con.s2 219 [] (fun s t=>(.tup [.one (.str (Lib.trimPrefix s t)),.one (.sb (Lib.hasPrefix s t))],[])) (fun s t ρ w _ _ =>
 (Tryz.strings_CutPrefix ⟨s.toArray⟩ ⟨t.toArray⟩ w).mono fun e w' ⟨h1,h2⟩=>⟨h1,by rw [h2]; exact Chg.refl _ _⟩)
noncomputable def sTrimPrefix : Con Tryz.prog:=Con.s2 254 [] (fun s t=>(.v (.one (.str (Lib.trimPrefix s t))),[])) (fun s t ρ w _ _ =>
 (Tryz.strings_TrimPrefix ⟨s.toArray⟩ ⟨t.toArray⟩ w).mono fun e w' ⟨h1,h2⟩=>⟨h1,by rw [h2]; exact Chg.refl _ _⟩)
theorem ba_size (l : List UInt8) : (⟨l.toArray⟩ : ByteArray).size = l.length:=by simp [ByteArray.size]
noncomputable def sCutSuffix : Con Tryz.prog:=Con.s2 267 [] (fun s t=>(.tup [.one (.str (Lib.trimSuffix s t)),.one (.sb (Lib.hasSuffix s t))],[s.length ≤ 9223372036854775807])) (fun s t ρ w hob _ =>
 (Tryz.strings_CutSuffix ⟨s.toArray⟩ ⟨t.toArray⟩ w (by rw [ba_size]; exact hob _ (List.mem_singleton.2 rfl))).mono fun e w' ⟨h1,h2⟩=>⟨h1,by rw [h2]; exact Chg.refl _ _⟩)
noncomputable def sCut : Con Tryz.prog:=Con.s2 79 [glbP] (fun s t=>(.tup [.one (.str (Lib.cut s t).1),.one (.str (Lib.cut s t).2.1),.one (.sb (Lib.cut s t).2.2)],[s.length < 4294967281])) (fun s t ρ w hob hp=>by
 obtain ⟨m,hm⟩:=(glb_of hp).max
 exact (Tryz.strings_Cut ⟨s.toArray⟩ ⟨t.toArray⟩ m w (by rw [ba_size]; exact hob _ (List.mem_singleton.2 rfl)) hm).mono fun e w' ⟨h1,n,h2⟩=>⟨h1,by rw [h2]; exact chg_drewN w n⟩)
def splitC (c : UInt8) : List UInt8 → List (List UInt8)
 | []=>[[]]
 | x :: l=>if x == c then [] :: splitC c l else match splitC c l with
  | h :: t=>(x :: h) :: t
  | []=>[[x]]
def partsC (c : UInt8) (s : List UInt8) : List (List UInt8):=match s with
 | []=>[]
 | _ :: _=>splitC c s
def cutC (c : UInt8) : List UInt8 → List UInt8 × List UInt8 × Bool
 | []=>([],[],false)
 | x :: l=>if x == c then ([],l,true) else (x :: (cutC c l).1,(cutC c l).2.1,(cutC c l).2.2)
theorem cut_one (c : UInt8) : ∀ s,Lib.cut s [c] = cutC c s
 | []=>by simp [Lib.cut,cutC,Lib.index]
 | x :: l=>by
  have ih:=cut_one c l
  have hge:=Lib.indexByte_ge l c
  unfold cutC
  rw [← ih]
  unfold Lib.cut
  simp only [Lib.index_one,Lib.indexByte]
  by_cases hx : (x == c) = true
  ·simp [hx]
  ·simp only [hx,if_false,Bool.false_eq_true]
   by_cases h1 : (Lib.indexByte l c == -1) = true
   ·have h1' : Lib.indexByte l c = -1:=by simpa using h1
    simp [h1']
   ·have h1' : ¬ Lib.indexByte l c = -1:=by simpa using h1
    have h2 : 0 ≤ Lib.indexByte l c:=by omega
    have h3 : 0 ≤ Lib.indexByte l c + 1:=by omega
    have h4 : (Lib.indexByte l c + 1).toNat = (Lib.indexByte l c).toNat + 1:=by omega
    simp [h1',h2,h3,h4]
theorem splitC_cut (c : UInt8) : ∀ s,splitC c s = (cutC c s).1 :: (if (cutC c s).2.2 then splitC c (cutC c s).2.1 else [])
 | []=>by simp [splitC,cutC]
 | x :: l=>by
  have ih:=splitC_cut c l
  rw [splitC,cutC]
  by_cases hx : (x == c) = true
  ·rw [if_pos hx,if_pos hx]; rfl
  ·rw [if_neg hx,if_neg hx,ih]
theorem cutC_len (c : UInt8) : ∀ s,(cutC c s).2.1.length + (if (cutC c s).2.2 then 1 else 0) ≤ s.length
 | []=>by simp [cutC]
 | x :: l=>by
  have ih:=cutC_len c l
  unfold cutC
  by_cases hx : (x == c) = true
  ·simp [hx]
  ·simp only [hx,if_false,Bool.false_eq_true,List.length_cons]
   omega
theorem cutC_less (c : UInt8) : ∀ s,s ≠ [] → (cutC c s).2.1.length < s.length
 | [],h=>absurd rfl h
 | x :: l,_=>by
  have ih:=cutC_len c l
  unfold cutC
  by_cases hx : (x == c) = true
  ·simp [hx]
  ·simp only [hx,if_false,Bool.false_eq_true,List.length_cons]
   have : (cutC c l).2.1.length ≤ l.length:=by omega
   omega
theorem cutC_no (c : UInt8) : ∀ s,(cutC c s).2.2 = false → (cutC c s).2.1 = []
 | []=>by simp [cutC]
 | x :: l=>by
  have ih:=cutC_no c l
  unfold cutC
  by_cases hx : (x == c) = true
  ·simp [hx]
  ·simpa [hx] using ih
def ptF (c : UInt8) (s : List UInt8) : St:={ n:=0,slots:=[],gs:=[],heap:=[(0,⟨[.str s],9,true⟩),(1,⟨[.str [c]],9,true⟩)],next:=2,rows:=[],nr:=0,pers:=[glbP],wr:=false }
def ptEnc (c : UInt8) (s : List UInt8) (i : Nat) : Array Value:=#[.string ⟨((partsC c s).getD i []).toArray⟩]
noncomputable def T1 : List (Ent Tryz.prog):=[⟨sCut,[0]⟩,sCutPrefix.e,sCutSuffix.e]
structure PtI where
 i : Nat
 t : List UInt8
 O : Nat → Prop
 Ow : Nat → Prop
theorem partsC_ne {c : UInt8} {t : List UInt8} (h : t ≠ []) : partsC c t = splitC c t:=by
 cases t with
 | nil=>exact absurd rfl h
 | cons x l=>rfl
def ptSt {l n : Nat} {enc : Nat → Array Value} {w : World} (Y : Yd Tryz.prog l n enc w) (c : UInt8) (x : PtI) : St :=
 { n:=28,slots:=[(0,.v (.one (.val (.func (.yield l) #[] #[])))),(1,.v (.one (.ptr 0 0))),(2,.v (.one (.ptr 1 0)))],gs:=[],
    heap:=[(0,⟨[.str x.t],9,true⟩),(1,⟨[.str [c]],9,true⟩)],next:=2,rows:=[],nr:=0,pers:=[jP Y x.i x.O x.Ow [glbP],glbP],wr:=true,fx:=2 }
set_option maxHeartbeats 1000000 in
theorem parts_iter (c : UInt8) (s : List UInt8) (hs : s.length < 4294967281) : Iter Tryz.prog 294 [.one (.ptr 0 0),.one (.ptr 1 0)] (ptF c s) (partsC c s).length (ptEnc c s):=by
 refine Iter.mk true Tryz.func294 kq kq (fun ρ w l Y O Ow=>?_)
 refine V.runT T1 [] kq kq trivial ?_
 refine V.loopK [0,1,2] [true,true] (fun x : PtI=>x.t.length) (ptSt Y c) (fun x=>(∃ pre,partsC c s = pre ++ partsC c x.t ∧ pre.length = x.i) ∧ x.t.length < 4294967281) ⟨0,s,O,Ow⟩ kq ⟨⟨[],rfl,rfl⟩,hs⟩ (fun x hx ih=>?_)
 obtain ⟨i,t,O,Ow⟩:=x
 obtain ⟨⟨pre,hpre,hpl⟩,hlen⟩:=hx
 simp only at hpre hpl hlen
 refine V.runT T1 [] kq kq trivial ?_
 refine V.branch 8 (!(t == [])) kq (fun hb=>?_) (fun hb=>?_)
 ·have ht : t ≠ []:=by simpa using hb
  have hcut:=splitC_cut c t
  have hless:=cutC_less c t ht
  have hno:=cutC_no c t
  rw [partsC_ne ht,hcut] at hpre
  rw [← cut_one] at hpre hless hno
  have hget : (partsC c s).getD i [] = (Lib.cut t [c]).1:=by rw [hpre,← hpl]; simp
  have hi : i < (partsC c s).length:=by rw [hpre,← hpl]; simp
  refine V.runT T1 [t.length < 4294967281] kq kq hlen ?_
  refine V.yield Y i O Ow [glbP] [.one (.str (Lib.cut t [c]).1)] kq (fun _=>trivial) kq kq hi (fun ρ=>by simp only [ptEnc,hget]; rfl) kq (fun O1 Ow1=>?_) (fun O1 Ow1=>?_)
  ·refine V.runT T1 [] kq kq trivial ?_
   refine V.branch 25 ((Lib.cut t [c]).2.2 && ((Lib.cut t [c]).2.1 == [])) kq (fun hb2=>?_) (fun hb2=>?_)
   ·rw [Bool.and_eq_true] at hb2
    have hr : (Lib.cut t [c]).2.1 = []:=by simpa using hb2.2
    rw [hb2.1,if_pos rfl,hr] at hpre
    have hn2 : i + 2 = (partsC c s).length:=by rw [hpre,← hpl]; simp [splitC]
    have hget2 : (partsC c s).getD (i + 1) [] = []:=by
     rw [hpre]
     have : i + 1 = pre.length + 1:=by omega
     rw [this]; simp [splitC,List.getD]
    refine V.runT T1 [] kq kq trivial ?_
    refine V.yield Y (i + 1) O1 Ow1 [glbP] [.one (.str [])] kq (fun _=>trivial) kq kq (by omega) (fun ρ=>by simp only [ptEnc,hget2]; rfl) kq (fun O2 Ow2=>?_) (fun O2 Ow2=>?_)
    ·refine V.runT T1 [] kq kq trivial ?_
     have hn3 : i + 1 + 1 = (partsC c s).length:=hn2
     exact V.iterEnd Y (i + 1 + 1) hn3 O2 Ow2 [glbP] (.tup []) kq kq kq
    ·refine V.runT T1 [] kq kq trivial ?_
     exact V.iterOff Y O2 Ow2 [glbP] (.tup []) kq kq kq
   ·refine V.runT T1 [] kq kq trivial ?_
    refine V.againK [0,1,2] [true,true] (ih ⟨i + 1,(Lib.cut t [c]).2.1,O1,Ow1⟩ ⟨⟨pre ++ [(Lib.cut t [c]).1],?_,?_⟩,?_⟩ ?_) kq kq
    ·rw [hpre,List.append_assoc]
     congr 1
     simp only [List.singleton_append,List.cons.injEq,true_and]
     cases hm : (Lib.cut t [c]).2.2 with
     | true =>
      rw [hm] at hb2
      have hr : (Lib.cut t [c]).2.1 ≠ []:=by simpa using hb2
      rw [if_pos rfl,partsC_ne hr]
     | false=>rw [hno hm]; rfl
    ·simp [hpl]
    ·simp only; omega
    ·exact hless
  ·refine V.runT T1 [] kq kq trivial ?_
   exact V.iterOff Y O1 Ow1 [glbP] (.tup []) kq kq kq
 ·have ht : t = []:=by simpa using hb
  subst ht
  have hin : i = (partsC c s).length:=by rw [hpre,← hpl]; simp [partsC]
  refine V.runT T1 [] kq kq trivial ?_
  exact V.iterEnd Y i hin O Ow [glbP] (.tup []) kq kq kq
def noF : St:={ n:=0,slots:=[],gs:=[],heap:=[],next:=0,rows:=[],nr:=0,pers:=[],wr:=false }
def glbF : St:={ noF with pers:=[glbP] }
theorem cParts (c : UInt8) (s : List UInt8) : CallsK Tryz.prog 258 [.one (.str s),.one (.str [c])] noF (fun _ : Unit=>True) (fun _=>.v (.one (.fn 294 [0,1])))
  (fun _=>{ noF with heap:=[(0,⟨[.str s],9,true⟩),(1,⟨[.str [c]],9,true⟩)],next:=2 }):=by
 refine CallsK.mk true Tryz.func258 kq kq (fun ρ w=>?_)
 refine V.q ?_
 exact V.z
theorem splitC_len (c : UInt8) : ∀ s,(splitC c s).length ≤ s.length + 1
 | []=>by simp [splitC]
 | x :: l=>by
  have ih:=splitC_len c l
  rw [splitC]
  split
  ·simp; omega
  ·split
   ·rename_i h t e
    rw [e] at ih; simp at ih ⊢; omega
   ·simp
theorem partsC_len (c : UInt8) (s : List UInt8) : (partsC c s).length ≤ s.length + 1:=by
 unfold partsC
 split
 ·simp
 ·exact splitC_len c _
structure LX (α : Type) where
 l : List α
 q : Option Addr
 cap : Nat
def pcSt (n : Int) (x : LX (List UInt8)) : St :=
 { n:=23,slots:=[(2,.v (.one (.int .i64 n))),(8,.v (.one (.ptr 0 0)))],gs:=[],heap:=[(0,⟨[.row 0 x.q x.l.length x.cap],118,true⟩)],next:=1,rows:=[(0,rowL strS [] x.l x.q x.cap 9 1 true)],nr:=1,pers:=[glbP],wr:=true,fx:=0 }
theorem cPieces (c : UInt8) (s : List UInt8) (n : Int) (hs : s.length < 4294967281) : CallsK Tryz.prog 186 [.one (.str s),.one (.str [c]),.one (.int .i64 n)] glbF (fun _ : Option Addr × Nat=>True)
  (fun x=>.tup [.one (.row 0 x.1 (partsC c s).length x.2),.one (.sb (((partsC c s).length : Int) == n))]) (fun x=>{ noF with rows:=[(0,rowL strS [] (partsC c s) x.1 x.2 9 1 true)],nr:=1 }):=by
 refine CallsK.mk true Tryz.func186 kq kq (fun ρ w=>?_)
 refine V.q ?_
 refine V.callK [] (cParts c s) kq kq kq (fun _=>kq) (fun _ _=>?_)
 refine V.q ?_
 refine V.nilB strS [] 0 0 ⟨[.val (.slice none 0 0)],118,true⟩ 9 1 kq rfl ?_
 refine V.rangeFc (pcSt n) ⟨fun _=>rfl,fun _=>rfl,fun _=>rfl,fun _=>rfl,fun _=>rfl,fun _=>rfl,fun _=>rfl,fun _=>rfl⟩ (fun i x=>x.l = (partsC c s).take i) (fun _ _=>False) (fun i=>[.one (.str ((partsC c s).getD i []))]) (fun i ρ=>rfl)
  ⟨[],none,0⟩ [2,8] [true] [(0,false)] (parts_iter c s hs) kq kq rfl kq kq kq (fun i=>kq) (fun i=>kq) (fun i x ρ1 W l r q hi hx=>?_) (fun x l r q hx=>?_) (fun cd x l r q hx=>hx.elim)
 ·refine V.q ?_
  refine V.begin 2 l (recOf q none) kq rfl kq rfl ?_
  refine V.q ?_
  have hlen : x.l.length = i:=by rw [hx,List.length_take]; omega
  have hpl:=partsC_len c s
  refine V.push strS [] x.l ((partsC c s).getD i []) 0 x.q x.cap 9 1 [.str ((partsC c s).getD i [])] 16 kq (by omega) rfl (fun _ _=>kq) (fun q' cap'=>?_)
  refine V.q ?_
  refine V.roundEnd [2,8] [true] none ⟨x.l ++ [(partsC c s).getD i []],q',cap'⟩ kq kq kq rfl rfl ?_
  show _ = List.take (i + 1) (partsC c s)
  rw [hx,List.take_add_one,List.getD]
  cases e : (partsC c s)[i]? with
  | none=>rw [List.getElem?_eq_none_iff] at e; omega
  | some y=>rfl
 ·have hxl : x.l = partsC c s:=by rw [hx,List.take_length]
  refine V.q ?_
  refine V.retD 1 r kq rfl (by rintro e w ⟨x,ρ,_,h,_⟩; exact ⟨_,h⟩) kq kq ?_
  rw [← hxl]
  exact V.retK (x.q,x.cap) [] kq kq kq trivial
theorem chg_bytes (w : World) (e : TypeId) (s : ByteArray) : Chg (fun _=>False) w (Lib.bytesWorld w e s):=by
 refine ⟨?_,?_,?_,?_,fun k hk _=>?_⟩
 ·unfold Lib.bytesWorld World.freeze; rfl
 ·unfold Lib.bytesWorld World.freeze; rfl
 ·unfold Lib.bytesWorld World.freeze; rfl
 ·unfold Lib.bytesWorld World.freeze
  simp [World.alloc]
 ·have hne : w.heap.size ≠ k:=by omega
  unfold Lib.bytesWorld World.freeze
  simp [World.alloc,Array.getElem?_modify,hne]
  have : k < w.drew.heap.size:=hk
  rw [Array.getElem?_push_lt this]
  exact (Array.getElem?_eq_getElem _).symm
noncomputable def sAtoi (s : List UInt8) (v : Int) (h : Lib.atoiAll s = .ok v) (hl : s.length ≤ 281474976710656) : Con Tryz.prog :=
 Con.inst 255 [] [.one (.str s)] (.tup [.one (.int .i64 v),.one (.val .nilIface)]) (fun ρ w _ =>
  (Tryz.strconv_Atoi_ok ⟨s.toArray⟩ (by rw [ba_size]; omega) v h w).mono fun e w' ⟨h1,h2⟩=>⟨h1,by
   rcases h2 with rfl | ⟨t,rfl⟩
   ·exact Chg.refl _ _
   ·exact chg_bytes _ _ _⟩)
def bySyn (s : List UInt8) : Prop:=(∀ v,Lib.atoiAll s ≠ .ok v) ∧ Lib.atoiAll s ≠ .range
theorem cAtoiBad (s : List UInt8) (hl : s.length ≤ 281474976710656) (n : Int) (h : (bySyn s ∧ n = 0) ∨ (Lib.atoiAll s = .range ∧ n = Lib.atoiSat s)) :
  CallsK Tryz.prog 255 [.one (.str s)] glbF (fun _ : Nat=>True) (fun N=>.tup [.one (.int .i64 n),.one (.val (.iface 287 (.pointer (some ⟨N,0,none⟩))))]) (fun _=>noF):=by
 intro ρ w hF
 have hg : GlbOk w:=(hF.pers glbP (List.mem_singleton.2 rfl)).1
 have hend : ∀ N w',Go.RowKit.Below w.heap.size w w' → GivesK ρ glbF (fun _ : Nat=>True) (fun N=>.tup [.one (.int .i64 n),.one (.val (.iface 287 (.pointer (some ⟨N,0,none⟩))))]) (fun _=>noF) w
   (.returned (.tuple #[.int .i64 n,.iface 287 (.pointer (some ⟨N,0,none⟩))])) w':=fun N w' hb =>
  ⟨N,ρ,trivial,rfl,fun _ _=>rfl,Nat.le_refl _,fun b _ h2=>absurd h2 (Nat.not_lt_zero b),⟨fun b blk hb=>(by cases hb),fun b c hb=>absurd hb (Nat.not_lt_zero b),fun b hb=>absurd hb (Nat.not_lt_zero b),fun r R hR=>(by cases hR),fun r r' R R' hR=>(by cases hR),fun p hp=>(by cases hp)⟩,
      fun b hb=>absurd hb (Nat.not_lt_zero b),fun x hx=>(by
    rcases List.mem_cons.1 hx with rfl | hx
    ·trivial
    ·rcases List.mem_cons.1 hx with rfl | hx
     ·trivial
     ·cases hx),⟨hb.os,hb.tape,hb.output,hb.size,fun k hk _=>hb.block k hk⟩,fun b blk hb=>absurd hb (Nat.not_lt_zero b),fun r R hR=>(by cases hR),fun p hp=>(by cases hp)⟩
 rcases h with ⟨h1,rfl⟩ | ⟨h1,rfl⟩
 ·obtain ⟨tp,p,hv⟩:=hg.syn
  refine (Tryz.strconv_Atoi_syntax_var ⟨s.toArray⟩ (by rw [ba_size]; exact hl) h1 tp p w hv).mono ?_
  rintro e w' ⟨N,rfl,_,_,hb⟩
  exact hend N w' hb
 ·obtain ⟨tp,p,hv⟩:=hg.ran
  refine (Tryz.strconv_Atoi_range_var ⟨s.toArray⟩ (by rw [ba_size]; exact hl) h1 tp p w hv).mono ?_
  rintro e w' ⟨N,rfl,_,_,hb⟩
  exact hend N w' hb
def decN (s : List UInt8) : Int:=match Lib.atoiAll s with
 | .ok v=>v
 | .range=>Lib.atoiSat s
 | _=>0
def decB (s : List UInt8) : Bool:=match Lib.atoiAll s with
 | .ok v=>isNum v && (Lib.itoa v == s)
 | _=>false
noncomputable def aIsNum : Con Tryz.prog:=Con.auto Tryz.func53 true [] [] kq kq
noncomputable def T4 (s : List UInt8) (v : Int) (h : Lib.atoiAll s = .ok v) (hl : s.length ≤ 281474976710656) : List (Ent Tryz.prog):=[⟨sAtoi s v h hl,[]⟩,aIsNum.e,⟨sItoa,[0]⟩]
theorem _root_.Go.SX.CallsK.as {α : Type} {P : Program} {f : FuncId} {ys : List CV} {F : St} {p : α → Prop} {v : α → RV} {F' : α → St} (h : CallsK P f ys F p v F') (v' : α → RV) (hd : ∀ x ρ,p x → (v' x).den ρ = (v x).den ρ) (hw : ∀ x,p x → (v' x).wf (F' x).W) :
  CallsK P f ys F p v' F':=by
 intro ρ w hF
 refine (h ρ w hF).mono ?_
 rintro e w' ⟨x,ρ',hp,he,k1,k2,k3,k4,k5,k6,k7⟩
 exact ⟨x,ρ',hp,by rw [hd x ρ' hp]; exact he,k1,k2,k3,k4,k5,hw x hp,k7⟩
theorem cDec (s : List UInt8) (hl : s.length ≤ 281474976710656) : CallsK Tryz.prog 165 [.one (.str s)] glbF (fun _ : Unit=>True) (fun _=>.tup [.one (.int .i64 (decN s)),.one (.sb (decB s))]) (fun _=>noF):=by
 have hwf : ∀ n b,RV.wf noF.W (.tup [.one (.int .i64 n),.one (.sb b)]):=fun n b x hx=>by
  rcases List.mem_cons.1 hx with rfl | hx
  ·trivial
  ·rcases List.mem_cons.1 hx with rfl | hx
   ·trivial
   ·cases hx
 have hbad : ∀ n,((bySyn s ∧ n = 0) ∨ (Lib.atoiAll s = .range ∧ n = Lib.atoiSat s)) → decN s = n → decB s = false →
   CallsK Tryz.prog 165 [.one (.str s)] glbF (fun _ : Unit=>True) (fun _=>.tup [.one (.int .i64 (decN s)),.one (.sb (decB s))]) (fun _=>noF):=by
  intro n h e1 e2
  rw [e1,e2]
  refine CallsK.as (v:=fun _=>.tup [.one (.int .i64 n),.one (.bool false)]) ?_ _ (fun _ _ _=>rfl) (fun _ _=>hwf _ _)
  refine CallsK.mk true Tryz.func165 kq kq (fun ρ w=>?_)
  refine V.q ?_
  refine V.callK [(0,false)] (cAtoiBad s hl n h) kq kq kq (fun _=>kq) (fun N _=>?_)
  refine V.q ?_
  exact V.z
 cases h : Lib.atoiAll s with
 | ok v =>
  rw [show decN s = v by unfold decN; rw [h],show decB s = (isNum v && (Lib.itoa v == s)) by unfold decB; rw [h]]
  refine CallsK.mk true Tryz.func165 kq kq (fun ρ w=>?_)
  refine V.runT (T4 s v h hl) [[CV.one (SV.str s)] = [CV.one (SV.str s)],isNum v = true → inK IntKind.i64 v] kq kq ⟨rfl,fun hb=>?_⟩ ?_
  ·simp [isNum] at hb
   constructor <;> omega
  ·exact V.z
 | range=>exact hbad _ (.inr ⟨h,rfl⟩) (by unfold decN; rw [h]) (by unfold decB; rw [h])
 | _=>exact hbad 0 (.inl ⟨⟨fun v e=>(by rw [h] at e; cases e),fun e=>(by rw [h] at e; cases e)⟩,rfl⟩) (by unfold decN; rw [h]) (by unfold decB; rw [h])
theorem _root_.Go.SX.CallsK.gives {P : Program} {f : FuncId} {ys : List CV} {F F' : St} {v : RV} (h : CallsK P f ys F (fun _ : Unit=>True) (fun _=>v) (fun _=>F')) (hF : F.heap = [] ∧ F.next = 0 ∧ F.rows = [])
  (hv : ∀ ρ ρ',v.den ρ = v.den ρ') (ρ : Nat → Nat) (w : World) (hp : PersOk F.pers w) : Calls P f (ys.map (CV.den ρ)).toArray w (Gives (v.den ρ) w):=by
 obtain ⟨h1,h2,h3⟩:=hF
 have hs : FSat ρ F w:=⟨fun b blk hb=>(by rw [h1] at hb; cases hb),fun b c hb=>(by rw [h2] at hb; exact absurd hb (Nat.not_lt_zero b)),fun b hb=>(by rw [h2] at hb; exact absurd hb (Nat.not_lt_zero b)),fun r R hR=>(by rw [h3] at hR; cases hR),fun r r' R R' hR=>(by rw [h3] at hR; cases hR),
    fun p hpm=>⟨(hp p hpm).1,(hp p hpm).2.1,fun k hD=>⟨(hp p hpm).2.2 k hD,fun b hb=>(by rw [h2] at hb; exact absurd hb (Nat.not_lt_zero b)),fun r R hR=>(by rw [h3] at hR; cases hR)⟩⟩⟩
 refine (h ρ w hs).mono ?_
 rintro e w' ⟨x,ρ',_,he,_,_,_,_,_,_,hc,_⟩
 refine ⟨by rw [he,hv ρ' ρ],hc.os,hc.tape,hc.output,hc.size,fun k hk _=>hc.block k hk ?_⟩
 rintro (⟨b,blk,hb,_⟩ | ⟨r,R,hR,_⟩)
 ·rw [h1] at hb; cases hb
 ·rw [h3] at hR; cases hR
noncomputable def sDecimal : Con Tryz.prog:=Con.s1 165 [glbP] (fun s=>(.tup [.one (.int .i64 (decN s)),.one (.sb (decB s))],[s.length ≤ 281474976710656])) (fun s ρ w hob hp =>
 CallsK.gives (cDec s (hob _ (List.mem_singleton.2 rfl))) ⟨rfl,rfl,rfl⟩ (fun _ _=>rfl) ρ w hp)
noncomputable def T5 : List (Ent Tryz.prog):=[sTrimPrefix.e,⟨sDecimal,[0]⟩]
noncomputable def aRegOf : Con Tryz.prog:=Con.auto Tryz.func158 true T5 [glbP] kq kq
end Go.Proofs
end
section
namespace Go.SX
open Go
theorem strRow_flat (l : List (List UInt8)) (q : Option Addr) (cap : Nat) : (rowL strS [] l q cap 9 1 true).flat = l.map fun s=>Value.string ⟨s.toArray⟩:=by
 have h1 : (rowL strS [] l q cap 9 1 true).flat = (List.range l.length).map fun i=>Value.string ⟨(l.getD i []).toArray⟩:=by
  show (List.range l.length).flatMap (fun i=>[Value.string ⟨(l.getD i []).toArray⟩]) = _
  rw [List.flatMap_def]
  induction (List.range l.length) with
  | nil=>rfl
  | cons x xs ih=>simp only [List.map_cons,List.flatten_cons,ih,List.singleton_append]
 rw [h1]
 apply List.ext_getElem?
 intro i
 rw [List.getElem?_map,List.getElem?_map]
 by_cases hi : i < l.length
 ·rw [List.getElem?_range hi,List.getElem?_eq_getElem hi,Option.map_some,Option.map_some,List.getD,List.getElem?_eq_getElem hi]
  rfl
 ·rw [List.getElem?_eq_none (by simp; omega),List.getElem?_eq_none (by omega)]
  rfl
theorem strRow_ok {w : World} {g : Nat} {l : List (List UInt8)} {cap : Nat} {cur : Array Value} (hg : w.heap[g]? = some (.cells cur 9 (0,0))) (hcur : cur.toList.take l.length = l.map fun s=>Value.string ⟨s.toArray⟩) (hcap : l.length ≤ cap) (hmx : cap ≤ maxLen) (hsz : cur.size = cap) :
  (rowL strS [] l (some ⟨g,0,none⟩) cap 9 1 true).ok w:=by
 have hat : ∀ i,i < l.length → cur[i]? = some (Value.string ⟨(l.getD i []).toArray⟩):=by
  intro i hi
  have h1 : (cur.toList.take l.length)[i]? = (l.map fun s=>Value.string ⟨s.toArray⟩)[i]?:=by rw [hcur]
  rw [List.getElem?_take_of_lt hi] at h1
  rw [Array.getElem?_toList] at h1
  rw [h1,List.getElem?_map,List.getD,List.getElem?_eq_getElem hi]
  rfl
 refine ⟨fun i hi=>⟨rfl,fun x hx=>?_⟩,fun hp=>⟨g,0,rfl,fun i j x hi hx=>?_⟩,fun _ _=>⟨?_,.inr ⟨g,cap,cur,rfl,Nat.zero_le _,hg,hcap,hmx,by simp only [rowL]; omega,?_⟩⟩,fun o ho=>(by cases ho)⟩
 ·have : x = .str (l.getD i []):=by simpa [rowL,strS] using hx
  subst this; trivial
 ·have hi' : i < l.length:=hi
  simp only [rowL,strS] at hx
  cases j with
  | zero =>
   simp only [List.getElem?_cons_zero,Option.some.injEq] at hx
   subst hx
   show w.cell? ⟨g,0 + (i * 1 + 0),none⟩ = _
   rw [Lib.cell_of_heap hg]
   simp only [Nat.zero_add,Nat.mul_one,Nat.add_zero]
   rw [hat i hi']
   rfl
  | succ j=>simp at hx
 ·rw [strRow_flat]; simp [rowL]
 ·rw [strRow_flat]
  simp only [rowL,Nat.mul_one]
  exact hcur
theorem CallsK.newStrs {P : Program} {f : FuncId} {ys : List CV} {F : St} (l : List (List UInt8)) (hl : l.length ≤ 4294967296) (hF : F.heap = [] ∧ F.next = 0 ∧ F.rows = [])
  (h : ∀ ρ w,FSat ρ F w → Calls P f (ys.map (CV.den ρ)).toArray w fun e w'=>e = .returned (.slice (some ⟨w.heap.size,0,none⟩) l.length l.length) ∧ w' = w.alloc (.cells (l.map fun s=>Value.string ⟨s.toArray⟩).toArray 9)) :
  CallsK P f ys F (fun _ : Nat=>True) (fun g=>.v (.one (.row 0 (some ⟨g,0,none⟩) l.length l.length))) (fun g=>{ n:=0,slots:=[],gs:=[],heap:=[],next:=0,rows:=[(0,rowL strS [] l (some ⟨g,0,none⟩) l.length 9 1 true)],nr:=1,pers:=[],wr:=false }):=by
 obtain ⟨f1,f2,f3⟩:=hF
 intro ρ w hS
 refine (h ρ w hS).mono ?_
 rintro e w' ⟨rfl,rfl⟩
 have hg : (w.alloc (.cells (l.map fun s=>Value.string ⟨s.toArray⟩).toArray 9)).heap[w.heap.size]? = some (.cells (l.map fun s=>Value.string ⟨s.toArray⟩).toArray 9 (0,0)):=by
  show (w.heap.push _)[w.heap.size]? = _
  simp
 have hok:=strRow_ok (l:=l) (cap:=l.length) hg (by simp [List.take_of_length_le]) (Nat.le_refl _) (by unfold maxLen; omega) (by simp)
 have huse : ∀ k,(rowL strS [] l (some ⟨w.heap.size,0,none⟩) l.length 9 1 true).uses k → k = w.heap.size:=by
  rintro k ⟨ad,h1,h2,_⟩
  cases h1; exact h2.symm
 have hrow : ∀ r R,look [((0 : Nat),rowL strS [] l (some ⟨w.heap.size,0,none⟩) l.length 9 1 true)] r = some R → r = 0 ∧ R = rowL strS [] l (some ⟨w.heap.size,0,none⟩) l.length 9 1 true:=by
  intro r R hR
  simp only [look] at hR
  split at hR
  ·rename_i e; cases hR; exact ⟨((beq_iff _ _).1 e).symm,rfl⟩
  ·cases hR
 have hsz : (w.alloc (.cells (l.map fun s=>Value.string ⟨s.toArray⟩).toArray 9)).heap.size = w.heap.size + 1:=World.size_alloc _ _
 refine ⟨w.heap.size,ρ,trivial,rfl,fun _ _=>rfl,by rw [f2]; exact Nat.le_refl _,fun b _ h2=>absurd h2 (Nat.not_lt_zero b),⟨fun b blk hb=>(by cases hb),fun b c hb=>absurd hb (Nat.not_lt_zero b),fun b hb=>absurd hb (Nat.not_lt_zero b),?_,?_,fun p hp=>(by cases hp)⟩,
    fun b hb=>(by rw [f2] at hb; exact absurd hb (Nat.not_lt_zero b)),⟨Nat.zero_lt_succ 0,fun R hR=>(by obtain ⟨_,rfl⟩:=hrow 0 R hR; exact ⟨rfl,rfl,rfl⟩)⟩,Chg.alloc _ _ _,fun b blk hb=>(by rw [f2] at hb; exact absurd hb (Nat.not_lt_zero b)),?_,fun p hp=>(by cases hp)⟩
 ·intro r R hR
  obtain ⟨rfl,rfl⟩:=hrow r R hR
  exact ⟨Nat.zero_lt_succ 0,hok,fun k hk=>⟨by rw [huse k hk,hsz]; omega,fun b hb=>absurd hb (Nat.not_lt_zero b)⟩⟩
 ·intro r r' R R' h1 h2 hne
  obtain ⟨rfl,_⟩:=hrow r R h1
  obtain ⟨rfl,_⟩:=hrow r' R' h2
  exact absurd rfl hne
 ·intro r R hR k hk
  obtain ⟨_,rfl⟩:=hrow r R hR
  exact .inr (.inr (Nat.le_of_eq (huse k hk).symm))
end Go.SX
namespace Go.Proofs
open Go Go.SX
theorem cFields (s : List UInt8) (hs : s.length < 4294967281) (ha : s.all (fun b=>decide (b.toNat < 128)) = true) (hn : (Lib.fields s).length ≤ 4294967296) : CallsK Tryz.prog 114 [.one (.str s)] glbF (fun _ : Nat=>True)
  (fun g=>.v (.one (.row 0 (some ⟨g,0,none⟩) (Lib.fields s).length (Lib.fields s).length))) (fun g=>{ n:=0,slots:=[],gs:=[],heap:=[],next:=0,rows:=[(0,rowL strS [] (Lib.fields s) (some ⟨g,0,none⟩) (Lib.fields s).length 9 1 true)],nr:=1,pers:=[],wr:=false }):=by
 refine CallsK.newStrs (Lib.fields s) hn ⟨rfl,rfl,rfl⟩ (fun ρ w hS=>?_)
 have hg : GlbOk w:=(hS.pers glbP (List.mem_singleton.2 rfl)).1
 exact Tryz.strings_Fields ⟨s.toArray⟩ w (by rw [ba_size]; exact hs) (fun j b hb=>by
  have:=List.all_eq_true.1 ha b (List.mem_of_getElem? hb)
  simpa using this) hg.sp
end Go.Proofs
end
section
namespace Go.Proofs
open Go Go.SX
def splS (s sep : List UInt8) : List (List UInt8):=(Lib.splitB ⟨sep.toArray⟩ 0 (Lib.countB ⟨s.toArray⟩ ⟨sep.toArray⟩) ⟨s.toArray⟩).map (·.data.toList)
theorem cSplit (s sep : List UInt8) (hs : s.length < 4294967281) (h1 : 1 ≤ sep.length) (hn : (splS s sep).length = Lib.countB ⟨s.toArray⟩ ⟨sep.toArray⟩ + 1) (hm : (splS s sep).length ≤ 4294967296) : CallsK Tryz.prog 128 [.one (.str s),.one (.str sep)] glbF (fun _ : Nat=>True)
  (fun g=>.v (.one (.row 0 (some ⟨g,0,none⟩) (splS s sep).length (splS s sep).length))) (fun g=>{ n:=0,slots:=[],gs:=[],heap:=[],next:=0,rows:=[(0,rowL strS [] (splS s sep) (some ⟨g,0,none⟩) (splS s sep).length 9 1 true)],nr:=1,pers:=[],wr:=false }):=by
 refine CallsK.newStrs (splS s sep) hm ⟨rfl,rfl,rfl⟩ (fun ρ w hS=>?_)
 obtain ⟨m,hmx⟩:=((hS.pers glbP (List.mem_singleton.2 rfl)).1 : GlbOk w).max
 refine (Tryz.strings_Split ⟨s.toArray⟩ ⟨sep.toArray⟩ m w (by rw [ba_size]; exact hs) hmx (by rw [ba_size]; exact h1)).mono ?_
 rintro e w' ⟨rfl,rfl⟩
 refine ⟨?_,?_⟩
 ·rw [hn]
 ·congr 2
  unfold splS
  rw [List.map_map]
  rfl
theorem cJoin (l : List (List UInt8)) (sep : List UInt8) (q : Option Addr) (cap : Nat) (hn : l.length ≤ 140737488355328) (hj : (Lib.join l sep).length ≤ 140737488355328) :
  CallsK Tryz.prog 121 [.one (.row 0 q l.length cap),.one (.str sep)] { n:=0,slots:=[],gs:=[],heap:=[],next:=0,rows:=[(0,rowL strS [] l q cap 9 1 true)],nr:=1,pers:=[],wr:=false } (fun _ : Unit=>True)
  (fun _=>.v (.one (.str (Lib.join l sep)))) (fun _=>noF):=by
 intro ρ w hS
 obtain ⟨_,hok,huse⟩:=hS.rows 0 _ rfl
 have hend : ∀ w',Chg (fun _=>False) w w' → GivesK ρ { n:=0,slots:=[],gs:=[],heap:=[],next:=0,rows:=[(0,rowL strS [] l q cap 9 1 true)],nr:=1,pers:=[],wr:=false } (fun _ : Unit=>True) (fun _=>.v (.one (.str (Lib.join l sep)))) (fun _=>noF) w (.returned (.string ⟨(Lib.join l sep).toArray⟩)) w':=fun w' hc =>
  ⟨(),ρ,trivial,rfl,fun _ _=>rfl,Nat.le_refl _,fun b _ h2=>absurd h2 (Nat.not_lt_zero b),⟨fun b blk hb=>(by cases hb),fun b c hb=>absurd hb (Nat.not_lt_zero b),fun b hb=>absurd hb (Nat.not_lt_zero b),fun r R hR=>(by cases hR),fun r r' R R' hR=>(by cases hR),fun p hp=>(by cases hp)⟩,
      fun b hb=>absurd hb (Nat.not_lt_zero b),trivial,⟨hc.os,hc.tape,hc.output,hc.size,fun k hk _=>hc.block k hk id⟩,fun b blk hb=>absurd hb (Nat.not_lt_zero b),fun r R hR=>(by cases hR),fun p hp=>(by cases hp)⟩
 cases l with
 | nil =>
  refine (Tryz.strings_Join_none q cap ⟨sep.toArray⟩ w).mono ?_
  rintro e w' ⟨rfl,rfl⟩
  exact hend _ (Chg.refl _ _)
 | cons x xs =>
  obtain ⟨b,off,hs,hcell⟩:=hok.addr (Nat.zero_lt_succ _)
  have hq : q = some ⟨b,off,none⟩:=hs
  subst hq
  obtain ⟨_,⟨hv,_⟩ | ⟨g,cap',cur,hv,_,hg,hcap,_⟩⟩:=hok.own rfl rfl
  ·cases hv
  ·simp only [rowL] at hv hcap
   injection hv with e1 e2 e3
   cases e1
   subst e3
   have hlt:=(Array.getElem?_eq_some_iff.1 hg).1
   have hmap : ((x :: xs).map fun s=>(⟨s.toArray⟩ : ByteArray)).map (·.data.toList) = x :: xs:=by
    rw [List.map_map]
    exact (List.map_congr_left fun a _=>by simp).trans (List.map_id _)
   have:=Tryz.strings_Join b 0 cap ((x :: xs).map fun s=>(⟨s.toArray⟩ : ByteArray)) ⟨sep.toArray⟩ w (fun j y hy=>by
    rw [List.getElem?_map] at hy
    obtain ⟨z,hz,rfl⟩:=Option.map_eq_some_iff.1 hy
    have hj' : j < (x :: xs).length:=(List.getElem?_eq_some_iff.1 hz).1
    have h3:=hcell j 0 (.str z) hj' (by simp only [rowL,strS,List.getD,hz]; rfl)
    simpa [rowL,SV.den0,SV.den] using h3) hlt (by simpa using hn) (by simpa using hcap) (by rw [hmap]; exact hj)
   rw [hmap] at this
   simp only [List.length_map] at this
   refine this.mono ?_
   rintro e w' ⟨rfl,hb⟩
   exact hend _ ⟨hb.os,hb.tape,hb.output,hb.size,fun k hk _=>hb.block k hk⟩
end Go.Proofs
end
section
namespace Go.Proofs
open Go Go.SX
set_option maxRecDepth 10000
def _root_.Go.SX.Con.p1 {P : Program} (f off : Nat) (ok : ∀ g o w,g < w.heap.size → Calls P f #[.pointer (some ⟨g,o,none⟩)] w (Gives (.pointer (some ⟨g,o + off,none⟩)) w)) : Con P where
 f:=f
 need:=[]
 fn:=fun xs=>match xs with
  | [.one (.ptr b o)]=>some (.v (.one (.ptr b (o + off))),[])
  | _=>none
 ok:=by
  intro xs v ob h _ ρ w _ hlt
  split at h
  ·rename_i b o
   simp only [Option.some.injEq,Prod.mk.injEq] at h
   obtain ⟨rfl,rfl⟩:=h
   exact ok (ρ b) o w (hlt _ (List.mem_singleton.2 rfl) _ (List.mem_singleton.2 rfl))
  ·cases h
noncomputable def selC (s : Sel) : Con Tryz.prog:=Con.p1 s.fn s.off (sel_calls s)
def regN (s : List UInt8) : Int:=bif s == [45] then -1 else decN (Lib.trimPrefix s [114])
def regB (s : List UInt8) : Bool:=bif s == [45] then true else decB (Lib.trimPrefix s [114]) && decide (decN (Lib.trimPrefix s [114]) ≥ 0) && (((s.getD 0 0).toNat : Int) == 114)
noncomputable def sRegOf : Con Tryz.prog:=aRegOf.as (fun xs=>match xs with
  | [.one (.str s)]=>some (.tup [.one (.int .i64 (regN s)),.one (.sb (regB s))],[s.length ≤ 281474976710656])
  | _=>none) (by
 intro xs v ob h hob
 split at h
 ·rename_i s
  simp only [Option.some.injEq,Prod.mk.injEq] at h
  obtain ⟨rfl,rfl⟩:=h
  have hs:=hob _ (List.mem_singleton.2 rfl)
  have hl : (Lib.trimPrefix s [114]).length ≤ 281474976710656:=by
   unfold Lib.trimPrefix
   split
   ·simp; omega
   ·exact hs
  refine ⟨.tup [.one (.int .i64 (regN s)),.one (.sb (regB s))],[(s == [45]) = false → (Lib.trimPrefix s [114]).length ≤ 281474976710656,(s == [45]) = false → (decB (Lib.trimPrefix s [114]) && decide (decN (Lib.trimPrefix s [114]) ≥ 0)) = true → (0 : Int) ≤ 0 ∧ (0 : Int) < (s.length : Int)],kq,?_,fun _=>rfl⟩
  intro p hp
  rcases List.mem_cons.1 hp with rfl | hp
  ·exact fun _=>hl
  ·rw [List.mem_singleton.1 hp]
   intro _ hb
   refine ⟨Int.le_refl _,?_⟩
   cases s with
   | nil=>cases hb
   | cons x l=>simp
 ·cases h)
noncomputable def TP (s : Sel) : List (Ent Tryz.prog):=[(selC s).e,⟨sDecimal,[0]⟩,⟨sRegOf,[0]⟩,sCutPrefix.e]
set_option maxHeartbeats 2000000 in
theorem numParse (s : Sel) (l : List UInt8) (x : In) (A : IA) (cb : Nat) (hl : l.length ≤ 281474976710656) : CallsK Tryz.prog 164 [.one (.str l),.one (.ptr 0 0),.one (.val (.pointer (some ⟨cb,0,none⟩)))] (psF [s.blk cb,glbP] x A)
  (fun _ : Unit=>True) (fun _=>.v (.one (.sb (decB l)))) (fun _=>psF [] (s.set x (decN l)) A):=by
 have tg : Tg s:=⟨⟩
 cases s
 all_goals
  refine CallsK.mk false Tryz.func164 kq kq (fun ρ w=>?_)
  refine V.runT (TP tg.i) [] kq kq trivial ?_
  refine V.loadP 0 159 cb 0 [Sel.val tg.i] 159 (.one (Sel.val tg.i)) kq kq kq kq kq ?_
  refine V.runT (TP tg.i) [l.length ≤ 281474976710656] kq kq (by exact hl) ?_
  exact V.z
set_option maxHeartbeats 2000000 in
theorem regParse (s : Sel) (l : List UInt8) (x : In) (A : IA) (cb : Nat) (hl : l.length ≤ 281474976710656) : CallsK Tryz.prog 157 [.one (.str l),.one (.ptr 0 0),.one (.val (.pointer (some ⟨cb,0,none⟩)))] (psF [s.blk cb,glbP] x A)
  (fun _ : Unit=>True) (fun _=>.v (.one (.sb (regB l)))) (fun _=>psF [] (s.set x (regN l)) A):=by
 have tg : Tg s:=⟨⟩
 cases s
 all_goals
  refine CallsK.mk false Tryz.func157 kq kq (fun ρ w=>?_)
  refine V.runT (TP tg.i) [] kq kq trivial ?_
  refine V.loadP 0 159 cb 0 [Sel.val tg.i] 159 (.one (Sel.val tg.i)) kq kq kq kq kq ?_
  refine V.runT (TP tg.i) [l.length ≤ 281474976710656] kq kq (by exact hl) ?_
  exact V.z
def prN (l : List UInt8) : Int:=bif Lib.trimPrefix l [33] == [45] then -1 else decN (Lib.trimPrefix l [33])
def prB (l : List UInt8) : Bool:=bif Lib.trimPrefix l [33] == [45] then Lib.hasPrefix l [33] else decB (Lib.trimPrefix l [33]) && Lib.hasPrefix l [33] && decide (decN (Lib.trimPrefix l [33]) ≥ 0)
theorem trimP_len (s t : List UInt8) {n : Nat} (h : s.length ≤ n) : (Lib.trimPrefix s t).length ≤ n:=by
 unfold Lib.trimPrefix
 split
 ·simp; omega
 ·exact h
set_option maxHeartbeats 2000000 in
theorem placeParse (s : Sel) (l : List UInt8) (x : In) (A : IA) (cb : Nat) (hl : l.length ≤ 281474976710656) : CallsK Tryz.prog 218 [.one (.str l),.one (.ptr 0 0),.one (.val (.pointer (some ⟨cb,0,none⟩)))] (psF [s.blk cb,glbP] x A)
  (fun _ : Unit=>True) (fun _=>.v (.one (.sb (decB (Lib.trimPrefix l [64]) && Lib.hasPrefix l [64])))) (fun _=>psF [] (s.set x (decN (Lib.trimPrefix l [64]))) A):=by
 have tg : Tg s:=⟨⟩
 cases s
 all_goals
  refine CallsK.mk false Tryz.func218 kq kq (fun ρ w=>?_)
  refine V.runT (TP tg.i) [] kq kq trivial ?_
  refine V.loadP 0 159 cb 0 [Sel.val tg.i] 159 (.one (Sel.val tg.i)) kq kq kq kq kq ?_
  refine V.runT (TP tg.i) [(Lib.trimPrefix l [64]).length ≤ 281474976710656] kq kq (trimP_len l [64] hl) ?_
  exact V.z
set_option maxHeartbeats 4000000 in
theorem procParse (s : Sel) (l : List UInt8) (x : In) (A : IA) (cb : Nat) (hl : l.length ≤ 281474976710656) : CallsK Tryz.prog 226 [.one (.str l),.one (.ptr 0 0),.one (.val (.pointer (some ⟨cb,0,none⟩)))] (psF [s.blk cb,glbP] x A)
  (fun _ : Unit=>True) (fun _=>.v (.one (.sb (prB l)))) (fun _=>psF [] (s.set x (prN l)) A):=by
 have tg : Tg s:=⟨⟩
 cases s
 all_goals
  refine CallsK.mk false Tryz.func226 kq kq (fun ρ w=>?_)
  refine V.runT (TP tg.i) [] kq kq trivial ?_
  refine V.branch 13 (Lib.trimPrefix l [33] == [45]) kq (fun hb=>?_) (fun hb=>?_)
  ·refine V.runT (TP tg.i) [] kq kq trivial ?_
   refine V.loadP 0 159 cb 0 [Sel.val tg.i] 159 (.one (Sel.val tg.i)) kq kq kq kq kq ?_
   refine V.runT (TP tg.i) [] kq kq trivial ?_
   rw [show prB l = Lib.hasPrefix l [33] by simp only [prB,hb,cond_true],show prN l = -1 by simp only [prN,hb,cond_true]]
   exact V.z
  ·refine V.runT (TP tg.i) [] kq kq trivial ?_
   refine V.loadP 0 159 cb 0 [Sel.val tg.i] 159 (.one (Sel.val tg.i)) kq kq kq kq kq ?_
   refine V.runT (TP tg.i) [(Lib.trimPrefix l [33]).length ≤ 281474976710656] kq kq (trimP_len l [33] hl) ?_
   rw [show prN l = decN (Lib.trimPrefix l [33]) by simp only [prN,hb,cond_false]]
   cases h2 : (decB (Lib.trimPrefix l [33]) && Lib.hasPrefix l [33]) with
   | true =>
    rw [show prB l = decide (decN (Lib.trimPrefix l [33]) ≥ 0) by simp only [prB,hb,cond_false,h2,Bool.true_and]]
    refine V.known 32 (decB (Lib.trimPrefix l [33]) && Lib.hasPrefix l [33]) true kq h2 ?_
    refine V.loadP 0 159 cb 0 [Sel.val tg.i] 159 (.one (Sel.val tg.i)) kq kq kq kq kq ?_
    refine V.runT (TP tg.i) [] kq kq trivial ?_
    exact V.z
   | false =>
    rw [show prB l = false by simp only [prB,hb,cond_false,h2,Bool.false_and]]
    refine V.known 32 (decB (Lib.trimPrefix l [33]) && Lib.hasPrefix l [33]) false kq h2 ?_
    refine V.runT (TP tg.i) [] kq kq trivial ?_
    refine V.slotAs 5 (.one (.bool false)) (.one (.sb false)) kq kq (fun _=>rfl) ?_
    exact V.z
theorem cHexNil : CallsK Tryz.prog 184 [.one (.str [])] noF (fun _ : Unit=>True) (fun _=>.v (.one (.str [61]))) (fun _=>noF):=by
 refine CallsK.mk true Tryz.func184 kq kq (fun ρ w=>?_)
 refine V.q ?_
 refine V.callK [] (wbyte_new 61) kq kq kq (fun _=>kq) (fun x _=>?_)
 refine V.q ?_
 refine V.toBytes 5 [] kq (fun q cap=>kq) (fun q cap=>?_)
 refine V.q ?_
 refine V.iter ?_
 refine V.q ?_
 refine V.known 11 (decide ((0 : Int) < 0)) false kq rfl ?_
 refine V.q ?_
 refine V.callK [] (bstr_used [61] x.1 x.2 (by decide)) kq kq kq (fun _=>kq) (fun _ _=>?_)
 refine V.q ?_
 exact V.z
noncomputable def sHexNil : Con Tryz.prog:=Con.inst 184 [] [.one (.str [])] (.v (.one (.str [61]))) (CallsK.gives cHexNil ⟨rfl,rfl,rfl⟩ (fun _ _=>rfl))
theorem cUnhexNil : CallsK Tryz.prog 187 [.one (.str [61])] noF (fun _ : Unit=>True) (fun _=>.tup [.one (.str []),.one (.bool true)]) (fun _=>noF):=by
 refine CallsK.mk true Tryz.func187 kq kq (fun ρ w=>?_)
 refine V.runT [sCutPrefix.e] [(!Lib.hasPrefix [61] [61]) = false → (2 : Int) ≠ 0] kq kq (fun _=>by decide) ?_
 refine V.known 21 false false kq rfl ?_
 refine V.runT [sCutPrefix.e] [] kq kq trivial ?_
 refine V.iter ?_
 refine V.runT [sCutPrefix.e] [] kq kq trivial ?_
 refine V.known 25 false false kq rfl ?_
 refine V.runT [sCutPrefix.e] [] kq kq trivial ?_
 refine V.callK [] bstr_new kq kq kq (fun _=>kq) (fun _ _=>?_)
 refine V.q ?_
 exact V.z
noncomputable def sUnhexNil : Con Tryz.prog:=Con.inst 187 [] [.one (.str [61])] (.tup [.one (.str []),.one (.bool true)]) (CallsK.gives cUnhexNil ⟨rfl,rfl,rfl⟩ (fun _ _=>rfl))
noncomputable def aFlagText : Con Tryz.prog:=Con.auto Tryz.func210 true [] [] kq kq
noncomputable def T6 : List (Ent Tryz.prog):=[⟨sItoa,[0]⟩,aFlagText.e,sHexNil.e]
noncomputable def aTypeText : Con Tryz.prog:=Con.auto Tryz.func174 true T6 [glbP] kq kq
def tyTxt0 : List UInt8:=[50,44,49,53,44,48,44,48,44,61]
noncomputable def T7 : List (Ent Tryz.prog):=[⟨sDecimal,[0]⟩,sUnhexNil.e]
theorem cTypeOf0 : CallsK Tryz.prog 176 [.one (.str tyTxt0)] glbF (fun _ : Unit=>True) (fun _=>.tup [.agg [.int .i64 2,.int .i64 15,.int .i64 0,.sb false,.str []],.one (.bool true)]) (fun _=>noF):=by
 refine CallsK.mk true Tryz.func176 kq kq (fun ρ w=>?_)
 refine V.runT T7 [] kq kq trivial ?_
 refine V.callK [(0,false)] (cPieces 44 tyTxt0 5 (by decide)) kq kq kq (fun _=>kq) (fun x _=>?_)
 refine V.runC T7 100 [(false = false → (0 : Int) ≤ 3 ∧ (3 : Int) < 5),(false = true → (0 : Int) ≤ 3 ∧ (3 : Int) < 5),(0 : Int) ≤ 0 ∧ (0 : Int) < 3,(0 : Int) ≤ 0 ∧ (0 : Int) < 5,(1 : Nat) ≤ 281474976710656,
    (0 : Int) ≤ 1 ∧ (1 : Int) < 3,(0 : Int) ≤ 1 ∧ (1 : Int) < 5,(2 : Nat) ≤ 281474976710656,(0 : Int) ≤ 2 ∧ (2 : Int) < 3,(0 : Int) ≤ 2 ∧ (2 : Int) < 5,(1 : Nat) ≤ 281474976710656,(0 : Int) ≤ 3 ∧ (3 : Int) < 5,(0 : Int) ≤ 4 ∧ (4 : Int) < 5,
    ([.one (.str [61])] : List CV) = [.one (.str [61])]] kq kq (by simp [allP]) ?_
 exact V.z
def rowF (x : In) (A : IA) : Row:=rowL Fm.cells fm0 x.f A.qf A.cf 93 4 false
def rowI (x : In) (A : IA) : Row:=rowL intv 0 x.l A.ql A.cl 3 1 false
def rowT (x : In) (A : IA) : Row:=rowL Ty.cells ty0 x.y A.qy A.cy 23 5 false
def psOf (ps : List Pers) : St:={ noF with pers:=ps }
theorem all_at {α : Type} {l : List α} {f : α → Bool} {i : Nat} (h : i < l.length) (d : α) (hf : f (l.getD i d) = false) : l.all f = false:=by
 rw [List.all_eq_false]
 refine ⟨l.getD i d,?_,by simpa using hf⟩
 rw [List.getD,List.getElem?_eq_getElem h]
 exact List.getElem_mem h
theorem all_next {α : Type} {l : List α} {f : α → Bool} {i : Nat} (h : i < l.length) (d : α) (ha : (l.take i).all f = true) (hf : f (l.getD i d) = true) : (l.take (i + 1)).all f = true:=by
 rw [List.take_add_one,List.getElem?_eq_getElem h,List.all_append,ha]
 rw [List.getD,List.getElem?_eq_getElem h] at hf
 simpa using hf
theorem wrap_up {i : Nat} (h : i < 4000000000000000000) : IntKind.i64.wrap ((i : Int) + 1) = ((i + 1 : Nat) : Int):=by
 simp [IntKind.wrap,IntKind.bits,IntKind.signed]
 omega
def fnV (f : Nat) : SV:=.val (.func (.func f) #[] #[])
def fineI (n : Int) : Bool:=decide (n ≥ 0) && isRg n
def isFm (f : Fm) : Bool:=isNum f.k && isNum f.w && isNum f.d && decide ((f.s.length : Int) ≤ 255)
noncomputable def aIsReg : Con Tryz.prog:=Con.auto Tryz.func152 true [] [] kq kq
noncomputable def aFineI : Con Tryz.prog:=Con.auto Tryz.func191 true [aIsReg.e] [] kq kq
noncomputable def aFineT : Con Tryz.prog:=Con.auto Tryz.func168 true [aIsNum.e] [] kq kq
noncomputable def aFineF : Con Tryz.prog:=Con.auto Tryz.func196 true [aIsNum.e] [] kq kq
noncomputable def selI : Con Tryz.prog:=Con.p1 190 25 (fun g o w hg=>by
 refine Calls.of_ptr g o hg false Tryz.func190 kq kq ?_
 refine V.u ?_
 exact V.ret (.v (.one (.ptr 0 (o + 25)))) kq kq (fun ρ a w' hS=>ptr_fin rfl kq rfl rfl hS))
noncomputable def selT : Con Tryz.prog:=Con.p1 195 26 (fun g o w hg=>by
 refine Calls.of_ptr g o hg false Tryz.func195 kq kq ?_
 refine V.u ?_
 exact V.ret (.v (.one (.ptr 0 (o + 26)))) kq kq (fun ρ a w' hS=>ptr_fin rfl kq rfl rfl hS))
noncomputable def selF : Con Tryz.prog:=Con.p1 202 24 (fun g o w hg=>by
 refine Calls.of_ptr g o hg false Tryz.func202 kq kq ?_
 refine V.u ?_
 exact V.ret (.v (.one (.ptr 0 (o + 24)))) kq kq (fun ρ a w' hS=>ptr_fin rfl kq rfl rfl hS))
def lfI (x : In) (A : IA) (cb cf : Nat) (i : Nat) : St :=
 { n:=27,slots:=[(1,.v (.one (.val (.pointer (some ⟨cb,0,none⟩))))),(2,.v (.one (.val (.pointer (some ⟨cf,0,none⟩))))),(3,.v (.one (.ptr 0 0))),(10,.v (.one (.row 0 A.ql x.l.length A.cl))),(11,.v (.one (.int .i64 x.l.length))),(12,.v (.one (.int .i64 i)))],gs:=[],
    heap:=[(0,⟨inV x A,30,true⟩)],next:=1,rows:=[(0,rowI x A)],nr:=1,pers:=[blkP cb [fnV 190] 212,blkP cf [fnV 191] 95],wr:=true,fx:=0 }
set_option maxHeartbeats 1000000 in
theorem lFineI (x : In) (A : IA) (cb cf : Nat) (hl : x.l.length ≤ 100000) : CallsK Tryz.prog 262 [.agg (inV x A),.one (.val (.pointer (some ⟨cb,0,none⟩))),.one (.val (.pointer (some ⟨cf,0,none⟩)))] (psOf [blkP cb [fnV 190] 212,blkP cf [fnV 191] 95,rowP (rowI x A)])
  (fun _ : Unit=>True) (fun _=>.v (.one (.sb (x.l.all fineI && decide ((x.l.length : Int) ≤ 16))))) (fun _=>noF):=by
 refine CallsK.mk true Tryz.func262 kq kq (fun ρ w=>?_)
 refine V.runT [selI.e,aFineI.e] [] kq kq trivial ?_
 refine V.loadP 0 212 cb 0 [fnV 190] 212 (.one (fnV 190)) kq kq kq kq kq ?_
 refine V.runT [selI.e,aFineI.e] [] kq kq trivial ?_
 refine V.asRow 10 2 (rowI x A) kq kq kq rfl ?_
 refine V.loopK [1,2,3,10,11,12] [true,true] (fun i : Nat=>x.l.length - i) (lfI x A cb cf) (fun i=>i ≤ x.l.length ∧ (x.l.take i).all fineI = true) 0 kq ⟨Nat.zero_le _,rfl⟩ (fun i hi ih=>?_)
 obtain ⟨hi,hall⟩:=hi
 refine V.iter ?_
 refine V.runT [selI.e,aFineI.e] [] kq kq trivial ?_
 refine V.branch 13 (decide ((i : Int) < x.l.length)) kq (fun hb=>?_) (fun hb=>?_)
 ·have hlt : i < x.l.length:=by simpa using hb
  refine V.runT [selI.e,aFineI.e] [(0 : Int) ≤ i ∧ (i : Int) < x.l.length] kq kq ⟨by omega,by omega⟩ ?_
  refine V.loadP 1 95 cf 0 [fnV 191] 95 (.one (fnV 191)) kq kq kq kq kq ?_
  refine V.runT [selI.e,aFineI.e] [] kq kq trivial ?_
  refine V.branch 19 (!fineI (x.l.getD i 0)) kq (fun hf=>?_) (fun hf=>?_)
  ·refine V.runT [selI.e,aFineI.e] [] kq kq trivial ?_
   rw [show (x.l.all fineI && decide ((x.l.length : Int) ≤ 16)) = false by rw [all_at hlt 0 (by simpa using hf),Bool.false_and]]
   refine V.slotAs 4 (.one (.bool false)) (.one (.sb false)) kq kq (fun _=>rfl) ?_
   exact V.z
  ·refine V.runT [selI.e,aFineI.e] [] kq kq trivial ?_
   refine V.slotAs 12 (.one (.int .i64 (IntKind.i64.wrap ((i : Int) + 1)))) (.one (.int .i64 ((i + 1 : Nat) : Int))) kq kq (fun _=>by rw [wrap_up (by omega)]) ?_
   refine V.againK [1,2,3,10,11,12] [true,true] (ih (i + 1) ⟨hlt,all_next hlt 0 hall (by simpa using hf)⟩ (by omega)) kq kq
 ·have hlen : x.l.length = i:=by
   have : ¬ i < x.l.length:=by simpa using hb
   omega
  refine V.runT [selI.e,aFineI.e] [] kq kq trivial ?_
  refine V.loadP 0 212 cb 0 [fnV 190] 212 (.one (fnV 190)) kq kq kq kq kq ?_
  refine V.runT [selI.e,aFineI.e] [] kq kq trivial ?_
  rw [show x.l.all fineI = true by rw [← hlen,List.take_length] at hall; exact hall,Bool.true_and]
  exact V.z
def lfT (x : In) (A : IA) (cb cf : Nat) (i : Nat) : St :=
 { n:=27,slots:=[(1,.v (.one (.val (.pointer (some ⟨cb,0,none⟩))))),(2,.v (.one (.val (.pointer (some ⟨cf,0,none⟩))))),(3,.v (.one (.ptr 0 0))),(10,.v (.one (.row 0 A.qy x.y.length A.cy))),(11,.v (.one (.int .i64 x.y.length))),(12,.v (.one (.int .i64 i)))],gs:=[],
    heap:=[(0,⟨inV x A,30,true⟩)],next:=1,rows:=[(0,rowT x A)],nr:=1,pers:=[blkP cb [fnV 195] 217,blkP cf [fnV 168] 180],wr:=true,fx:=0 }
set_option maxHeartbeats 1000000 in
theorem lFineT (x : In) (A : IA) (cb cf : Nat) (hl : x.y.length ≤ 100000) : CallsK Tryz.prog 269 [.agg (inV x A),.one (.val (.pointer (some ⟨cb,0,none⟩))),.one (.val (.pointer (some ⟨cf,0,none⟩)))] (psOf [blkP cb [fnV 195] 217,blkP cf [fnV 168] 180,rowP (rowT x A)])
  (fun _ : Unit=>True) (fun _=>.v (.one (.sb (x.y.all isTy && decide ((x.y.length : Int) ≤ 16))))) (fun _=>noF):=by
 refine CallsK.mk true Tryz.func269 kq kq (fun ρ w=>?_)
 refine V.runT [selT.e,aFineT.e] [] kq kq trivial ?_
 refine V.loadP 0 217 cb 0 [fnV 195] 217 (.one (fnV 195)) kq kq kq kq kq ?_
 refine V.runT [selT.e,aFineT.e] [] kq kq trivial ?_
 refine V.asRow 10 2 (rowT x A) kq kq kq rfl ?_
 refine V.loopK [1,2,3,10,11,12] [true,true] (fun i : Nat=>x.y.length - i) (lfT x A cb cf) (fun i=>i ≤ x.y.length ∧ (x.y.take i).all isTy = true) 0 kq ⟨Nat.zero_le _,rfl⟩ (fun i hi ih=>?_)
 obtain ⟨hi,hall⟩:=hi
 refine V.iter ?_
 refine V.runT [selT.e,aFineT.e] [] kq kq trivial ?_
 refine V.branch 13 (decide ((i : Int) < x.y.length)) kq (fun hb=>?_) (fun hb=>?_)
 ·have hlt : i < x.y.length:=by simpa using hb
  refine V.runT [selT.e,aFineT.e] [(0 : Int) ≤ i ∧ (i : Int) < x.y.length] kq kq ⟨by omega,by omega⟩ ?_
  refine V.loadP 1 180 cf 0 [fnV 168] 180 (.one (fnV 168)) kq kq kq kq kq ?_
  refine V.runT [selT.e,aFineT.e] [] kq kq trivial ?_
  refine V.branch 19 (!isTy (x.y.getD i ty0)) kq (fun hf=>?_) (fun hf=>?_)
  ·refine V.runT [selT.e,aFineT.e] [] kq kq trivial ?_
   rw [show (x.y.all isTy && decide ((x.y.length : Int) ≤ 16)) = false by rw [all_at hlt ty0 (by simpa using hf),Bool.false_and]]
   refine V.slotAs 4 (.one (.bool false)) (.one (.sb false)) kq kq (fun _=>rfl) ?_
   exact V.z
  ·refine V.runT [selT.e,aFineT.e] [] kq kq trivial ?_
   refine V.slotAs 12 (.one (.int .i64 (IntKind.i64.wrap ((i : Int) + 1)))) (.one (.int .i64 ((i + 1 : Nat) : Int))) kq kq (fun _=>by rw [wrap_up (by omega)]) ?_
   refine V.againK [1,2,3,10,11,12] [true,true] (ih (i + 1) ⟨hlt,all_next hlt ty0 hall (by simpa using hf)⟩ (by omega)) kq kq
 ·have hlen : x.y.length = i:=by
   have : ¬ i < x.y.length:=by simpa using hb
   omega
  refine V.runT [selT.e,aFineT.e] [] kq kq trivial ?_
  refine V.loadP 0 217 cb 0 [fnV 195] 217 (.one (fnV 195)) kq kq kq kq kq ?_
  refine V.runT [selT.e,aFineT.e] [] kq kq trivial ?_
  rw [show x.y.all isTy = true by rw [← hlen,List.take_length] at hall; exact hall,Bool.true_and]
  exact V.z
def lfF (x : In) (A : IA) (cb cf : Nat) (i : Nat) : St :=
 { n:=27,slots:=[(1,.v (.one (.val (.pointer (some ⟨cb,0,none⟩))))),(2,.v (.one (.val (.pointer (some ⟨cf,0,none⟩))))),(3,.v (.one (.ptr 0 0))),(10,.v (.one (.row 0 A.qf x.f.length A.cf))),(11,.v (.one (.int .i64 x.f.length))),(12,.v (.one (.int .i64 i)))],gs:=[],
    heap:=[(0,⟨inV x A,30,true⟩)],next:=1,rows:=[(0,rowF x A)],nr:=1,pers:=[blkP cb [fnV 202] 226,blkP cf [fnV 196] 181],wr:=true,fx:=0 }
set_option maxHeartbeats 1000000 in
theorem lFineF (x : In) (A : IA) (cb cf : Nat) (hl : x.f.length ≤ 100000) : CallsK Tryz.prog 275 [.agg (inV x A),.one (.val (.pointer (some ⟨cb,0,none⟩))),.one (.val (.pointer (some ⟨cf,0,none⟩)))] (psOf [blkP cb [fnV 202] 226,blkP cf [fnV 196] 181,rowP (rowF x A)])
  (fun _ : Unit=>True) (fun _=>.v (.one (.sb (x.f.all isFm && decide ((x.f.length : Int) ≤ 16))))) (fun _=>noF):=by
 refine CallsK.mk true Tryz.func275 kq kq (fun ρ w=>?_)
 refine V.runT [selF.e,aFineF.e] [] kq kq trivial ?_
 refine V.loadP 0 226 cb 0 [fnV 202] 226 (.one (fnV 202)) kq kq kq kq kq ?_
 refine V.runT [selF.e,aFineF.e] [] kq kq trivial ?_
 refine V.asRow 10 2 (rowF x A) kq kq kq rfl ?_
 refine V.loopK [1,2,3,10,11,12] [true,true] (fun i : Nat=>x.f.length - i) (lfF x A cb cf) (fun i=>i ≤ x.f.length ∧ (x.f.take i).all isFm = true) 0 kq ⟨Nat.zero_le _,rfl⟩ (fun i hi ih=>?_)
 obtain ⟨hi,hall⟩:=hi
 refine V.iter ?_
 refine V.runT [selF.e,aFineF.e] [] kq kq trivial ?_
 refine V.branch 13 (decide ((i : Int) < x.f.length)) kq (fun hb=>?_) (fun hb=>?_)
 ·have hlt : i < x.f.length:=by simpa using hb
  refine V.runT [selF.e,aFineF.e] [(0 : Int) ≤ i ∧ (i : Int) < x.f.length] kq kq ⟨by omega,by omega⟩ ?_
  refine V.loadP 1 181 cf 0 [fnV 196] 181 (.one (fnV 196)) kq kq kq kq kq ?_
  refine V.runT [selF.e,aFineF.e] [] kq kq trivial ?_
  refine V.branch 19 (!isFm (x.f.getD i fm0)) kq (fun hf=>?_) (fun hf=>?_)
  ·refine V.runT [selF.e,aFineF.e] [] kq kq trivial ?_
   rw [show (x.f.all isFm && decide ((x.f.length : Int) ≤ 16)) = false by rw [all_at hlt fm0 (by simpa using hf),Bool.false_and]]
   refine V.slotAs 4 (.one (.bool false)) (.one (.sb false)) kq kq (fun _=>rfl) ?_
   exact V.z
  ·refine V.runT [selF.e,aFineF.e] [] kq kq trivial ?_
   refine V.slotAs 12 (.one (.int .i64 (IntKind.i64.wrap ((i : Int) + 1)))) (.one (.int .i64 ((i + 1 : Nat) : Int))) kq kq (fun _=>by rw [wrap_up (by omega)]) ?_
   refine V.againK [1,2,3,10,11,12] [true,true] (ih (i + 1) ⟨hlt,all_next hlt fm0 hall (by simpa using hf)⟩ (by omega)) kq kq
 ·have hlen : x.f.length = i:=by
   have : ¬ i < x.f.length:=by simpa using hb
   omega
  refine V.runT [selF.e,aFineF.e] [] kq kq trivial ?_
  refine V.loadP 0 226 cb 0 [fnV 202] 226 (.one (fnV 202)) kq kq kq kq kq ?_
  refine V.runT [selF.e,aFineF.e] [] kq kq trivial ?_
  rw [show x.f.all isFm = true by rw [← hlen,List.take_length] at hall; exact hall,Bool.true_and]
  exact V.z
theorem cNum (n : Int) (b : WSt) (h1 : -2147483648 ≤ n) (h2 : n ≤ 2147483647) (hb : b.bs.length ≤ 1000000000) : CallsK Tryz.prog 54 [.one (.ptr 0 0),.one (.int .i64 n)] (wrF [] b)
  (fun b' : WSt=>b'.bs = b.bs ++ encN n ∧ b'.rs = b.rs ++ []) (fun _=>.tup []) (wrF []):=CallsK.ofF (fun _=>rfl) (wnumber n b h1 h2 hb)
theorem cStr (l : List UInt8) (b : WSt) (hl : l.length ≤ 1000000000) (hb : b.bs.length ≤ 900000000) : CallsK Tryz.prog 180 [.one (.ptr 0 0),.one (.str l)] (wrF [] b)
  (fun b' : WSt=>b'.bs = b.bs ++ encS l ∧ b'.rs = b.rs ++ []) (fun _=>.tup []) (wrF []):=CallsK.ofF (fun _=>rfl) (wstr l b hl hb)
theorem cTyp (t : Ty) (b : WSt) (h1 : num32 t.k) (h2 : num32 t.p) (h3 : num32 t.q) (hl : t.s.length ≤ 50000000) (hb : b.bs.length ≤ 800000000) : CallsK Tryz.prog 170 [.one (.ptr 0 0),.agg t.cells] (wrF [] b)
  (fun b' : WSt=>b'.bs = b.bs ++ encTy t ∧ b'.rs = b.rs ++ []) (fun _=>.tup []) (wrF []):=CallsK.ofF (fun _=>rfl) (wtyp t b h1 h2 h3 hl hb)
theorem encN_len (n : Int) : (encN n).length ≤ 10:=groups_len 9 (zz n)
theorem encS_len (l : List UInt8) : (encS l).length ≤ 10 + l.length:=by
 have:=encN_len l.length
 unfold encS; rw [List.length_append]; omega
theorem encTy_len (t : Ty) : (encTy t).length ≤ 41 + t.s.length:=by
 have h1:=encN_len t.k; have h2:=encN_len t.p; have h3:=encN_len t.q; have h4:=encS_len t.s
 unfold encTy; simp only [List.length_append,List.length_cons,List.length_nil]; omega
def eI (n : Int) : List UInt8:=encN (n + 1)
def encFm (f : Fm) : List UInt8:=encN f.k ++ (encN f.w ++ (encN f.d ++ encS f.s))
theorem encFm_len (f : Fm) : (encFm f).length ≤ 40 + f.s.length:=by
 have h1:=encN_len f.k; have h2:=encN_len f.w; have h3:=encN_len f.d; have h4:=encS_len f.s
 unfold encFm; simp only [List.length_append]; omega
theorem pI (n : Int) (b : WSt) (hn : fineI n = true) (hb : b.bs.length ≤ 700000000) : CallsK Tryz.prog 192 [.one (.ptr 0 0),.one (.int .i64 n)] (wrF [] b)
  (fun b' : WSt=>b'.bs = b.bs ++ eI n ∧ b'.rs = b.rs ++ []) (fun _=>.tup []) (wrF []):=by
 have hn1 : 0 ≤ n ∧ n < 4000:=by
  simp [fineI,isRg] at hn; omega
 refine CallsK.mk true Tryz.func192 kq kq (fun ρ w=>?_)
 refine V.q ?_
 refine V.slotAs 6 (.one (.int .i64 (IntKind.i64.wrap (n + 1)))) (.one (.int .i64 (n + 1))) kq kq (fun _=>by rw [wrap_in (by constructor <;> omega)]) ?_
 refine V.callK [] (cNum (n + 1) b (by omega) (by omega) (by omega)) kq kq kq (fun _=>kq) (fun b1 e1=>?_)
 refine V.q ?_
 exact V.retK b1 [] kq kq kq e1
theorem pT (t : Ty) (b : WSt) (ht : isTy t = true) (hb : b.bs.length ≤ 700000000) : CallsK Tryz.prog 170 [.one (.ptr 0 0),.agg t.cells] (wrF [] b)
  (fun b' : WSt=>b'.bs = b.bs ++ encTy t ∧ b'.rs = b.rs ++ []) (fun _=>.tup []) (wrF []):=by
 simp only [isTy,Bool.and_eq_true,decide_eq_true_eq] at ht
 exact cTyp t b (isNum_32 ht.1.1.1) (isNum_32 ht.1.1.2) (isNum_32 ht.1.2) (by omega) (by omega)
theorem pF (f : Fm) (b : WSt) (hf : isFm f = true) (hb : b.bs.length ≤ 700000000) : CallsK Tryz.prog 197 [.one (.ptr 0 0),.agg f.cells] (wrF [] b)
  (fun b' : WSt=>b'.bs = b.bs ++ encFm f ∧ b'.rs = b.rs ++ []) (fun _=>.tup []) (wrF []):=by
 obtain ⟨k,w,d,s⟩:=f
 simp only [isFm,Bool.and_eq_true,decide_eq_true_eq] at hf
 refine CallsK.mk true Tryz.func197 kq kq (fun ρ W=>?_)
 refine V.q ?_
 refine V.callK [] (cNum k b (isNum_32 hf.1.1.1).1 (isNum_32 hf.1.1.1).2 (by omega)) kq kq kq (fun _=>kq) (fun b1 e1=>?_)
 have l1 : b1.bs.length ≤ b.bs.length + 10:=by rw [e1.1,List.length_append]; have:=encN_len k; omega
 refine V.q ?_
 refine V.callK [] (cNum w b1 (isNum_32 hf.1.1.2).1 (isNum_32 hf.1.1.2).2 (by omega)) kq kq kq (fun _=>kq) (fun b2 e2=>?_)
 have l2 : b2.bs.length ≤ b1.bs.length + 10:=by rw [e2.1,List.length_append]; have:=encN_len w; omega
 refine V.q ?_
 refine V.callK [] (cNum d b2 (isNum_32 hf.1.2).1 (isNum_32 hf.1.2).2 (by omega)) kq kq kq (fun _=>kq) (fun b3 e3=>?_)
 have l3 : b3.bs.length ≤ b2.bs.length + 10:=by rw [e3.1,List.length_append]; have:=encN_len d; omega
 refine V.q ?_
 refine V.callK [] (cStr s b3 (by omega) (by omega)) kq kq kq (fun _=>kq) (fun b4 e4=>?_)
 refine V.q ?_
 exact V.retK b4 [] kq kq kq ⟨by rw [e4.1,e3.1,e2.1,e1.1]; simp [encFm],by rw [e4.2,e3.2,e2.2,e1.2]; simp⟩
theorem all_get {α : Type} {l : List α} {f : α → Bool} {i : Nat} (h : i < l.length) (d : α) (ha : l.all f = true) : f (l.getD i d) = true:=by
 rw [List.getD,List.getElem?_eq_getElem h]
 exact List.all_eq_true.1 ha _ (List.getElem_mem h)
theorem flat_next {α : Type} {l : List α} {f : α → List UInt8} {i : Nat} (h : i < l.length) (d : α) : (l.take (i + 1)).flatMap f = (l.take i).flatMap f ++ f (l.getD i d):=by
 rw [List.take_add_one,List.getElem?_eq_getElem h,List.getD,List.getElem?_eq_getElem h,List.flatMap_append]
 simp
def encLst {α : Type} (f : α → List UInt8) (l : List α) : List UInt8:=encN l.length ++ l.flatMap f
def lpI (x : In) (A : IA) (cp : Nat) (j : WSt × Nat) : St :=
 { n:=29,slots:=[(0,.v (.one (.ptr 0 0))),(3,.v (.one (.val (.pointer (some ⟨cp,0,none⟩))))),(18,.v (.one (.row 2 A.ql x.l.length A.cl))),(19,.v (.one (.int .i64 x.l.length))),(20,.v (.one (.int .i64 j.2)))],gs:=[],
    heap:=(wrF [] j.1).heap,next:=1,rows:=[(0,rowL bsv 0 j.1.bs j.1.q j.1.c 5 1 true),(1,rowL rlv (0,0) j.1.rs j.1.q2 j.1.c2 62 2 true),(2,rowI x A)],nr:=3,pers:=[blkP cp [fnV 192] 213],wr:=true,fx:=1 }
set_option maxHeartbeats 1000000 in
theorem lPutI (x : In) (A : IA) (cb cp : Nat) (b : WSt) (hl : x.l.length ≤ 1000) (hf : x.l.all fineI = true) (hb : b.bs.length ≤ 600000000) : CallsK Tryz.prog 263 [.one (.ptr 0 0),.agg (inV x A),.one (.val (.pointer (some ⟨cb,0,none⟩))),.one (.val (.pointer (some ⟨cp,0,none⟩)))] (wrF [blkP cb [fnV 190] 212,blkP cp [fnV 192] 213,rowP (rowI x A)] b)
  (fun b' : WSt=>b'.bs = b.bs ++ encLst eI x.l ∧ b'.rs = b.rs ++ []) (fun _=>.tup []) (wrF []):=by
 refine CallsK.mk true Tryz.func263 kq kq (fun ρ w=>?_)
 refine V.runT [selI.e] [] kq kq trivial ?_
 refine V.loadP 0 212 cb 0 [fnV 190] 212 (.one (fnV 190)) kq kq kq kq kq ?_
 refine V.runT [selI.e] [] kq kq trivial ?_
 refine V.callK [] (cNum x.l.length b (by omega) (by omega) (by omega)) kq kq kq (fun _=>kq) (fun b1 e1=>?_)
 have l1 : b1.bs.length ≤ b.bs.length + 10:=by rw [e1.1,List.length_append]; have:=encN_len x.l.length; omega
 refine V.runT [selI.e] [] kq kq trivial ?_
 refine V.loadP 0 212 cb 0 [fnV 190] 212 (.one (fnV 190)) kq kq kq kq kq ?_
 refine V.runT [selI.e] [] kq kq trivial ?_
 refine V.asRow 18 2 (rowI x A) kq kq kq rfl ?_
 refine V.loopK [0,3,18,19,20] [false,true] (fun j : WSt × Nat=>x.l.length - j.2) (lpI x A cp) (fun j=>j.2 ≤ x.l.length ∧ j.1.bs = b1.bs ++ (x.l.take j.2).flatMap eI ∧ j.1.rs = b.rs ++ [] ∧ j.1.bs.length ≤ b1.bs.length + 10 * j.2) (b1,0) kq
  ⟨Nat.zero_le _,by simp,e1.2,Nat.le_refl _⟩ (fun j hj ih=>?_)
 obtain ⟨b2,i⟩:=j
 obtain ⟨hi,e2,e3,l2⟩:=hj
 simp only at hi e2 e3 l2
 refine V.iter ?_
 refine V.runT [selI.e] [] kq kq trivial ?_
 refine V.branch 21 (decide ((i : Int) < x.l.length)) kq (fun hb'=>?_) (fun hb'=>?_)
 ·have hlt : i < x.l.length:=by simpa using hb'
  have hfe:=all_get hlt 0 hf
  refine V.runT [selI.e] [(0 : Int) ≤ i ∧ (i : Int) < x.l.length] kq kq ⟨by omega,by omega⟩ ?_
  refine V.loadP 0 213 cp 0 [fnV 192] 213 (.one (fnV 192)) kq kq kq kq kq ?_
  refine V.runT [selI.e] [] kq kq trivial ?_
  refine V.callK [] (pI (x.l.getD i 0) b2 hfe (by omega)) kq kq kq (fun _=>kq) (fun b3 e4=>?_)
  have l3 : (eI (x.l.getD i 0)).length ≤ 10:=by have:=encN_len (x.l.getD i 0 + 1); show (encN (x.l.getD i 0 + 1)).length ≤ _; omega
  refine V.runT [selI.e] [] kq kq trivial ?_
  refine V.slotAs 20 (.one (.int .i64 (IntKind.i64.wrap ((i : Int) + 1)))) (.one (.int .i64 ((i + 1 : Nat) : Int))) kq kq (fun _=>by rw [wrap_up (by omega)]) ?_
  refine V.againK [0,3,18,19,20] [true] (ih (b3,i + 1) ⟨hlt,?_,?_,?_⟩ (by simp only; omega)) kq kq
  ·simp only
   rw [e4.1,e2,flat_next hlt 0,List.append_assoc]
  ·simp only
   rw [e4.2,e3,List.append_nil,List.append_nil]
  ·simp only
   rw [e4.1,List.length_append]; omega
 ·have hlen : x.l.length = i:=by
   have : ¬ i < x.l.length:=by simpa using hb'
   omega
  refine V.runT [selI.e] [] kq kq trivial ?_
  exact V.retK b2 [] kq kq kq ⟨by rw [e2,e1.1,← hlen,List.take_length,List.append_assoc]; rfl,e3⟩
def lpT (x : In) (A : IA) (cp : Nat) (j : WSt × Nat) : St :=
 { n:=29,slots:=[(0,.v (.one (.ptr 0 0))),(3,.v (.one (.val (.pointer (some ⟨cp,0,none⟩))))),(18,.v (.one (.row 2 A.qy x.y.length A.cy))),(19,.v (.one (.int .i64 x.y.length))),(20,.v (.one (.int .i64 j.2)))],gs:=[],
    heap:=(wrF [] j.1).heap,next:=1,rows:=[(0,rowL bsv 0 j.1.bs j.1.q j.1.c 5 1 true),(1,rowL rlv (0,0) j.1.rs j.1.q2 j.1.c2 62 2 true),(2,rowT x A)],nr:=3,pers:=[blkP cp [fnV 170] 218],wr:=true,fx:=1 }
set_option maxHeartbeats 1000000 in
theorem lPutT (x : In) (A : IA) (cb cp : Nat) (b : WSt) (hl : x.y.length ≤ 1000) (hf : x.y.all isTy = true) (hb : b.bs.length ≤ 600000000) : CallsK Tryz.prog 270 [.one (.ptr 0 0),.agg (inV x A),.one (.val (.pointer (some ⟨cb,0,none⟩))),.one (.val (.pointer (some ⟨cp,0,none⟩)))] (wrF [blkP cb [fnV 195] 217,blkP cp [fnV 170] 218,rowP (rowT x A)] b)
  (fun b' : WSt=>b'.bs = b.bs ++ encLst encTy x.y ∧ b'.rs = b.rs ++ []) (fun _=>.tup []) (wrF []):=by
 refine CallsK.mk true Tryz.func270 kq kq (fun ρ w=>?_)
 refine V.runT [selT.e] [] kq kq trivial ?_
 refine V.loadP 0 217 cb 0 [fnV 195] 217 (.one (fnV 195)) kq kq kq kq kq ?_
 refine V.runT [selT.e] [] kq kq trivial ?_
 refine V.callK [] (cNum x.y.length b (by omega) (by omega) (by omega)) kq kq kq (fun _=>kq) (fun b1 e1=>?_)
 have l1 : b1.bs.length ≤ b.bs.length + 10:=by rw [e1.1,List.length_append]; have:=encN_len x.y.length; omega
 refine V.runT [selT.e] [] kq kq trivial ?_
 refine V.loadP 0 217 cb 0 [fnV 195] 217 (.one (fnV 195)) kq kq kq kq kq ?_
 refine V.runT [selT.e] [] kq kq trivial ?_
 refine V.asRow 18 2 (rowT x A) kq kq kq rfl ?_
 refine V.loopK [0,3,18,19,20] [false,true] (fun j : WSt × Nat=>x.y.length - j.2) (lpT x A cp) (fun j=>j.2 ≤ x.y.length ∧ j.1.bs = b1.bs ++ (x.y.take j.2).flatMap encTy ∧ j.1.rs = b.rs ++ [] ∧ j.1.bs.length ≤ b1.bs.length + 300 * j.2) (b1,0) kq
  ⟨Nat.zero_le _,by simp,e1.2,Nat.le_refl _⟩ (fun j hj ih=>?_)
 obtain ⟨b2,i⟩:=j
 obtain ⟨hi,e2,e3,l2⟩:=hj
 simp only at hi e2 e3 l2
 refine V.iter ?_
 refine V.runT [selT.e] [] kq kq trivial ?_
 refine V.branch 21 (decide ((i : Int) < x.y.length)) kq (fun hb'=>?_) (fun hb'=>?_)
 ·have hlt : i < x.y.length:=by simpa using hb'
  have hfe:=all_get hlt ty0 hf
  refine V.runT [selT.e] [(0 : Int) ≤ i ∧ (i : Int) < x.y.length] kq kq ⟨by omega,by omega⟩ ?_
  refine V.loadP 0 218 cp 0 [fnV 170] 218 (.one (fnV 170)) kq kq kq kq kq ?_
  refine V.runT [selT.e] [] kq kq trivial ?_
  refine V.callK [] (pT (x.y.getD i ty0) b2 hfe (by omega)) kq kq kq (fun _=>kq) (fun b3 e4=>?_)
  have l3 : (encTy (x.y.getD i ty0)).length ≤ 300:=by have:=encTy_len (x.y.getD i ty0); have h5:=hfe; simp only [isTy,Bool.and_eq_true,decide_eq_true_eq] at h5; omega
  refine V.runT [selT.e] [] kq kq trivial ?_
  refine V.slotAs 20 (.one (.int .i64 (IntKind.i64.wrap ((i : Int) + 1)))) (.one (.int .i64 ((i + 1 : Nat) : Int))) kq kq (fun _=>by rw [wrap_up (by omega)]) ?_
  refine V.againK [0,3,18,19,20] [true] (ih (b3,i + 1) ⟨hlt,?_,?_,?_⟩ (by simp only; omega)) kq kq
  ·simp only
   rw [e4.1,e2,flat_next hlt ty0,List.append_assoc]
  ·simp only
   rw [e4.2,e3,List.append_nil,List.append_nil]
  ·simp only
   rw [e4.1,List.length_append]; omega
 ·have hlen : x.y.length = i:=by
   have : ¬ i < x.y.length:=by simpa using hb'
   omega
  refine V.runT [selT.e] [] kq kq trivial ?_
  exact V.retK b2 [] kq kq kq ⟨by rw [e2,e1.1,← hlen,List.take_length,List.append_assoc]; rfl,e3⟩
def lpF (x : In) (A : IA) (cp : Nat) (j : WSt × Nat) : St :=
 { n:=29,slots:=[(0,.v (.one (.ptr 0 0))),(3,.v (.one (.val (.pointer (some ⟨cp,0,none⟩))))),(18,.v (.one (.row 2 A.qf x.f.length A.cf))),(19,.v (.one (.int .i64 x.f.length))),(20,.v (.one (.int .i64 j.2)))],gs:=[],
    heap:=(wrF [] j.1).heap,next:=1,rows:=[(0,rowL bsv 0 j.1.bs j.1.q j.1.c 5 1 true),(1,rowL rlv (0,0) j.1.rs j.1.q2 j.1.c2 62 2 true),(2,rowF x A)],nr:=3,pers:=[blkP cp [fnV 197] 220],wr:=true,fx:=1 }
set_option maxHeartbeats 1000000 in
theorem lPutF (x : In) (A : IA) (cb cp : Nat) (b : WSt) (hl : x.f.length ≤ 1000) (hf : x.f.all isFm = true) (hb : b.bs.length ≤ 600000000) : CallsK Tryz.prog 276 [.one (.ptr 0 0),.agg (inV x A),.one (.val (.pointer (some ⟨cb,0,none⟩))),.one (.val (.pointer (some ⟨cp,0,none⟩)))] (wrF [blkP cb [fnV 202] 226,blkP cp [fnV 197] 220,rowP (rowF x A)] b)
  (fun b' : WSt=>b'.bs = b.bs ++ encLst encFm x.f ∧ b'.rs = b.rs ++ []) (fun _=>.tup []) (wrF []):=by
 refine CallsK.mk true Tryz.func276 kq kq (fun ρ w=>?_)
 refine V.runT [selF.e] [] kq kq trivial ?_
 refine V.loadP 0 226 cb 0 [fnV 202] 226 (.one (fnV 202)) kq kq kq kq kq ?_
 refine V.runT [selF.e] [] kq kq trivial ?_
 refine V.callK [] (cNum x.f.length b (by omega) (by omega) (by omega)) kq kq kq (fun _=>kq) (fun b1 e1=>?_)
 have l1 : b1.bs.length ≤ b.bs.length + 10:=by rw [e1.1,List.length_append]; have:=encN_len x.f.length; omega
 refine V.runT [selF.e] [] kq kq trivial ?_
 refine V.loadP 0 226 cb 0 [fnV 202] 226 (.one (fnV 202)) kq kq kq kq kq ?_
 refine V.runT [selF.e] [] kq kq trivial ?_
 refine V.asRow 18 2 (rowF x A) kq kq kq rfl ?_
 refine V.loopK [0,3,18,19,20] [false,true] (fun j : WSt × Nat=>x.f.length - j.2) (lpF x A cp) (fun j=>j.2 ≤ x.f.length ∧ j.1.bs = b1.bs ++ (x.f.take j.2).flatMap encFm ∧ j.1.rs = b.rs ++ [] ∧ j.1.bs.length ≤ b1.bs.length + 300 * j.2) (b1,0) kq
  ⟨Nat.zero_le _,by simp,e1.2,Nat.le_refl _⟩ (fun j hj ih=>?_)
 obtain ⟨b2,i⟩:=j
 obtain ⟨hi,e2,e3,l2⟩:=hj
 simp only at hi e2 e3 l2
 refine V.iter ?_
 refine V.runT [selF.e] [] kq kq trivial ?_
 refine V.branch 21 (decide ((i : Int) < x.f.length)) kq (fun hb'=>?_) (fun hb'=>?_)
 ·have hlt : i < x.f.length:=by simpa using hb'
  have hfe:=all_get hlt fm0 hf
  refine V.runT [selF.e] [(0 : Int) ≤ i ∧ (i : Int) < x.f.length] kq kq ⟨by omega,by omega⟩ ?_
  refine V.loadP 0 220 cp 0 [fnV 197] 220 (.one (fnV 197)) kq kq kq kq kq ?_
  refine V.runT [selF.e] [] kq kq trivial ?_
  refine V.callK [] (pF (x.f.getD i fm0) b2 hfe (by omega)) kq kq kq (fun _=>kq) (fun b3 e4=>?_)
  have l3 : (encFm (x.f.getD i fm0)).length ≤ 300:=by have:=encFm_len (x.f.getD i fm0); have h5:=hfe; simp only [isFm,Bool.and_eq_true,decide_eq_true_eq] at h5; omega
  refine V.runT [selF.e] [] kq kq trivial ?_
  refine V.slotAs 20 (.one (.int .i64 (IntKind.i64.wrap ((i : Int) + 1)))) (.one (.int .i64 ((i + 1 : Nat) : Int))) kq kq (fun _=>by rw [wrap_up (by omega)]) ?_
  refine V.againK [0,3,18,19,20] [true] (ih (b3,i + 1) ⟨hlt,?_,?_,?_⟩ (by simp only; omega)) kq kq
  ·simp only
   rw [e4.1,e2,flat_next hlt fm0,List.append_assoc]
  ·simp only
   rw [e4.2,e3,List.append_nil,List.append_nil]
  ·simp only
   rw [e4.1,List.length_append]; omega
 ·have hlen : x.f.length = i:=by
   have : ¬ i < x.f.length:=by simpa using hb'
   omega
  refine V.runT [selF.e] [] kq kq trivial ?_
  exact V.retK b2 [] kq kq kq ⟨by rw [e2,e1.1,← hlen,List.take_length,List.append_assoc]; rfl,e3⟩
theorem cRNum (X : RIn) (r : RSt) (h : okIn X r) : CallsK Tryz.prog 57 [.one (.ptr 0 0)] (rdF [] X r) (fun r' : RSt=>r' = (rdNum X r).2) (fun _=>.v (.one (.int .i64 (rdNum X r).1))) (rdF [] X):=CallsK.ofF (fun _=>rfl) (rnumber X r h)
def gI (X : RIn) (r : RSt) : Int × RSt:=((rdNum X r).1 - 1,(rdNum X r).2)
theorem cgI (X : RIn) (r : RSt) (h : okIn X r) : CallsK Tryz.prog 193 [.one (.ptr 0 0)] (rdF [] X r) (fun r' : RSt=>r' = (gI X r).2) (fun _=>.v (.one (.int .i64 (gI X r).1))) (rdF [] X):=by
 obtain ⟨q1,q2⟩ : num32 (rdNum X r).1:=isNum_32 (rdNum_ok h).2
 refine CallsK.mk true Tryz.func193 kq kq (fun ρ w=>?_)
 refine V.q ?_
 refine V.callK [] (cRNum X r h) kq kq kq (fun _=>kq) (fun r1 e1=>?_)
 subst e1
 refine V.q ?_
 refine V.slotAs 2 (.one (.int .i64 (IntKind.i64.wrap ((rdNum X r).1 - 1)))) (.one (.int .i64 ((rdNum X r).1 - 1))) kq kq (fun _=>by rw [wrap_in (by constructor <;> omega)]) ?_
 exact V.retK (rdNum X r).2 [] kq kq kq rfl
def rdList {α : Type} (g : RSt → α × RSt) : Nat → RSt → List α × RSt
 | 0,r=>([],r)
 | k + 1,r=>((g r).1 :: (rdList g k (g r).2).1,(rdList g k (g r).2).2)
def rdLst {α : Type} (X : RIn) (g : RSt → α × RSt) (l : List α) (r : RSt) : List α × RSt :=
 if (decide ((rdNum X r).1 < 0) || decide ((rdNum X r).1 > 16)) = true then (l,⟨(rdNum X r).2.at_,true⟩) else (l ++ (rdList g (rdNum X r).1.toNat (rdNum X r).2).1,(rdList g (rdNum X r).1.toNat (rdNum X r).2).2)
theorem cRStr (X : RIn) (r : RSt) (h : okIn X r) : CallsK Tryz.prog 182 [.one (.ptr 0 0)] (rdF [] X r) (fun r' : RSt=>r' = (rdStr X r).2) (fun _=>.v (.one (.str (rdStr X r).1))) (rdF [] X):=CallsK.ofF (fun _=>rfl) (rstr X r h)
theorem cgT (X : RIn) (r : RSt) (h : okIn X r) : CallsK Tryz.prog 172 [.one (.ptr 0 0)] (rdF [] X r) (fun r' : RSt=>r' = (rdTy X r).2) (fun _=>.v (.agg (rdTy X r).1.cells)) (rdF [] X):=CallsK.ofF (fun _=>rfl) (rtyp X r h)
def rdFm (X : RIn) (r : RSt) : Fm × RSt :=
 let a:=rdNum X r
 let b:=rdNum X a.2
 let c:=rdNum X b.2
 let d:=rdStr X c.2
 (⟨a.1,b.1,c.1,d.1⟩,d.2)
theorem rdTy_ok {X : RIn} {r : RSt} (h : okIn X r) : okIn X (rdTy X r).2:=rdStr_ok (rdFlag_ok (rdNum_ok (rdNum_ok (rdNum_ok h).1).1).1)
theorem rdFm_ok {X : RIn} {r : RSt} (h : okIn X r) : okIn X (rdFm X r).2:=rdStr_ok (rdNum_ok (rdNum_ok (rdNum_ok h).1).1).1
theorem cgF (X : RIn) (r : RSt) (h : okIn X r) : CallsK Tryz.prog 198 [.one (.ptr 0 0)] (rdF [] X r) (fun r' : RSt=>r' = (rdFm X r).2) (fun _=>.v (.agg (rdFm X r).1.cells)) (rdF [] X):=by
 have h1:=(rdNum_ok h).1
 have h2:=(rdNum_ok h1).1
 have h3:=(rdNum_ok h2).1
 refine CallsK.mk true Tryz.func198 kq kq (fun ρ w=>?_)
 refine V.q ?_
 refine V.callK [] (cRNum X r h) kq kq kq (fun _=>kq) (fun r1 e1=>?_)
 subst e1
 refine V.q ?_
 refine V.callK [] (cRNum X _ h1) kq kq kq (fun _=>kq) (fun r2 e2=>?_)
 subst e2
 refine V.q ?_
 refine V.callK [] (cRNum X _ h2) kq kq kq (fun _=>kq) (fun r3 e3=>?_)
 subst e3
 refine V.q ?_
 refine V.callK [] (cRStr X _ h3) kq kq kq (fun _=>kq) (fun r4 e4=>?_)
 subst e4
 refine V.q ?_
 exact V.retK (rdFm X r).2 [] kq kq kq rfl
theorem gI_ok {X : RIn} {r : RSt} (h : okIn X r) : okIn X (gI X r).2:=(rdNum_ok h).1
structure GL (α : Type) where
 r : RSt
 l : List α
 q : Option Addr
 c : Nat
 i : Nat
def xI (x : In) (j : GL Int) : In:={ x with l:=j.l }
def aI (A : IA) (j : GL Int) : IA:={ A with ql:=j.q,cl:=j.c }
def lgI (X : RIn) (x : In) (A : IA) (n : Int) (j : GL Int) : St :=
 { n:=36,slots:=[(0,.v (.one (.ptr 0 0))),(1,.v (.one (.ptr 1 0))),(2,.v (.one (.ptr 2 0))),(3,.v (.one (.ptr 3 0))),(18,.v (.one (.int .i64 n))),(19,.v (.one (.int .i64 j.i)))],gs:=[],
    heap:=[(0,⟨[.str X.s,.int .i64 (j.r.at_ : Int),.val (.slice X.q X.n X.c),.sb j.r.bad],104,true⟩),(1,⟨inO (xI x j) (aI A j),30,true⟩),(2,⟨[fnV 190],212,false⟩),(3,⟨[fnV 193],214,false⟩)],next:=4,rows:=inRows (xI x j) (aI A j),nr:=3,pers:=[],wr:=true,fx:=2 }
set_option maxHeartbeats 400000 in
theorem lGetI (X : RIn) (r : RSt) (h : okIn X r) (x : In) (A : IA) (cb cg : Nat) (hl : x.l.length ≤ 1000) : CallsK Tryz.prog 264 [.one (.ptr 0 0),.one (.ptr 1 0),.one (.val (.pointer (some ⟨cb,0,none⟩))),.one (.val (.pointer (some ⟨cg,0,none⟩)))]
  (gtF [blkP cb [fnV 190] 212,blkP cg [fnV 193] 214] X r x A)
  (fun y : RSt × In × IA=>y.1 = (rdLst X (gI X) x.l r).2 ∧ y.2.1 = { x with l:=(rdLst X (gI X) x.l r).1 }) (fun _=>.tup []) (fun y=>gtF [] X y.1 y.2.1 y.2.2):=by
 refine CallsK.mk true Tryz.func264 kq kq (fun ρ w=>?_)
 refine V.q ?_
 refine V.callK [] (cRNum X r h) kq kq kq (fun _=>kq) (fun r1 e1=>?_)
 subst e1
 obtain ⟨h1,hnum⟩:=rdNum_ok h
 refine V.q ?_
 refine V.branch 14 (decide ((rdNum X r).1 < 0) || decide ((rdNum X r).1 > 16)) kq (fun hb=>?_) (fun hb=>?_)
 ·refine V.q ?_
  refine V.cellAs 0 3 ⟨[.str X.s,.int .i64 ((rdNum X r).2.at_ : Int),.val (.slice X.q X.n X.c),.bool true],104,true⟩ (.bool true) (.sb true) kq rfl kq (fun _=>rfl) ?_
  refine V.retK (⟨(rdNum X r).2.at_,true⟩,x,A) [] kq kq kq ?_
  unfold rdLst
  rw [if_pos hb]
  exact ⟨rfl,rfl⟩
 ·refine V.q ?_
  refine V.blkInL 2 cb [fnV 190] 212 [blkP cg [fnV 193] 214] kq kq kq kq kq (fun w h1 h2 p hp=>by
   rw [List.mem_singleton] at hp
   subst hp
   exact blk_apart (by decide) w h1 (h2 _ (List.mem_singleton.2 rfl))) ?_
  refine V.blkInL 3 cg [fnV 193] 214 [] kq kq kq kq kq (fun w h1 h2 p hp=>by cases hp) ?_
  have hn : 0 ≤ (rdNum X r).1 ∧ (rdNum X r).1 ≤ 16:=by
   simp only [Bool.or_eq_false_iff,decide_eq_false_iff_not] at hb; omega
  have hres : rdLst X (gI X) x.l r = (x.l ++ (rdList (gI X) (rdNum X r).1.toNat (rdNum X r).2).1,(rdList (gI X) (rdNum X r).1.toNat (rdNum X r).2).2):=by unfold rdLst; rw [if_neg (by rw [hb]; simp)]
  refine V.loopK [0,1,2,3,18,19] [] (fun j : GL Int=>(rdNum X r).1.toNat - j.i) (lgI X x A (rdNum X r).1)
   (fun j=>okIn X j.r ∧ j.i ≤ (rdNum X r).1.toNat ∧ j.l.length ≤ x.l.length + j.i ∧ j.l ++ (rdList (gI X) ((rdNum X r).1.toNat - j.i) j.r).1 = (rdLst X (gI X) x.l r).1 ∧ (rdList (gI X) ((rdNum X r).1.toNat - j.i) j.r).2 = (rdLst X (gI X) x.l r).2)
   ⟨(rdNum X r).2,x.l,A.ql,A.cl,0⟩ kq ⟨h1,Nat.zero_le _,Nat.le_refl _,by rw [hres]; rfl,by rw [hres]; rfl⟩ (fun j hj ih=>?_)
  obtain ⟨r2,l2,q2,c2,i⟩:=j
  obtain ⟨h2,hi,hll,e1,e2⟩:=hj
  simp only at h2 hi hll e1 e2
  refine V.iter ?_
  refine V.q ?_
  refine V.branch 20 (decide ((i : Int) < (rdNum X r).1)) kq (fun hc=>?_) (fun hc=>?_)
  ·have hlt : (i : Int) < (rdNum X r).1:=by simpa using hc
   have hlt' : i < (rdNum X r).1.toNat:=by omega
   obtain ⟨m,hm⟩ : ∃ m,(rdNum X r).1.toNat - i = m + 1:=⟨(rdNum X r).1.toNat - i - 1,by omega⟩
   have hm' : (rdNum X r).1.toNat - (i + 1) = m:=by omega
   rw [hm,rdList] at e1 e2
   refine V.q ?_
   refine V.drawX [0] [1] 14 kq ?_
   refine @VX.run _ [0] [1] 14 _ _ ([selI.e] : List (Ent Tryz.prog)) [] kq kq trivial ?_
   refine @VX.callK _ [0] [1] 14 _ _ _ _ _ _ _ _ _ [] (cgI X r2 h2) kq kq kq (fun _=>kq) (fun r3 e3=>?_)
   subst e3
   refine @VX.run _ [0] [1] 14 _ _ ([selI.e] : List (Ent Tryz.prog)) [] kq kq trivial ?_
   refine @VX.push _ [0] [1] 14 _ _ _ intv 0 l2 (gI X r2).1 1 q2 c2 3 1 [.int .i64 (gI X r2).1] 8 kq kq kq (by omega) rfl (fun _ _=>kq) (fun q3 c3=>?_)
   refine @VX.run _ [0] [1] 14 _ _ ([selI.e] : List (Ent Tryz.prog)) [] kq kq trivial ?_
   refine @VX.stop _ [0] [1] 14 _ _ kq ?_
   refine V.q ?_
   refine V.slotAs 19 (.one (.int .i64 (IntKind.i64.wrap ((i : Int) + 1)))) (.one (.int .i64 ((i + 1 : Nat) : Int))) kq kq (fun _=>by rw [wrap_up (by omega)]) ?_
   refine V.againK [0,1,2,3,18,19] [] (ih ⟨(gI X r2).2,l2 ++ [(gI X r2).1],q3,c3,i + 1⟩ ⟨gI_ok h2,by simp only; omega,by simp only [List.length_append,List.length_cons,List.length_nil]; omega,?_,?_⟩ (by simp only; omega)) kq kq
   ·simp only
    rw [hm',← e1,List.append_assoc]; rfl
   ·simp only
    rw [hm']; exact e2
  ·have hge : ¬ (i : Int) < (rdNum X r).1:=by simpa using hc
   have h0 : (rdNum X r).1.toNat - i = 0:=by omega
   rw [h0,rdList] at e1 e2
   simp only [List.append_nil] at e1
   simp only at e2
   refine V.q ?_
   exact V.retK (r2,{ x with l:=l2 },{ A with ql:=q2,cl:=c2 }) [] kq kq kq ⟨e2,by rw [e1]⟩
def xT (x : In) (j : GL Ty) : In:={ x with y:=j.l }
def aT (A : IA) (j : GL Ty) : IA:={ A with qy:=j.q,cy:=j.c }
def lgT (X : RIn) (x : In) (A : IA) (n : Int) (j : GL Ty) : St :=
 { n:=36,slots:=[(0,.v (.one (.ptr 0 0))),(1,.v (.one (.ptr 1 0))),(2,.v (.one (.ptr 2 0))),(3,.v (.one (.ptr 3 0))),(18,.v (.one (.int .i64 n))),(19,.v (.one (.int .i64 j.i)))],gs:=[],
    heap:=[(0,⟨[.str X.s,.int .i64 (j.r.at_ : Int),.val (.slice X.q X.n X.c),.sb j.r.bad],104,true⟩),(1,⟨inO (xT x j) (aT A j),30,true⟩),(2,⟨[fnV 195],217,false⟩),(3,⟨[fnV 172],219,false⟩)],next:=4,rows:=inRows (xT x j) (aT A j),nr:=3,pers:=[],wr:=true,fx:=2 }
set_option maxHeartbeats 400000 in
theorem lGetT (X : RIn) (r : RSt) (h : okIn X r) (x : In) (A : IA) (cb cg : Nat) (hl : x.y.length ≤ 1000) : CallsK Tryz.prog 271 [.one (.ptr 0 0),.one (.ptr 1 0),.one (.val (.pointer (some ⟨cb,0,none⟩))),.one (.val (.pointer (some ⟨cg,0,none⟩)))]
  (gtF [blkP cb [fnV 195] 217,blkP cg [fnV 172] 219] X r x A)
  (fun y : RSt × In × IA=>y.1 = (rdLst X (rdTy X) x.y r).2 ∧ y.2.1 = { x with y:=(rdLst X (rdTy X) x.y r).1 }) (fun _=>.tup []) (fun y=>gtF [] X y.1 y.2.1 y.2.2):=by
 refine CallsK.mk true Tryz.func271 kq kq (fun ρ w=>?_)
 refine V.q ?_
 refine V.callK [] (cRNum X r h) kq kq kq (fun _=>kq) (fun r1 e1=>?_)
 subst e1
 obtain ⟨h1,hnum⟩:=rdNum_ok h
 refine V.q ?_
 refine V.branch 14 (decide ((rdNum X r).1 < 0) || decide ((rdNum X r).1 > 16)) kq (fun hb=>?_) (fun hb=>?_)
 ·refine V.q ?_
  refine V.cellAs 0 3 ⟨[.str X.s,.int .i64 ((rdNum X r).2.at_ : Int),.val (.slice X.q X.n X.c),.bool true],104,true⟩ (.bool true) (.sb true) kq rfl kq (fun _=>rfl) ?_
  refine V.retK (⟨(rdNum X r).2.at_,true⟩,x,A) [] kq kq kq ?_
  unfold rdLst
  rw [if_pos hb]
  exact ⟨rfl,rfl⟩
 ·refine V.q ?_
  refine V.blkInL 2 cb [fnV 195] 217 [blkP cg [fnV 172] 219] kq kq kq kq kq (fun w h1 h2 p hp=>by
   rw [List.mem_singleton] at hp
   subst hp
   exact blk_apart (by decide) w h1 (h2 _ (List.mem_singleton.2 rfl))) ?_
  refine V.blkInL 3 cg [fnV 172] 219 [] kq kq kq kq kq (fun w h1 h2 p hp=>by cases hp) ?_
  have hn : 0 ≤ (rdNum X r).1 ∧ (rdNum X r).1 ≤ 16:=by
   simp only [Bool.or_eq_false_iff,decide_eq_false_iff_not] at hb; omega
  have hres : rdLst X (rdTy X) x.y r = (x.y ++ (rdList (rdTy X) (rdNum X r).1.toNat (rdNum X r).2).1,(rdList (rdTy X) (rdNum X r).1.toNat (rdNum X r).2).2):=by unfold rdLst; rw [if_neg (by rw [hb]; simp)]
  refine V.loopK [0,1,2,3,18,19] [] (fun j : GL Ty=>(rdNum X r).1.toNat - j.i) (lgT X x A (rdNum X r).1)
   (fun j=>okIn X j.r ∧ j.i ≤ (rdNum X r).1.toNat ∧ j.l.length ≤ x.y.length + j.i ∧ j.l ++ (rdList (rdTy X) ((rdNum X r).1.toNat - j.i) j.r).1 = (rdLst X (rdTy X) x.y r).1 ∧ (rdList (rdTy X) ((rdNum X r).1.toNat - j.i) j.r).2 = (rdLst X (rdTy X) x.y r).2)
   ⟨(rdNum X r).2,x.y,A.qy,A.cy,0⟩ kq ⟨h1,Nat.zero_le _,Nat.le_refl _,by rw [hres]; rfl,by rw [hres]; rfl⟩ (fun j hj ih=>?_)
  obtain ⟨r2,l2,q2,c2,i⟩:=j
  obtain ⟨h2,hi,hll,e1,e2⟩:=hj
  simp only at h2 hi hll e1 e2
  refine V.iter ?_
  refine V.q ?_
  refine V.branch 20 (decide ((i : Int) < (rdNum X r).1)) kq (fun hc=>?_) (fun hc=>?_)
  ·have hlt : (i : Int) < (rdNum X r).1:=by simpa using hc
   have hlt' : i < (rdNum X r).1.toNat:=by omega
   obtain ⟨m,hm⟩ : ∃ m,(rdNum X r).1.toNat - i = m + 1:=⟨(rdNum X r).1.toNat - i - 1,by omega⟩
   have hm' : (rdNum X r).1.toNat - (i + 1) = m:=by omega
   rw [hm,rdList] at e1 e2
   refine V.q ?_
   refine V.drawX [0] [2] 14 kq ?_
   refine @VX.run _ [0] [2] 14 _ _ ([selT.e] : List (Ent Tryz.prog)) [] kq kq trivial ?_
   refine @VX.callK _ [0] [2] 14 _ _ _ _ _ _ _ _ _ [] (cgT X r2 h2) kq kq kq (fun _=>kq) (fun r3 e3=>?_)
   subst e3
   refine @VX.run _ [0] [2] 14 _ _ ([selT.e] : List (Ent Tryz.prog)) [] kq kq trivial ?_
   refine @VX.push _ [0] [2] 14 _ _ _ Ty.cells ty0 l2 (rdTy X r2).1 2 q2 c2 23 5 (rdTy X r2).1.cells 48 kq kq kq (by omega) rfl (fun _ _=>kq) (fun q3 c3=>?_)
   refine @VX.run _ [0] [2] 14 _ _ ([selT.e] : List (Ent Tryz.prog)) [] kq kq trivial ?_
   refine @VX.stop _ [0] [2] 14 _ _ kq ?_
   refine V.q ?_
   refine V.slotAs 19 (.one (.int .i64 (IntKind.i64.wrap ((i : Int) + 1)))) (.one (.int .i64 ((i + 1 : Nat) : Int))) kq kq (fun _=>by rw [wrap_up (by omega)]) ?_
   refine V.againK [0,1,2,3,18,19] [] (ih ⟨(rdTy X r2).2,l2 ++ [(rdTy X r2).1],q3,c3,i + 1⟩ ⟨rdTy_ok h2,by simp only; omega,by simp only [List.length_append,List.length_cons,List.length_nil]; omega,?_,?_⟩ (by simp only; omega)) kq kq
   ·simp only
    rw [hm',← e1,List.append_assoc]; rfl
   ·simp only
    rw [hm']; exact e2
  ·have hge : ¬ (i : Int) < (rdNum X r).1:=by simpa using hc
   have h0 : (rdNum X r).1.toNat - i = 0:=by omega
   rw [h0,rdList] at e1 e2
   simp only [List.append_nil] at e1
   simp only at e2
   refine V.q ?_
   exact V.retK (r2,{ x with y:=l2 },{ A with qy:=q2,cy:=c2 }) [] kq kq kq ⟨e2,by rw [e1]⟩
def xF (x : In) (j : GL Fm) : In:={ x with f:=j.l }
def aF (A : IA) (j : GL Fm) : IA:={ A with qf:=j.q,cf:=j.c }
def lgF (X : RIn) (x : In) (A : IA) (n : Int) (j : GL Fm) : St :=
 { n:=36,slots:=[(0,.v (.one (.ptr 0 0))),(1,.v (.one (.ptr 1 0))),(2,.v (.one (.ptr 2 0))),(3,.v (.one (.ptr 3 0))),(18,.v (.one (.int .i64 n))),(19,.v (.one (.int .i64 j.i)))],gs:=[],
    heap:=[(0,⟨[.str X.s,.int .i64 (j.r.at_ : Int),.val (.slice X.q X.n X.c),.sb j.r.bad],104,true⟩),(1,⟨inO (xF x j) (aF A j),30,true⟩),(2,⟨[fnV 202],226,false⟩),(3,⟨[fnV 198],221,false⟩)],next:=4,rows:=inRows (xF x j) (aF A j),nr:=3,pers:=[],wr:=true,fx:=2 }
set_option maxHeartbeats 400000 in
theorem lGetF (X : RIn) (r : RSt) (h : okIn X r) (x : In) (A : IA) (cb cg : Nat) (hl : x.f.length ≤ 1000) : CallsK Tryz.prog 277 [.one (.ptr 0 0),.one (.ptr 1 0),.one (.val (.pointer (some ⟨cb,0,none⟩))),.one (.val (.pointer (some ⟨cg,0,none⟩)))]
  (gtF [blkP cb [fnV 202] 226,blkP cg [fnV 198] 221] X r x A)
  (fun y : RSt × In × IA=>y.1 = (rdLst X (rdFm X) x.f r).2 ∧ y.2.1 = { x with f:=(rdLst X (rdFm X) x.f r).1 }) (fun _=>.tup []) (fun y=>gtF [] X y.1 y.2.1 y.2.2):=by
 refine CallsK.mk true Tryz.func277 kq kq (fun ρ w=>?_)
 refine V.q ?_
 refine V.callK [] (cRNum X r h) kq kq kq (fun _=>kq) (fun r1 e1=>?_)
 subst e1
 obtain ⟨h1,hnum⟩:=rdNum_ok h
 refine V.q ?_
 refine V.branch 14 (decide ((rdNum X r).1 < 0) || decide ((rdNum X r).1 > 16)) kq (fun hb=>?_) (fun hb=>?_)
 ·refine V.q ?_
  refine V.cellAs 0 3 ⟨[.str X.s,.int .i64 ((rdNum X r).2.at_ : Int),.val (.slice X.q X.n X.c),.bool true],104,true⟩ (.bool true) (.sb true) kq rfl kq (fun _=>rfl) ?_
  refine V.retK (⟨(rdNum X r).2.at_,true⟩,x,A) [] kq kq kq ?_
  unfold rdLst
  rw [if_pos hb]
  exact ⟨rfl,rfl⟩
 ·refine V.q ?_
  refine V.blkInL 2 cb [fnV 202] 226 [blkP cg [fnV 198] 221] kq kq kq kq kq (fun w h1 h2 p hp=>by
   rw [List.mem_singleton] at hp
   subst hp
   exact blk_apart (by decide) w h1 (h2 _ (List.mem_singleton.2 rfl))) ?_
  refine V.blkInL 3 cg [fnV 198] 221 [] kq kq kq kq kq (fun w h1 h2 p hp=>by cases hp) ?_
  have hn : 0 ≤ (rdNum X r).1 ∧ (rdNum X r).1 ≤ 16:=by
   simp only [Bool.or_eq_false_iff,decide_eq_false_iff_not] at hb; omega
  have hres : rdLst X (rdFm X) x.f r = (x.f ++ (rdList (rdFm X) (rdNum X r).1.toNat (rdNum X r).2).1,(rdList (rdFm X) (rdNum X r).1.toNat (rdNum X r).2).2):=by unfold rdLst; rw [if_neg (by rw [hb]; simp)]
  refine V.loopK [0,1,2,3,18,19] [] (fun j : GL Fm=>(rdNum X r).1.toNat - j.i) (lgF X x A (rdNum X r).1)
   (fun j=>okIn X j.r ∧ j.i ≤ (rdNum X r).1.toNat ∧ j.l.length ≤ x.f.length + j.i ∧ j.l ++ (rdList (rdFm X) ((rdNum X r).1.toNat - j.i) j.r).1 = (rdLst X (rdFm X) x.f r).1 ∧ (rdList (rdFm X) ((rdNum X r).1.toNat - j.i) j.r).2 = (rdLst X (rdFm X) x.f r).2)
   ⟨(rdNum X r).2,x.f,A.qf,A.cf,0⟩ kq ⟨h1,Nat.zero_le _,Nat.le_refl _,by rw [hres]; rfl,by rw [hres]; rfl⟩ (fun j hj ih=>?_)
  obtain ⟨r2,l2,q2,c2,i⟩:=j
  obtain ⟨h2,hi,hll,e1,e2⟩:=hj
  simp only at h2 hi hll e1 e2
  refine V.iter ?_
  refine V.q ?_
  refine V.branch 20 (decide ((i : Int) < (rdNum X r).1)) kq (fun hc=>?_) (fun hc=>?_)
  ·have hlt : (i : Int) < (rdNum X r).1:=by simpa using hc
   have hlt' : i < (rdNum X r).1.toNat:=by omega
   obtain ⟨m,hm⟩ : ∃ m,(rdNum X r).1.toNat - i = m + 1:=⟨(rdNum X r).1.toNat - i - 1,by omega⟩
   have hm' : (rdNum X r).1.toNat - (i + 1) = m:=by omega
   rw [hm,rdList] at e1 e2
   refine V.q ?_
   refine V.drawX [0] [0] 14 kq ?_
   refine @VX.run _ [0] [0] 14 _ _ ([selF.e] : List (Ent Tryz.prog)) [] kq kq trivial ?_
   refine @VX.callK _ [0] [0] 14 _ _ _ _ _ _ _ _ _ [] (cgF X r2 h2) kq kq kq (fun _=>kq) (fun r3 e3=>?_)
   subst e3
   refine @VX.run _ [0] [0] 14 _ _ ([selF.e] : List (Ent Tryz.prog)) [] kq kq trivial ?_
   refine @VX.push _ [0] [0] 14 _ _ _ Fm.cells fm0 l2 (rdFm X r2).1 0 q2 c2 93 4 (rdFm X r2).1.cells 40 kq kq kq (by omega) rfl (fun _ _=>kq) (fun q3 c3=>?_)
   refine @VX.run _ [0] [0] 14 _ _ ([selF.e] : List (Ent Tryz.prog)) [] kq kq trivial ?_
   refine @VX.stop _ [0] [0] 14 _ _ kq ?_
   refine V.q ?_
   refine V.slotAs 19 (.one (.int .i64 (IntKind.i64.wrap ((i : Int) + 1)))) (.one (.int .i64 ((i + 1 : Nat) : Int))) kq kq (fun _=>by rw [wrap_up (by omega)]) ?_
   refine V.againK [0,1,2,3,18,19] [] (ih ⟨(rdFm X r2).2,l2 ++ [(rdFm X r2).1],q3,c3,i + 1⟩ ⟨rdFm_ok h2,by simp only; omega,by simp only [List.length_append,List.length_cons,List.length_nil]; omega,?_,?_⟩ (by simp only; omega)) kq kq
   ·simp only
    rw [hm',← e1,List.append_assoc]; rfl
   ·simp only
    rw [hm']; exact e2
  ·have hge : ¬ (i : Int) < (rdNum X r).1:=by simpa using hc
   have h0 : (rdNum X r).1.toNat - i = 0:=by omega
   rw [h0,rdList] at e1 e2
   simp only [List.append_nil] at e1
   simp only at e2
   refine V.q ?_
   exact V.retK (r2,{ x with f:=l2 },{ A with qf:=q2,cf:=c2 }) [] kq kq kq ⟨e2,by rw [e1]⟩
theorem lMoveI (x y : In) (A B : IA) (cb : Nat) : CallsK Tryz.prog 261 [.one (.ptr 0 0),.agg (inV x A),.one (.val (.pointer (some ⟨cb,0,none⟩)))] (mvF [blkP cb [fnV 190] 212] y B)
  (fun _ : Unit=>True) (fun _=>.tup []) (fun _=>mvF [] { y with l:=x.l } { B with ql:=A.ql,cl:=A.cl }):=by
 refine CallsK.mk true Tryz.func261 kq kq (fun ρ w=>?_)
 refine V.blkInL 2 cb [fnV 190] 212 [] kq kq kq kq kq (fun w h1 h2 p hp=>by cases hp) ?_
 refine V.runT [selI.e] [] kq kq trivial ?_
 exact V.z
theorem lMoveT (x y : In) (A B : IA) (cb : Nat) : CallsK Tryz.prog 268 [.one (.ptr 0 0),.agg (inV x A),.one (.val (.pointer (some ⟨cb,0,none⟩)))] (mvF [blkP cb [fnV 195] 217] y B)
  (fun _ : Unit=>True) (fun _=>.tup []) (fun _=>mvF [] { y with y:=x.y } { B with qy:=A.qy,cy:=A.cy }):=by
 refine CallsK.mk true Tryz.func268 kq kq (fun ρ w=>?_)
 refine V.blkInL 2 cb [fnV 195] 217 [] kq kq kq kq kq (fun w h1 h2 p hp=>by cases hp) ?_
 refine V.runT [selT.e] [] kq kq trivial ?_
 exact V.z
theorem lMoveF (x y : In) (A B : IA) (cb : Nat) : CallsK Tryz.prog 274 [.one (.ptr 0 0),.agg (inV x A),.one (.val (.pointer (some ⟨cb,0,none⟩)))] (mvF [blkP cb [fnV 202] 226] y B)
  (fun _ : Unit=>True) (fun _=>.tup []) (fun _=>mvF [] { y with f:=x.f } { B with qf:=A.qf,cf:=A.cf }):=by
 refine CallsK.mk true Tryz.func274 kq kq (fun ρ w=>?_)
 refine V.blkInL 2 cb [fnV 202] 226 [] kq kq kq kq kq (fun w h1 h2 p hp=>by cases hp) ?_
 refine V.runT [selF.e] [] kq kq trivial ?_
 exact V.z
end Go.Proofs
end
