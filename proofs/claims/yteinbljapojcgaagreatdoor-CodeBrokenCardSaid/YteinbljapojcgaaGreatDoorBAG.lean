/- A symbolic run of the program that Lean checks, and what the functions of the program come to by it: part 7 of 13. -/
import Derived.Test.YteinbljapojcgaaGreatDoorBAF
set_option linter.unusedVariables false
section
namespace Go.Proofs
open Go Go.SX
set_option maxRecDepth 10000
def intv (n : Int) : List SV := [.int .i64 n]
def fm0 : Fm := ⟨0, 0, 0, []⟩
def ty0 : Ty := ⟨0, 0, 0, false, []⟩
def inO (x : In) (A : IA) : List SV := inC x (.row 0 A.qf x.f.length A.cf) (.row 1 A.ql x.l.length A.cl) (.row 2 A.qy x.y.length A.cy)
def inRows (x : In) (A : IA) : List (Nat × Row) := [(0, rowL Fm.cells fm0 x.f A.qf A.cf 93 4 true), (1, rowL intv 0 x.l A.ql A.cl 3 1 true), (2, rowL Ty.cells ty0 x.y A.qy A.cy 23 5 true)]
def gtF (ps : List Pers) (X : RIn) (r : RSt) (x : In) (A : IA) : St :=
 { n := 0, slots := [], gs := [], heap := [(0, ⟨[.str X.s, .int .i64 (r.at_ : Int), .val (.slice X.q X.n X.c), .sb r.bad], 104, true⟩), (1, ⟨inO x A, 30, true⟩)], next := 2, rows := inRows x A, nr := 3, pers := ps, wr := false }
def GtR (ps : List Pers) (X : RIn) (r : RSt) (x : In) (A : IA) (r' : RSt) (x' : In) (ρ : Nat → Nat) (w : World) : Ending → World → Prop :=
 GivesF ρ (gtF ps X r x A) (fun y : RSt × In × IA => y.1 = r' ∧ y.2.1 = x') (fun _ => .tup []) (fun y => gtF [] X y.1 y.2.1 y.2.2) w
set_option maxHeartbeats 2000000 in
theorem numPut (s : Sel) (x : In) (A : IA) (cb : Nat) (b : WSt) (hx : num32 (s.get x)) (hb : b.bs.length ≤ 800000000) (ρ : Nat → Nat) (w : World) (hF : FSat ρ (wrF [s.blk cb] b) w) :
  Calls Tryz.prog 161 (([.one (.ptr 0 0), .agg (inV x A), .one (.val (.pointer (some ⟨cb, 0, none⟩)))] : List CV).map (CV.den ρ)).toArray w (WrR [s.blk cb] b (encN (Sel.get s x)) [] ρ w) := by
 cases s
 case D =>
  refine Calls.of_F hF [.one (.ptr 0 0), .agg (inV x A), .one (.val (.pointer (some ⟨cb, 0, none⟩)))] false Tryz.func161 kq kq (by simp [CV.wf, SV.wf, wrF, St.W, inV, inC]) ?_
  refine V.u ?_
  refine V.loadP 0 159 cb 0 [Sel.val .D] 159 (.one (Sel.val .D)) kq kq kq kq kq ?_
  refine V.u ?_
  refine V.callQ (Sel.fn .D) [.one (.ptr 1 0)] (.v (.one (.ptr 1 (0 + Sel.off .D)))) kq kq (fun ρ a w hS => sel_calls .D (ρ 1) 0 w (hS.lt 1 (by decide : 1 < 2))) ?_
  refine V.u ?_
  refine V.callW 54 [.one (.ptr 0 0), .one (.int .i64 (Sel.get .D x))] [.one (.ptr 0 0), .one (.int .i64 (Sel.get .D x))] [0] [0, 1] [false] (wrF [] b) _ _ _ kq kq kq (fun _ => rfl) (fun _ => kq) (fun ρ w hF => wnumber _ b hx.1 hx.2 (by omega) ρ w hF) ?_
  intro b1 e1
  refine V.u ?_
  exact V.retF (⟨b1.bs, b1.q, b1.c, b1.rs, b1.q2, b1.c2⟩ : WSt) [2, 3] (.tup []) kq kq kq kq kq kq kq ⟨e1.1, e1.2⟩
 case A =>
  refine Calls.of_F hF [.one (.ptr 0 0), .agg (inV x A), .one (.val (.pointer (some ⟨cb, 0, none⟩)))] false Tryz.func161 kq kq (by simp [CV.wf, SV.wf, wrF, St.W, inV, inC]) ?_
  refine V.u ?_
  refine V.loadP 0 159 cb 0 [Sel.val .A] 159 (.one (Sel.val .A)) kq kq kq kq kq ?_
  refine V.u ?_
  refine V.callQ (Sel.fn .A) [.one (.ptr 1 0)] (.v (.one (.ptr 1 (0 + Sel.off .A)))) kq kq (fun ρ a w hS => sel_calls .A (ρ 1) 0 w (hS.lt 1 (by decide : 1 < 2))) ?_
  refine V.u ?_
  refine V.callW 54 [.one (.ptr 0 0), .one (.int .i64 (Sel.get .A x))] [.one (.ptr 0 0), .one (.int .i64 (Sel.get .A x))] [0] [0, 1] [false] (wrF [] b) _ _ _ kq kq kq (fun _ => rfl) (fun _ => kq) (fun ρ w hF => wnumber _ b hx.1 hx.2 (by omega) ρ w hF) ?_
  intro b1 e1
  refine V.u ?_
  exact V.retF (⟨b1.bs, b1.q, b1.c, b1.rs, b1.q2, b1.c2⟩ : WSt) [2, 3] (.tup []) kq kq kq kq kq kq kq ⟨e1.1, e1.2⟩
 case B =>
  refine Calls.of_F hF [.one (.ptr 0 0), .agg (inV x A), .one (.val (.pointer (some ⟨cb, 0, none⟩)))] false Tryz.func161 kq kq (by simp [CV.wf, SV.wf, wrF, St.W, inV, inC]) ?_
  refine V.u ?_
  refine V.loadP 0 159 cb 0 [Sel.val .B] 159 (.one (Sel.val .B)) kq kq kq kq kq ?_
  refine V.u ?_
  refine V.callQ (Sel.fn .B) [.one (.ptr 1 0)] (.v (.one (.ptr 1 (0 + Sel.off .B)))) kq kq (fun ρ a w hS => sel_calls .B (ρ 1) 0 w (hS.lt 1 (by decide : 1 < 2))) ?_
  refine V.u ?_
  refine V.callW 54 [.one (.ptr 0 0), .one (.int .i64 (Sel.get .B x))] [.one (.ptr 0 0), .one (.int .i64 (Sel.get .B x))] [0] [0, 1] [false] (wrF [] b) _ _ _ kq kq kq (fun _ => rfl) (fun _ => kq) (fun ρ w hF => wnumber _ b hx.1 hx.2 (by omega) ρ w hF) ?_
  intro b1 e1
  refine V.u ?_
  exact V.retF (⟨b1.bs, b1.q, b1.c, b1.rs, b1.q2, b1.c2⟩ : WSt) [2, 3] (.tup []) kq kq kq kq kq kq kq ⟨e1.1, e1.2⟩
 case N =>
  refine Calls.of_F hF [.one (.ptr 0 0), .agg (inV x A), .one (.val (.pointer (some ⟨cb, 0, none⟩)))] false Tryz.func161 kq kq (by simp [CV.wf, SV.wf, wrF, St.W, inV, inC]) ?_
  refine V.u ?_
  refine V.loadP 0 159 cb 0 [Sel.val .N] 159 (.one (Sel.val .N)) kq kq kq kq kq ?_
  refine V.u ?_
  refine V.callQ (Sel.fn .N) [.one (.ptr 1 0)] (.v (.one (.ptr 1 (0 + Sel.off .N)))) kq kq (fun ρ a w hS => sel_calls .N (ρ 1) 0 w (hS.lt 1 (by decide : 1 < 2))) ?_
  refine V.u ?_
  refine V.callW 54 [.one (.ptr 0 0), .one (.int .i64 (Sel.get .N x))] [.one (.ptr 0 0), .one (.int .i64 (Sel.get .N x))] [0] [0, 1] [false] (wrF [] b) _ _ _ kq kq kq (fun _ => rfl) (fun _ => kq) (fun ρ w hF => wnumber _ b hx.1 hx.2 (by omega) ρ w hF) ?_
  intro b1 e1
  refine V.u ?_
  exact V.retF (⟨b1.bs, b1.q, b1.c, b1.rs, b1.q2, b1.c2⟩ : WSt) [2, 3] (.tup []) kq kq kq kq kq kq kq ⟨e1.1, e1.2⟩
 case M =>
  refine Calls.of_F hF [.one (.ptr 0 0), .agg (inV x A), .one (.val (.pointer (some ⟨cb, 0, none⟩)))] false Tryz.func161 kq kq (by simp [CV.wf, SV.wf, wrF, St.W, inV, inC]) ?_
  refine V.u ?_
  refine V.loadP 0 159 cb 0 [Sel.val .M] 159 (.one (Sel.val .M)) kq kq kq kq kq ?_
  refine V.u ?_
  refine V.callQ (Sel.fn .M) [.one (.ptr 1 0)] (.v (.one (.ptr 1 (0 + Sel.off .M)))) kq kq (fun ρ a w hS => sel_calls .M (ρ 1) 0 w (hS.lt 1 (by decide : 1 < 2))) ?_
  refine V.u ?_
  refine V.callW 54 [.one (.ptr 0 0), .one (.int .i64 (Sel.get .M x))] [.one (.ptr 0 0), .one (.int .i64 (Sel.get .M x))] [0] [0, 1] [false] (wrF [] b) _ _ _ kq kq kq (fun _ => rfl) (fun _ => kq) (fun ρ w hF => wnumber _ b hx.1 hx.2 (by omega) ρ w hF) ?_
  intro b1 e1
  refine V.u ?_
  exact V.retF (⟨b1.bs, b1.q, b1.c, b1.rs, b1.q2, b1.c2⟩ : WSt) [2, 3] (.tup []) kq kq kq kq kq kq kq ⟨e1.1, e1.2⟩
 case P =>
  refine Calls.of_F hF [.one (.ptr 0 0), .agg (inV x A), .one (.val (.pointer (some ⟨cb, 0, none⟩)))] false Tryz.func161 kq kq (by simp [CV.wf, SV.wf, wrF, St.W, inV, inC]) ?_
  refine V.u ?_
  refine V.loadP 0 159 cb 0 [Sel.val .P] 159 (.one (Sel.val .P)) kq kq kq kq kq ?_
  refine V.u ?_
  refine V.callQ (Sel.fn .P) [.one (.ptr 1 0)] (.v (.one (.ptr 1 (0 + Sel.off .P)))) kq kq (fun ρ a w hS => sel_calls .P (ρ 1) 0 w (hS.lt 1 (by decide : 1 < 2))) ?_
  refine V.u ?_
  refine V.callW 54 [.one (.ptr 0 0), .one (.int .i64 (Sel.get .P x))] [.one (.ptr 0 0), .one (.int .i64 (Sel.get .P x))] [0] [0, 1] [false] (wrF [] b) _ _ _ kq kq kq (fun _ => rfl) (fun _ => kq) (fun ρ w hF => wnumber _ b hx.1 hx.2 (by omega) ρ w hF) ?_
  intro b1 e1
  refine V.u ?_
  exact V.retF (⟨b1.bs, b1.q, b1.c, b1.rs, b1.q2, b1.c2⟩ : WSt) [2, 3] (.tup []) kq kq kq kq kq kq kq ⟨e1.1, e1.2⟩
set_option maxHeartbeats 2000000 in
theorem regPut (s : Sel) (x : In) (A : IA) (cb : Nat) (b : WSt) (h1 : -1 ≤ s.get x) (h2 : s.get x < 4000) (hb : b.bs.length ≤ 800000000) (ρ : Nat → Nat) (w : World) (hF : FSat ρ (wrF [s.blk cb] b) w) :
  Calls Tryz.prog 153 (([.one (.ptr 0 0), .agg (inV x A), .one (.val (.pointer (some ⟨cb, 0, none⟩)))] : List CV).map (CV.den ρ)).toArray w (WrR [s.blk cb] b (encN (Sel.get s x + 1)) [] ρ w) := by
 cases s
 case D =>
  refine Calls.of_F hF [.one (.ptr 0 0), .agg (inV x A), .one (.val (.pointer (some ⟨cb, 0, none⟩)))] false Tryz.func153 kq kq (by simp [CV.wf, SV.wf, wrF, St.W, inV, inC]) ?_
  refine V.u ?_
  refine V.loadP 0 159 cb 0 [Sel.val .D] 159 (.one (Sel.val .D)) kq kq kq kq kq ?_
  refine V.u ?_
  refine V.callQ (Sel.fn .D) [.one (.ptr 1 0)] (.v (.one (.ptr 1 (0 + Sel.off .D)))) kq kq (fun ρ a w hS => sel_calls .D (ρ 1) 0 w (hS.lt 1 (by decide : 1 < 2))) ?_
  refine V.run 100 [inK .i64 (Sel.get .D x + 1)] kq (by simp only [allP, inK]; omega) ?_
  refine V.callW 54 [.one (.ptr 0 0), .one (.int .i64 (Sel.get .D x + 1))] [.one (.ptr 0 0), .one (.int .i64 (Sel.get .D x + 1))] [0] [0, 1] [false] (wrF [] b) _ _ _ kq kq kq (fun _ => rfl) (fun _ => kq) (fun ρ w hF => wnumber _ b (by omega) (by omega) (by omega) ρ w hF) ?_
  intro b1 e1
  refine V.u ?_
  exact V.retF (⟨b1.bs, b1.q, b1.c, b1.rs, b1.q2, b1.c2⟩ : WSt) [2, 3] (.tup []) kq kq kq kq kq kq kq ⟨e1.1, e1.2⟩
 case A =>
  refine Calls.of_F hF [.one (.ptr 0 0), .agg (inV x A), .one (.val (.pointer (some ⟨cb, 0, none⟩)))] false Tryz.func153 kq kq (by simp [CV.wf, SV.wf, wrF, St.W, inV, inC]) ?_
  refine V.u ?_
  refine V.loadP 0 159 cb 0 [Sel.val .A] 159 (.one (Sel.val .A)) kq kq kq kq kq ?_
  refine V.u ?_
  refine V.callQ (Sel.fn .A) [.one (.ptr 1 0)] (.v (.one (.ptr 1 (0 + Sel.off .A)))) kq kq (fun ρ a w hS => sel_calls .A (ρ 1) 0 w (hS.lt 1 (by decide : 1 < 2))) ?_
  refine V.run 100 [inK .i64 (Sel.get .A x + 1)] kq (by simp only [allP, inK]; omega) ?_
  refine V.callW 54 [.one (.ptr 0 0), .one (.int .i64 (Sel.get .A x + 1))] [.one (.ptr 0 0), .one (.int .i64 (Sel.get .A x + 1))] [0] [0, 1] [false] (wrF [] b) _ _ _ kq kq kq (fun _ => rfl) (fun _ => kq) (fun ρ w hF => wnumber _ b (by omega) (by omega) (by omega) ρ w hF) ?_
  intro b1 e1
  refine V.u ?_
  exact V.retF (⟨b1.bs, b1.q, b1.c, b1.rs, b1.q2, b1.c2⟩ : WSt) [2, 3] (.tup []) kq kq kq kq kq kq kq ⟨e1.1, e1.2⟩
 case B =>
  refine Calls.of_F hF [.one (.ptr 0 0), .agg (inV x A), .one (.val (.pointer (some ⟨cb, 0, none⟩)))] false Tryz.func153 kq kq (by simp [CV.wf, SV.wf, wrF, St.W, inV, inC]) ?_
  refine V.u ?_
  refine V.loadP 0 159 cb 0 [Sel.val .B] 159 (.one (Sel.val .B)) kq kq kq kq kq ?_
  refine V.u ?_
  refine V.callQ (Sel.fn .B) [.one (.ptr 1 0)] (.v (.one (.ptr 1 (0 + Sel.off .B)))) kq kq (fun ρ a w hS => sel_calls .B (ρ 1) 0 w (hS.lt 1 (by decide : 1 < 2))) ?_
  refine V.run 100 [inK .i64 (Sel.get .B x + 1)] kq (by simp only [allP, inK]; omega) ?_
  refine V.callW 54 [.one (.ptr 0 0), .one (.int .i64 (Sel.get .B x + 1))] [.one (.ptr 0 0), .one (.int .i64 (Sel.get .B x + 1))] [0] [0, 1] [false] (wrF [] b) _ _ _ kq kq kq (fun _ => rfl) (fun _ => kq) (fun ρ w hF => wnumber _ b (by omega) (by omega) (by omega) ρ w hF) ?_
  intro b1 e1
  refine V.u ?_
  exact V.retF (⟨b1.bs, b1.q, b1.c, b1.rs, b1.q2, b1.c2⟩ : WSt) [2, 3] (.tup []) kq kq kq kq kq kq kq ⟨e1.1, e1.2⟩
 case N =>
  refine Calls.of_F hF [.one (.ptr 0 0), .agg (inV x A), .one (.val (.pointer (some ⟨cb, 0, none⟩)))] false Tryz.func153 kq kq (by simp [CV.wf, SV.wf, wrF, St.W, inV, inC]) ?_
  refine V.u ?_
  refine V.loadP 0 159 cb 0 [Sel.val .N] 159 (.one (Sel.val .N)) kq kq kq kq kq ?_
  refine V.u ?_
  refine V.callQ (Sel.fn .N) [.one (.ptr 1 0)] (.v (.one (.ptr 1 (0 + Sel.off .N)))) kq kq (fun ρ a w hS => sel_calls .N (ρ 1) 0 w (hS.lt 1 (by decide : 1 < 2))) ?_
  refine V.run 100 [inK .i64 (Sel.get .N x + 1)] kq (by simp only [allP, inK]; omega) ?_
  refine V.callW 54 [.one (.ptr 0 0), .one (.int .i64 (Sel.get .N x + 1))] [.one (.ptr 0 0), .one (.int .i64 (Sel.get .N x + 1))] [0] [0, 1] [false] (wrF [] b) _ _ _ kq kq kq (fun _ => rfl) (fun _ => kq) (fun ρ w hF => wnumber _ b (by omega) (by omega) (by omega) ρ w hF) ?_
  intro b1 e1
  refine V.u ?_
  exact V.retF (⟨b1.bs, b1.q, b1.c, b1.rs, b1.q2, b1.c2⟩ : WSt) [2, 3] (.tup []) kq kq kq kq kq kq kq ⟨e1.1, e1.2⟩
 case M =>
  refine Calls.of_F hF [.one (.ptr 0 0), .agg (inV x A), .one (.val (.pointer (some ⟨cb, 0, none⟩)))] false Tryz.func153 kq kq (by simp [CV.wf, SV.wf, wrF, St.W, inV, inC]) ?_
  refine V.u ?_
  refine V.loadP 0 159 cb 0 [Sel.val .M] 159 (.one (Sel.val .M)) kq kq kq kq kq ?_
  refine V.u ?_
  refine V.callQ (Sel.fn .M) [.one (.ptr 1 0)] (.v (.one (.ptr 1 (0 + Sel.off .M)))) kq kq (fun ρ a w hS => sel_calls .M (ρ 1) 0 w (hS.lt 1 (by decide : 1 < 2))) ?_
  refine V.run 100 [inK .i64 (Sel.get .M x + 1)] kq (by simp only [allP, inK]; omega) ?_
  refine V.callW 54 [.one (.ptr 0 0), .one (.int .i64 (Sel.get .M x + 1))] [.one (.ptr 0 0), .one (.int .i64 (Sel.get .M x + 1))] [0] [0, 1] [false] (wrF [] b) _ _ _ kq kq kq (fun _ => rfl) (fun _ => kq) (fun ρ w hF => wnumber _ b (by omega) (by omega) (by omega) ρ w hF) ?_
  intro b1 e1
  refine V.u ?_
  exact V.retF (⟨b1.bs, b1.q, b1.c, b1.rs, b1.q2, b1.c2⟩ : WSt) [2, 3] (.tup []) kq kq kq kq kq kq kq ⟨e1.1, e1.2⟩
 case P =>
  refine Calls.of_F hF [.one (.ptr 0 0), .agg (inV x A), .one (.val (.pointer (some ⟨cb, 0, none⟩)))] false Tryz.func153 kq kq (by simp [CV.wf, SV.wf, wrF, St.W, inV, inC]) ?_
  refine V.u ?_
  refine V.loadP 0 159 cb 0 [Sel.val .P] 159 (.one (Sel.val .P)) kq kq kq kq kq ?_
  refine V.u ?_
  refine V.callQ (Sel.fn .P) [.one (.ptr 1 0)] (.v (.one (.ptr 1 (0 + Sel.off .P)))) kq kq (fun ρ a w hS => sel_calls .P (ρ 1) 0 w (hS.lt 1 (by decide : 1 < 2))) ?_
  refine V.run 100 [inK .i64 (Sel.get .P x + 1)] kq (by simp only [allP, inK]; omega) ?_
  refine V.callW 54 [.one (.ptr 0 0), .one (.int .i64 (Sel.get .P x + 1))] [.one (.ptr 0 0), .one (.int .i64 (Sel.get .P x + 1))] [0] [0, 1] [false] (wrF [] b) _ _ _ kq kq kq (fun _ => rfl) (fun _ => kq) (fun ρ w hF => wnumber _ b (by omega) (by omega) (by omega) ρ w hF) ?_
  intro b1 e1
  refine V.u ?_
  exact V.retF (⟨b1.bs, b1.q, b1.c, b1.rs, b1.q2, b1.c2⟩ : WSt) [2, 3] (.tup []) kq kq kq kq kq kq kq ⟨e1.1, e1.2⟩
set_option maxHeartbeats 2000000 in
theorem numGet (s : Sel) (X : RIn) (r : RSt) (x : In) (A : IA) (cb : Nat) (h : okIn X r) (ρ : Nat → Nat) (w : World) (hF : FSat ρ (gtF [s.blk cb] X r x A) w) :
  Calls Tryz.prog 162 (([.one (.ptr 0 0), .one (.ptr 1 0), .one (.val (.pointer (some ⟨cb, 0, none⟩)))] : List CV).map (CV.den ρ)).toArray w (GtR [s.blk cb] X r x A (rdNum X r).2 (s.set x ((rdNum X r).1)) ρ w) := by
 cases s
 case D =>
  refine Calls.of_F hF [.one (.ptr 0 0), .one (.ptr 1 0), .one (.val (.pointer (some ⟨cb, 0, none⟩)))] false Tryz.func162 kq kq (by simp [CV.wf, SV.wf, gtF, St.W]) ?_
  refine V.u ?_
  refine V.loadP 0 159 cb 0 [Sel.val .D] 159 (.one (Sel.val .D)) kq kq kq kq kq ?_
  refine V.u ?_
  refine V.callQ (Sel.fn .D) [.one (.ptr 1 0)] (.v (.one (.ptr 1 (0 + Sel.off .D)))) kq kq (fun ρ a w hS => sel_calls .D (ρ 1) 0 w (hS.lt 1 (by decide : 1 < 2))) ?_
  refine V.u ?_
  refine V.callW 57 [.one (.ptr 0 0)] [.one (.ptr 0 0)] [0] [] [false] (rdF [] X r) _ _ _ kq kq kq (fun _ => rfl) (fun _ => kq) (fun ρ w hF => rnumber X r h ρ w hF) ?_
  rintro r1 rfl
  refine V.u ?_
  exact V.retF (⟨(rdNum X r).2, Sel.set .D x ((rdNum X r).1), A⟩ : RSt × In × IA) [0, 1, 2] (.tup []) kq kq kq kq kq kq kq ⟨rfl, rfl⟩
 case A =>
  refine Calls.of_F hF [.one (.ptr 0 0), .one (.ptr 1 0), .one (.val (.pointer (some ⟨cb, 0, none⟩)))] false Tryz.func162 kq kq (by simp [CV.wf, SV.wf, gtF, St.W]) ?_
  refine V.u ?_
  refine V.loadP 0 159 cb 0 [Sel.val .A] 159 (.one (Sel.val .A)) kq kq kq kq kq ?_
  refine V.u ?_
  refine V.callQ (Sel.fn .A) [.one (.ptr 1 0)] (.v (.one (.ptr 1 (0 + Sel.off .A)))) kq kq (fun ρ a w hS => sel_calls .A (ρ 1) 0 w (hS.lt 1 (by decide : 1 < 2))) ?_
  refine V.u ?_
  refine V.callW 57 [.one (.ptr 0 0)] [.one (.ptr 0 0)] [0] [] [false] (rdF [] X r) _ _ _ kq kq kq (fun _ => rfl) (fun _ => kq) (fun ρ w hF => rnumber X r h ρ w hF) ?_
  rintro r1 rfl
  refine V.u ?_
  exact V.retF (⟨(rdNum X r).2, Sel.set .A x ((rdNum X r).1), A⟩ : RSt × In × IA) [0, 1, 2] (.tup []) kq kq kq kq kq kq kq ⟨rfl, rfl⟩
 case B =>
  refine Calls.of_F hF [.one (.ptr 0 0), .one (.ptr 1 0), .one (.val (.pointer (some ⟨cb, 0, none⟩)))] false Tryz.func162 kq kq (by simp [CV.wf, SV.wf, gtF, St.W]) ?_
  refine V.u ?_
  refine V.loadP 0 159 cb 0 [Sel.val .B] 159 (.one (Sel.val .B)) kq kq kq kq kq ?_
  refine V.u ?_
  refine V.callQ (Sel.fn .B) [.one (.ptr 1 0)] (.v (.one (.ptr 1 (0 + Sel.off .B)))) kq kq (fun ρ a w hS => sel_calls .B (ρ 1) 0 w (hS.lt 1 (by decide : 1 < 2))) ?_
  refine V.u ?_
  refine V.callW 57 [.one (.ptr 0 0)] [.one (.ptr 0 0)] [0] [] [false] (rdF [] X r) _ _ _ kq kq kq (fun _ => rfl) (fun _ => kq) (fun ρ w hF => rnumber X r h ρ w hF) ?_
  rintro r1 rfl
  refine V.u ?_
  exact V.retF (⟨(rdNum X r).2, Sel.set .B x ((rdNum X r).1), A⟩ : RSt × In × IA) [0, 1, 2] (.tup []) kq kq kq kq kq kq kq ⟨rfl, rfl⟩
 case N =>
  refine Calls.of_F hF [.one (.ptr 0 0), .one (.ptr 1 0), .one (.val (.pointer (some ⟨cb, 0, none⟩)))] false Tryz.func162 kq kq (by simp [CV.wf, SV.wf, gtF, St.W]) ?_
  refine V.u ?_
  refine V.loadP 0 159 cb 0 [Sel.val .N] 159 (.one (Sel.val .N)) kq kq kq kq kq ?_
  refine V.u ?_
  refine V.callQ (Sel.fn .N) [.one (.ptr 1 0)] (.v (.one (.ptr 1 (0 + Sel.off .N)))) kq kq (fun ρ a w hS => sel_calls .N (ρ 1) 0 w (hS.lt 1 (by decide : 1 < 2))) ?_
  refine V.u ?_
  refine V.callW 57 [.one (.ptr 0 0)] [.one (.ptr 0 0)] [0] [] [false] (rdF [] X r) _ _ _ kq kq kq (fun _ => rfl) (fun _ => kq) (fun ρ w hF => rnumber X r h ρ w hF) ?_
  rintro r1 rfl
  refine V.u ?_
  exact V.retF (⟨(rdNum X r).2, Sel.set .N x ((rdNum X r).1), A⟩ : RSt × In × IA) [0, 1, 2] (.tup []) kq kq kq kq kq kq kq ⟨rfl, rfl⟩
 case M =>
  refine Calls.of_F hF [.one (.ptr 0 0), .one (.ptr 1 0), .one (.val (.pointer (some ⟨cb, 0, none⟩)))] false Tryz.func162 kq kq (by simp [CV.wf, SV.wf, gtF, St.W]) ?_
  refine V.u ?_
  refine V.loadP 0 159 cb 0 [Sel.val .M] 159 (.one (Sel.val .M)) kq kq kq kq kq ?_
  refine V.u ?_
  refine V.callQ (Sel.fn .M) [.one (.ptr 1 0)] (.v (.one (.ptr 1 (0 + Sel.off .M)))) kq kq (fun ρ a w hS => sel_calls .M (ρ 1) 0 w (hS.lt 1 (by decide : 1 < 2))) ?_
  refine V.u ?_
  refine V.callW 57 [.one (.ptr 0 0)] [.one (.ptr 0 0)] [0] [] [false] (rdF [] X r) _ _ _ kq kq kq (fun _ => rfl) (fun _ => kq) (fun ρ w hF => rnumber X r h ρ w hF) ?_
  rintro r1 rfl
  refine V.u ?_
  exact V.retF (⟨(rdNum X r).2, Sel.set .M x ((rdNum X r).1), A⟩ : RSt × In × IA) [0, 1, 2] (.tup []) kq kq kq kq kq kq kq ⟨rfl, rfl⟩
 case P =>
  refine Calls.of_F hF [.one (.ptr 0 0), .one (.ptr 1 0), .one (.val (.pointer (some ⟨cb, 0, none⟩)))] false Tryz.func162 kq kq (by simp [CV.wf, SV.wf, gtF, St.W]) ?_
  refine V.u ?_
  refine V.loadP 0 159 cb 0 [Sel.val .P] 159 (.one (Sel.val .P)) kq kq kq kq kq ?_
  refine V.u ?_
  refine V.callQ (Sel.fn .P) [.one (.ptr 1 0)] (.v (.one (.ptr 1 (0 + Sel.off .P)))) kq kq (fun ρ a w hS => sel_calls .P (ρ 1) 0 w (hS.lt 1 (by decide : 1 < 2))) ?_
  refine V.u ?_
  refine V.callW 57 [.one (.ptr 0 0)] [.one (.ptr 0 0)] [0] [] [false] (rdF [] X r) _ _ _ kq kq kq (fun _ => rfl) (fun _ => kq) (fun ρ w hF => rnumber X r h ρ w hF) ?_
  rintro r1 rfl
  refine V.u ?_
  exact V.retF (⟨(rdNum X r).2, Sel.set .P x ((rdNum X r).1), A⟩ : RSt × In × IA) [0, 1, 2] (.tup []) kq kq kq kq kq kq kq ⟨rfl, rfl⟩
set_option maxHeartbeats 2000000 in
theorem regGet (s : Sel) (X : RIn) (r : RSt) (x : In) (A : IA) (cb : Nat) (h : okIn X r) (ρ : Nat → Nat) (w : World) (hF : FSat ρ (gtF [s.blk cb] X r x A) w) :
  Calls Tryz.prog 154 (([.one (.ptr 0 0), .one (.ptr 1 0), .one (.val (.pointer (some ⟨cb, 0, none⟩)))] : List CV).map (CV.den ρ)).toArray w (GtR [s.blk cb] X r x A (rdNum X r).2 (s.set x ((rdNum X r).1 - 1)) ρ w) := by
 cases s
 case D =>
  obtain ⟨q1, q2⟩ : num32 (rdNum X r).1 := isNum_32 (rdNum_ok h).2
  refine Calls.of_F hF [.one (.ptr 0 0), .one (.ptr 1 0), .one (.val (.pointer (some ⟨cb, 0, none⟩)))] false Tryz.func154 kq kq (by simp [CV.wf, SV.wf, gtF, St.W]) ?_
  refine V.u ?_
  refine V.loadP 0 159 cb 0 [Sel.val .D] 159 (.one (Sel.val .D)) kq kq kq kq kq ?_
  refine V.u ?_
  refine V.callQ (Sel.fn .D) [.one (.ptr 1 0)] (.v (.one (.ptr 1 (0 + Sel.off .D)))) kq kq (fun ρ a w hS => sel_calls .D (ρ 1) 0 w (hS.lt 1 (by decide : 1 < 2))) ?_
  refine V.u ?_
  refine V.callW 57 [.one (.ptr 0 0)] [.one (.ptr 0 0)] [0] [] [false] (rdF [] X r) _ _ _ kq kq kq (fun _ => rfl) (fun _ => kq) (fun ρ w hF => rnumber X r h ρ w hF) ?_
  rintro r1 rfl
  refine V.run 100 [inK .i64 ((rdNum X r).1 - 1)] kq (by simp only [allP, inK]; omega) ?_
  exact V.retF (⟨(rdNum X r).2, Sel.set .D x ((rdNum X r).1 - 1), A⟩ : RSt × In × IA) [0, 1, 2] (.tup []) kq kq kq kq kq kq kq ⟨rfl, rfl⟩
 case A =>
  obtain ⟨q1, q2⟩ : num32 (rdNum X r).1 := isNum_32 (rdNum_ok h).2
  refine Calls.of_F hF [.one (.ptr 0 0), .one (.ptr 1 0), .one (.val (.pointer (some ⟨cb, 0, none⟩)))] false Tryz.func154 kq kq (by simp [CV.wf, SV.wf, gtF, St.W]) ?_
  refine V.u ?_
  refine V.loadP 0 159 cb 0 [Sel.val .A] 159 (.one (Sel.val .A)) kq kq kq kq kq ?_
  refine V.u ?_
  refine V.callQ (Sel.fn .A) [.one (.ptr 1 0)] (.v (.one (.ptr 1 (0 + Sel.off .A)))) kq kq (fun ρ a w hS => sel_calls .A (ρ 1) 0 w (hS.lt 1 (by decide : 1 < 2))) ?_
  refine V.u ?_
  refine V.callW 57 [.one (.ptr 0 0)] [.one (.ptr 0 0)] [0] [] [false] (rdF [] X r) _ _ _ kq kq kq (fun _ => rfl) (fun _ => kq) (fun ρ w hF => rnumber X r h ρ w hF) ?_
  rintro r1 rfl
  refine V.run 100 [inK .i64 ((rdNum X r).1 - 1)] kq (by simp only [allP, inK]; omega) ?_
  exact V.retF (⟨(rdNum X r).2, Sel.set .A x ((rdNum X r).1 - 1), A⟩ : RSt × In × IA) [0, 1, 2] (.tup []) kq kq kq kq kq kq kq ⟨rfl, rfl⟩
 case B =>
  obtain ⟨q1, q2⟩ : num32 (rdNum X r).1 := isNum_32 (rdNum_ok h).2
  refine Calls.of_F hF [.one (.ptr 0 0), .one (.ptr 1 0), .one (.val (.pointer (some ⟨cb, 0, none⟩)))] false Tryz.func154 kq kq (by simp [CV.wf, SV.wf, gtF, St.W]) ?_
  refine V.u ?_
  refine V.loadP 0 159 cb 0 [Sel.val .B] 159 (.one (Sel.val .B)) kq kq kq kq kq ?_
  refine V.u ?_
  refine V.callQ (Sel.fn .B) [.one (.ptr 1 0)] (.v (.one (.ptr 1 (0 + Sel.off .B)))) kq kq (fun ρ a w hS => sel_calls .B (ρ 1) 0 w (hS.lt 1 (by decide : 1 < 2))) ?_
  refine V.u ?_
  refine V.callW 57 [.one (.ptr 0 0)] [.one (.ptr 0 0)] [0] [] [false] (rdF [] X r) _ _ _ kq kq kq (fun _ => rfl) (fun _ => kq) (fun ρ w hF => rnumber X r h ρ w hF) ?_
  rintro r1 rfl
  refine V.run 100 [inK .i64 ((rdNum X r).1 - 1)] kq (by simp only [allP, inK]; omega) ?_
  exact V.retF (⟨(rdNum X r).2, Sel.set .B x ((rdNum X r).1 - 1), A⟩ : RSt × In × IA) [0, 1, 2] (.tup []) kq kq kq kq kq kq kq ⟨rfl, rfl⟩
 case N =>
  obtain ⟨q1, q2⟩ : num32 (rdNum X r).1 := isNum_32 (rdNum_ok h).2
  refine Calls.of_F hF [.one (.ptr 0 0), .one (.ptr 1 0), .one (.val (.pointer (some ⟨cb, 0, none⟩)))] false Tryz.func154 kq kq (by simp [CV.wf, SV.wf, gtF, St.W]) ?_
  refine V.u ?_
  refine V.loadP 0 159 cb 0 [Sel.val .N] 159 (.one (Sel.val .N)) kq kq kq kq kq ?_
  refine V.u ?_
  refine V.callQ (Sel.fn .N) [.one (.ptr 1 0)] (.v (.one (.ptr 1 (0 + Sel.off .N)))) kq kq (fun ρ a w hS => sel_calls .N (ρ 1) 0 w (hS.lt 1 (by decide : 1 < 2))) ?_
  refine V.u ?_
  refine V.callW 57 [.one (.ptr 0 0)] [.one (.ptr 0 0)] [0] [] [false] (rdF [] X r) _ _ _ kq kq kq (fun _ => rfl) (fun _ => kq) (fun ρ w hF => rnumber X r h ρ w hF) ?_
  rintro r1 rfl
  refine V.run 100 [inK .i64 ((rdNum X r).1 - 1)] kq (by simp only [allP, inK]; omega) ?_
  exact V.retF (⟨(rdNum X r).2, Sel.set .N x ((rdNum X r).1 - 1), A⟩ : RSt × In × IA) [0, 1, 2] (.tup []) kq kq kq kq kq kq kq ⟨rfl, rfl⟩
 case M =>
  obtain ⟨q1, q2⟩ : num32 (rdNum X r).1 := isNum_32 (rdNum_ok h).2
  refine Calls.of_F hF [.one (.ptr 0 0), .one (.ptr 1 0), .one (.val (.pointer (some ⟨cb, 0, none⟩)))] false Tryz.func154 kq kq (by simp [CV.wf, SV.wf, gtF, St.W]) ?_
  refine V.u ?_
  refine V.loadP 0 159 cb 0 [Sel.val .M] 159 (.one (Sel.val .M)) kq kq kq kq kq ?_
  refine V.u ?_
  refine V.callQ (Sel.fn .M) [.one (.ptr 1 0)] (.v (.one (.ptr 1 (0 + Sel.off .M)))) kq kq (fun ρ a w hS => sel_calls .M (ρ 1) 0 w (hS.lt 1 (by decide : 1 < 2))) ?_
  refine V.u ?_
  refine V.callW 57 [.one (.ptr 0 0)] [.one (.ptr 0 0)] [0] [] [false] (rdF [] X r) _ _ _ kq kq kq (fun _ => rfl) (fun _ => kq) (fun ρ w hF => rnumber X r h ρ w hF) ?_
  rintro r1 rfl
  refine V.run 100 [inK .i64 ((rdNum X r).1 - 1)] kq (by simp only [allP, inK]; omega) ?_
  exact V.retF (⟨(rdNum X r).2, Sel.set .M x ((rdNum X r).1 - 1), A⟩ : RSt × In × IA) [0, 1, 2] (.tup []) kq kq kq kq kq kq kq ⟨rfl, rfl⟩
 case P =>
  obtain ⟨q1, q2⟩ : num32 (rdNum X r).1 := isNum_32 (rdNum_ok h).2
  refine Calls.of_F hF [.one (.ptr 0 0), .one (.ptr 1 0), .one (.val (.pointer (some ⟨cb, 0, none⟩)))] false Tryz.func154 kq kq (by simp [CV.wf, SV.wf, gtF, St.W]) ?_
  refine V.u ?_
  refine V.loadP 0 159 cb 0 [Sel.val .P] 159 (.one (Sel.val .P)) kq kq kq kq kq ?_
  refine V.u ?_
  refine V.callQ (Sel.fn .P) [.one (.ptr 1 0)] (.v (.one (.ptr 1 (0 + Sel.off .P)))) kq kq (fun ρ a w hS => sel_calls .P (ρ 1) 0 w (hS.lt 1 (by decide : 1 < 2))) ?_
  refine V.u ?_
  refine V.callW 57 [.one (.ptr 0 0)] [.one (.ptr 0 0)] [0] [] [false] (rdF [] X r) _ _ _ kq kq kq (fun _ => rfl) (fun _ => kq) (fun ρ w hF => rnumber X r h ρ w hF) ?_
  rintro r1 rfl
  refine V.run 100 [inK .i64 ((rdNum X r).1 - 1)] kq (by simp only [allP, inK]; omega) ?_
  exact V.retF (⟨(rdNum X r).2, Sel.set .P x ((rdNum X r).1 - 1), A⟩ : RSt × In × IA) [0, 1, 2] (.tup []) kq kq kq kq kq kq kq ⟨rfl, rfl⟩
def mvF (ps : List Pers) (y : In) (B : IA) : St := { n := 0, slots := [], gs := [], heap := [(0, ⟨inV y B, 30, true⟩)], next := 1, rows := [], nr := 0, pers := ps, wr := false }
def MvR (ps : List Pers) (y : In) (B : IA) (y' : In) (B' : IA) (ρ : Nat → Nat) (w : World) : Ending → World → Prop :=
 GivesF ρ (mvF ps y B) (fun z : In × IA => z = (y', B')) (fun _ => .tup []) (fun z => mvF [] z.1 z.2) w
set_option maxHeartbeats 2000000 in
theorem numMove (s : Sel) (x y : In) (A B : IA) (cb : Nat) (ρ : Nat → Nat) (w : World) (hF : FSat ρ (mvF [s.blk cb] y B) w) :
  Calls Tryz.prog 159 (([.one (.ptr 0 0), .agg (inV x A), .one (.val (.pointer (some ⟨cb, 0, none⟩)))] : List CV).map (CV.den ρ)).toArray w (MvR [s.blk cb] y B (s.set y (s.get x)) B ρ w) := by
 cases s
 case D =>
  refine Calls.of_F hF [.one (.ptr 0 0), .agg (inV x A), .one (.val (.pointer (some ⟨cb, 0, none⟩)))] false Tryz.func159 kq kq (by simp [CV.wf, SV.wf, mvF, St.W, inV, inC]) ?_
  refine V.u ?_
  refine V.blkIn 2 cb [Sel.val .D] 159 kq kq kq kq kq ?_
  refine V.draw2 8 (Sel.fn .D) [.one (.ptr 0 0)] (.v (.one (.ptr 0 (0 + Sel.off .D)))) (Sel.fn .D) [.one (.ptr 1 0)] (.v (.one (.ptr 1 (0 + Sel.off .D)))) kq kq kq kq (fun ρ a w hS => sel_calls .D (ρ 0) 0 w (hS.lt 0 (Nat.le_of_ble_eq_true kq))) kq kq kq (fun ρ a w hS => sel_calls .D (ρ 1) 0 w (hS.lt 1 (Nat.le_of_ble_eq_true kq))) kq ?_
  refine V.u ?_
  exact V.retF ((Sel.set .D y (Sel.get .D x), B) : In × IA) [] (.tup []) kq kq kq kq kq kq kq rfl
 case A =>
  refine Calls.of_F hF [.one (.ptr 0 0), .agg (inV x A), .one (.val (.pointer (some ⟨cb, 0, none⟩)))] false Tryz.func159 kq kq (by simp [CV.wf, SV.wf, mvF, St.W, inV, inC]) ?_
  refine V.u ?_
  refine V.blkIn 2 cb [Sel.val .A] 159 kq kq kq kq kq ?_
  refine V.draw2 8 (Sel.fn .A) [.one (.ptr 0 0)] (.v (.one (.ptr 0 (0 + Sel.off .A)))) (Sel.fn .A) [.one (.ptr 1 0)] (.v (.one (.ptr 1 (0 + Sel.off .A)))) kq kq kq kq (fun ρ a w hS => sel_calls .A (ρ 0) 0 w (hS.lt 0 (Nat.le_of_ble_eq_true kq))) kq kq kq (fun ρ a w hS => sel_calls .A (ρ 1) 0 w (hS.lt 1 (Nat.le_of_ble_eq_true kq))) kq ?_
  refine V.u ?_
  exact V.retF ((Sel.set .A y (Sel.get .A x), B) : In × IA) [] (.tup []) kq kq kq kq kq kq kq rfl
 case B =>
  refine Calls.of_F hF [.one (.ptr 0 0), .agg (inV x A), .one (.val (.pointer (some ⟨cb, 0, none⟩)))] false Tryz.func159 kq kq (by simp [CV.wf, SV.wf, mvF, St.W, inV, inC]) ?_
  refine V.u ?_
  refine V.blkIn 2 cb [Sel.val .B] 159 kq kq kq kq kq ?_
  refine V.draw2 8 (Sel.fn .B) [.one (.ptr 0 0)] (.v (.one (.ptr 0 (0 + Sel.off .B)))) (Sel.fn .B) [.one (.ptr 1 0)] (.v (.one (.ptr 1 (0 + Sel.off .B)))) kq kq kq kq (fun ρ a w hS => sel_calls .B (ρ 0) 0 w (hS.lt 0 (Nat.le_of_ble_eq_true kq))) kq kq kq (fun ρ a w hS => sel_calls .B (ρ 1) 0 w (hS.lt 1 (Nat.le_of_ble_eq_true kq))) kq ?_
  refine V.u ?_
  exact V.retF ((Sel.set .B y (Sel.get .B x), B) : In × IA) [] (.tup []) kq kq kq kq kq kq kq rfl
 case N =>
  refine Calls.of_F hF [.one (.ptr 0 0), .agg (inV x A), .one (.val (.pointer (some ⟨cb, 0, none⟩)))] false Tryz.func159 kq kq (by simp [CV.wf, SV.wf, mvF, St.W, inV, inC]) ?_
  refine V.u ?_
  refine V.blkIn 2 cb [Sel.val .N] 159 kq kq kq kq kq ?_
  refine V.draw2 8 (Sel.fn .N) [.one (.ptr 0 0)] (.v (.one (.ptr 0 (0 + Sel.off .N)))) (Sel.fn .N) [.one (.ptr 1 0)] (.v (.one (.ptr 1 (0 + Sel.off .N)))) kq kq kq kq (fun ρ a w hS => sel_calls .N (ρ 0) 0 w (hS.lt 0 (Nat.le_of_ble_eq_true kq))) kq kq kq (fun ρ a w hS => sel_calls .N (ρ 1) 0 w (hS.lt 1 (Nat.le_of_ble_eq_true kq))) kq ?_
  refine V.u ?_
  exact V.retF ((Sel.set .N y (Sel.get .N x), B) : In × IA) [] (.tup []) kq kq kq kq kq kq kq rfl
 case M =>
  refine Calls.of_F hF [.one (.ptr 0 0), .agg (inV x A), .one (.val (.pointer (some ⟨cb, 0, none⟩)))] false Tryz.func159 kq kq (by simp [CV.wf, SV.wf, mvF, St.W, inV, inC]) ?_
  refine V.u ?_
  refine V.blkIn 2 cb [Sel.val .M] 159 kq kq kq kq kq ?_
  refine V.draw2 8 (Sel.fn .M) [.one (.ptr 0 0)] (.v (.one (.ptr 0 (0 + Sel.off .M)))) (Sel.fn .M) [.one (.ptr 1 0)] (.v (.one (.ptr 1 (0 + Sel.off .M)))) kq kq kq kq (fun ρ a w hS => sel_calls .M (ρ 0) 0 w (hS.lt 0 (Nat.le_of_ble_eq_true kq))) kq kq kq (fun ρ a w hS => sel_calls .M (ρ 1) 0 w (hS.lt 1 (Nat.le_of_ble_eq_true kq))) kq ?_
  refine V.u ?_
  exact V.retF ((Sel.set .M y (Sel.get .M x), B) : In × IA) [] (.tup []) kq kq kq kq kq kq kq rfl
 case P =>
  refine Calls.of_F hF [.one (.ptr 0 0), .agg (inV x A), .one (.val (.pointer (some ⟨cb, 0, none⟩)))] false Tryz.func159 kq kq (by simp [CV.wf, SV.wf, mvF, St.W, inV, inC]) ?_
  refine V.u ?_
  refine V.blkIn 2 cb [Sel.val .P] 159 kq kq kq kq kq ?_
  refine V.draw2 8 (Sel.fn .P) [.one (.ptr 0 0)] (.v (.one (.ptr 0 (0 + Sel.off .P)))) (Sel.fn .P) [.one (.ptr 1 0)] (.v (.one (.ptr 1 (0 + Sel.off .P)))) kq kq kq kq (fun ρ a w hS => sel_calls .P (ρ 0) 0 w (hS.lt 0 (Nat.le_of_ble_eq_true kq))) kq kq kq (fun ρ a w hS => sel_calls .P (ρ 1) 0 w (hS.lt 1 (Nat.le_of_ble_eq_true kq))) kq ?_
  refine V.u ?_
  exact V.retF ((Sel.set .P y (Sel.get .P x), B) : In × IA) [] (.tup []) kq kq kq kq kq kq kq rfl
theorem chg_grow (w : World) (k : Nat) (os : Array Obj) : Chg (fun _ => False) w (Sort.grow (w.drewN k) os) :=
 ⟨rfl, rfl, rfl, by simp [Sort.grow, World.drewN], fun i hi _ => by simp [Sort.grow, World.drewN, Array.getElem?_append_left hi]⟩
def varP (name : String) (cs : Array Value) : Pers := ⟨fun k => Tryz.prog.globalNamed name = some k, fun w => w.var? Tryz.prog name = some cs⟩
theorem varP_stable (name : String) (cs : Array Value) (w w' : World) (h : (varP name cs).φ w) (hk : ∀ k, (varP name cs).D k → w'.heap[k]? = w.heap[k]?) : (varP name cs).φ w' := by
 show w'.var? Tryz.prog name = some cs
 have h' : w.var? Tryz.prog name = some cs := h
 unfold World.var? at h' ⊢
 cases hg : Tryz.prog.globalNamed name with
 | none => rw [hg] at h'; cases h'
 | some g =>
  rw [hg] at h'
  simp only [Option.bind_some] at h' ⊢
  rw [hk g hg]; exact h'
def tabP : Pers := varP "internal/strconv.uint64pow10" (Lib.pow10Tab.map fun z => Value.int .u64 z).toArray
theorem itoa_calls (n : Int) (h0 : -9223372036854775808 ≤ n) (h1 : n ≤ 9223372036854775807) (w : World) (htab : tabP.φ w) :
  Calls Tryz.prog 123 #[.int .i64 n] w (Gives (.string ⟨(Lib.itoa n).toArray⟩) w) := by
 refine (Tryz.strconv_Itoa n h0 h1 w htab).mono ?_
 rintro e w' ⟨rfl, k, os, rfl⟩
 exact ⟨rfl, chg_grow w k os⟩
def regT (n : Int) : List UInt8 := if n < 0 then [45] else 114 :: Lib.itoa n
set_option maxHeartbeats 1000000 in
theorem regText_calls (n : Int) (h0 : -9223372036854775808 ≤ n) (h1 : n ≤ 9223372036854775807) (hl : (Lib.itoa n).length ≤ 100) (w : World) (hp : PersOk [tabP] w) :
  Calls Tryz.prog 156 (([.one (.int .i64 n)] : List CV).map (CV.den fun _ => 0)).toArray w (Gives (.string ⟨(regT n).toArray⟩) w) := by
 refine Calls.of_P _ hp [.one (.int .i64 n)] false Tryz.func156 kq kq kq ?_
 refine V.u ?_
 refine V.branch 4 (decide (n < 0)) kq (fun hb => ?_) (fun hb => ?_)
 ·have hb' : n < 0 := by simpa using hb
  refine V.u ?_
  simp only [regT, if_pos hb']
  exact V.ret (.v (.one (.str [45]))) kq kq (fun ρ a w hS => ⟨rfl, hS.chg⟩)
 ·have hb' : ¬ n < 0 := by simpa using hb
  refine V.u ?_
  refine V.callP 123 [.one (.int .i64 n)] (.v (.one (.str (Lib.itoa n)))) kq kq (fun ρ a w hS => itoa_calls n h0 h1 w (hS.pers tabP (List.mem_of_getElem? (i := 0) kq)).1) ?_
  refine V.run 100 [(1 + (Lib.itoa n).length : Nat) ≤ 9223372036854775807] kq (by simp only [allP]; omega) ?_
  simp only [regT, if_neg hb']
  exact V.ret (.v (.one (.str ([114] ++ Lib.itoa n)))) kq kq (fun ρ a w hS => ⟨rfl, hS.chg⟩)
def int64 (n : Int) : Prop := -9223372036854775808 ≤ n ∧ n ≤ 9223372036854775807
set_option maxHeartbeats 2000000 in
theorem numText (s : Sel) (x : In) (A : IA) (cb : Nat) (hx : int64 (s.get x)) (w : World) (hp : PersOk [tabP, s.blk cb] w) :
  Calls Tryz.prog 163 (([.agg (inV x A), .one (.val (.pointer (some ⟨cb, 0, none⟩)))] : List CV).map (CV.den fun _ => 0)).toArray w (Gives (.string ⟨(Lib.itoa (Sel.get s x)).toArray⟩) w) := by
 cases s
 case D =>
  refine Calls.of_P _ hp [.agg (inV x A), .one (.val (.pointer (some ⟨cb, 0, none⟩)))] false Tryz.func163 kq kq kq ?_
  refine V.u ?_
  refine V.loadP 1 159 cb 0 [Sel.val .D] 159 (.one (Sel.val .D)) kq kq kq kq kq ?_
  refine V.u ?_
  refine V.callQ (Sel.fn .D) [.one (.ptr 0 0)] (.v (.one (.ptr 0 (0 + Sel.off .D)))) kq kq (fun ρ a w hS => sel_calls .D (ρ 0) 0 w (hS.lt 0 (by decide : 0 < 1))) ?_
  refine V.u ?_
  refine V.callP 123 [.one (.int .i64 (Sel.get .D x))] (.v (.one (.str (Lib.itoa (Sel.get .D x))))) kq kq (fun ρ a w hS => itoa_calls _ hx.1 hx.2 w (hS.pers tabP (List.mem_of_getElem? (i := 0) kq)).1) ?_
  refine V.u ?_
  exact V.ret (.v (.one (.str (Lib.itoa (Sel.get .D x))))) kq kq (fun ρ a w hS => ⟨rfl, hS.chg⟩)
 case A =>
  refine Calls.of_P _ hp [.agg (inV x A), .one (.val (.pointer (some ⟨cb, 0, none⟩)))] false Tryz.func163 kq kq kq ?_
  refine V.u ?_
  refine V.loadP 1 159 cb 0 [Sel.val .A] 159 (.one (Sel.val .A)) kq kq kq kq kq ?_
  refine V.u ?_
  refine V.callQ (Sel.fn .A) [.one (.ptr 0 0)] (.v (.one (.ptr 0 (0 + Sel.off .A)))) kq kq (fun ρ a w hS => sel_calls .A (ρ 0) 0 w (hS.lt 0 (by decide : 0 < 1))) ?_
  refine V.u ?_
  refine V.callP 123 [.one (.int .i64 (Sel.get .A x))] (.v (.one (.str (Lib.itoa (Sel.get .A x))))) kq kq (fun ρ a w hS => itoa_calls _ hx.1 hx.2 w (hS.pers tabP (List.mem_of_getElem? (i := 0) kq)).1) ?_
  refine V.u ?_
  exact V.ret (.v (.one (.str (Lib.itoa (Sel.get .A x))))) kq kq (fun ρ a w hS => ⟨rfl, hS.chg⟩)
 case B =>
  refine Calls.of_P _ hp [.agg (inV x A), .one (.val (.pointer (some ⟨cb, 0, none⟩)))] false Tryz.func163 kq kq kq ?_
  refine V.u ?_
  refine V.loadP 1 159 cb 0 [Sel.val .B] 159 (.one (Sel.val .B)) kq kq kq kq kq ?_
  refine V.u ?_
  refine V.callQ (Sel.fn .B) [.one (.ptr 0 0)] (.v (.one (.ptr 0 (0 + Sel.off .B)))) kq kq (fun ρ a w hS => sel_calls .B (ρ 0) 0 w (hS.lt 0 (by decide : 0 < 1))) ?_
  refine V.u ?_
  refine V.callP 123 [.one (.int .i64 (Sel.get .B x))] (.v (.one (.str (Lib.itoa (Sel.get .B x))))) kq kq (fun ρ a w hS => itoa_calls _ hx.1 hx.2 w (hS.pers tabP (List.mem_of_getElem? (i := 0) kq)).1) ?_
  refine V.u ?_
  exact V.ret (.v (.one (.str (Lib.itoa (Sel.get .B x))))) kq kq (fun ρ a w hS => ⟨rfl, hS.chg⟩)
 case N =>
  refine Calls.of_P _ hp [.agg (inV x A), .one (.val (.pointer (some ⟨cb, 0, none⟩)))] false Tryz.func163 kq kq kq ?_
  refine V.u ?_
  refine V.loadP 1 159 cb 0 [Sel.val .N] 159 (.one (Sel.val .N)) kq kq kq kq kq ?_
  refine V.u ?_
  refine V.callQ (Sel.fn .N) [.one (.ptr 0 0)] (.v (.one (.ptr 0 (0 + Sel.off .N)))) kq kq (fun ρ a w hS => sel_calls .N (ρ 0) 0 w (hS.lt 0 (by decide : 0 < 1))) ?_
  refine V.u ?_
  refine V.callP 123 [.one (.int .i64 (Sel.get .N x))] (.v (.one (.str (Lib.itoa (Sel.get .N x))))) kq kq (fun ρ a w hS => itoa_calls _ hx.1 hx.2 w (hS.pers tabP (List.mem_of_getElem? (i := 0) kq)).1) ?_
  refine V.u ?_
  exact V.ret (.v (.one (.str (Lib.itoa (Sel.get .N x))))) kq kq (fun ρ a w hS => ⟨rfl, hS.chg⟩)
 case M =>
  refine Calls.of_P _ hp [.agg (inV x A), .one (.val (.pointer (some ⟨cb, 0, none⟩)))] false Tryz.func163 kq kq kq ?_
  refine V.u ?_
  refine V.loadP 1 159 cb 0 [Sel.val .M] 159 (.one (Sel.val .M)) kq kq kq kq kq ?_
  refine V.u ?_
  refine V.callQ (Sel.fn .M) [.one (.ptr 0 0)] (.v (.one (.ptr 0 (0 + Sel.off .M)))) kq kq (fun ρ a w hS => sel_calls .M (ρ 0) 0 w (hS.lt 0 (by decide : 0 < 1))) ?_
  refine V.u ?_
  refine V.callP 123 [.one (.int .i64 (Sel.get .M x))] (.v (.one (.str (Lib.itoa (Sel.get .M x))))) kq kq (fun ρ a w hS => itoa_calls _ hx.1 hx.2 w (hS.pers tabP (List.mem_of_getElem? (i := 0) kq)).1) ?_
  refine V.u ?_
  exact V.ret (.v (.one (.str (Lib.itoa (Sel.get .M x))))) kq kq (fun ρ a w hS => ⟨rfl, hS.chg⟩)
 case P =>
  refine Calls.of_P _ hp [.agg (inV x A), .one (.val (.pointer (some ⟨cb, 0, none⟩)))] false Tryz.func163 kq kq kq ?_
  refine V.u ?_
  refine V.loadP 1 159 cb 0 [Sel.val .P] 159 (.one (Sel.val .P)) kq kq kq kq kq ?_
  refine V.u ?_
  refine V.callQ (Sel.fn .P) [.one (.ptr 0 0)] (.v (.one (.ptr 0 (0 + Sel.off .P)))) kq kq (fun ρ a w hS => sel_calls .P (ρ 0) 0 w (hS.lt 0 (by decide : 0 < 1))) ?_
  refine V.u ?_
  refine V.callP 123 [.one (.int .i64 (Sel.get .P x))] (.v (.one (.str (Lib.itoa (Sel.get .P x))))) kq kq (fun ρ a w hS => itoa_calls _ hx.1 hx.2 w (hS.pers tabP (List.mem_of_getElem? (i := 0) kq)).1) ?_
  refine V.u ?_
  exact V.ret (.v (.one (.str (Lib.itoa (Sel.get .P x))))) kq kq (fun ρ a w hS => ⟨rfl, hS.chg⟩)
set_option maxHeartbeats 2000000 in
theorem regTextF (s : Sel) (x : In) (A : IA) (cb : Nat) (hx : int64 (s.get x)) (hl : (Lib.itoa (s.get x)).length ≤ 100) (w : World) (hp : PersOk [tabP, s.blk cb] w) :
  Calls Tryz.prog 155 (([.agg (inV x A), .one (.val (.pointer (some ⟨cb, 0, none⟩)))] : List CV).map (CV.den fun _ => 0)).toArray w (Gives (.string ⟨(regT (Sel.get s x)).toArray⟩) w) := by
 cases s
 case D =>
  refine Calls.of_P _ hp [.agg (inV x A), .one (.val (.pointer (some ⟨cb, 0, none⟩)))] false Tryz.func155 kq kq kq ?_
  refine V.u ?_
  refine V.loadP 1 159 cb 0 [Sel.val .D] 159 (.one (Sel.val .D)) kq kq kq kq kq ?_
  refine V.u ?_
  refine V.callQ (Sel.fn .D) [.one (.ptr 0 0)] (.v (.one (.ptr 0 (0 + Sel.off .D)))) kq kq (fun ρ a w hS => sel_calls .D (ρ 0) 0 w (hS.lt 0 (by decide : 0 < 1))) ?_
  refine V.u ?_
  refine V.callP 156 [.one (.int .i64 (Sel.get .D x))] (.v (.one (.str (regT (Sel.get .D x))))) kq kq (fun ρ a w hS => regText_calls _ hx.1 hx.2 hl w (hS.persOk [true, false])) ?_
  refine V.u ?_
  exact V.ret (.v (.one (.str (regT (Sel.get .D x))))) kq kq (fun ρ a w hS => ⟨rfl, hS.chg⟩)
 case A =>
  refine Calls.of_P _ hp [.agg (inV x A), .one (.val (.pointer (some ⟨cb, 0, none⟩)))] false Tryz.func155 kq kq kq ?_
  refine V.u ?_
  refine V.loadP 1 159 cb 0 [Sel.val .A] 159 (.one (Sel.val .A)) kq kq kq kq kq ?_
  refine V.u ?_
  refine V.callQ (Sel.fn .A) [.one (.ptr 0 0)] (.v (.one (.ptr 0 (0 + Sel.off .A)))) kq kq (fun ρ a w hS => sel_calls .A (ρ 0) 0 w (hS.lt 0 (by decide : 0 < 1))) ?_
  refine V.u ?_
  refine V.callP 156 [.one (.int .i64 (Sel.get .A x))] (.v (.one (.str (regT (Sel.get .A x))))) kq kq (fun ρ a w hS => regText_calls _ hx.1 hx.2 hl w (hS.persOk [true, false])) ?_
  refine V.u ?_
  exact V.ret (.v (.one (.str (regT (Sel.get .A x))))) kq kq (fun ρ a w hS => ⟨rfl, hS.chg⟩)
 case B =>
  refine Calls.of_P _ hp [.agg (inV x A), .one (.val (.pointer (some ⟨cb, 0, none⟩)))] false Tryz.func155 kq kq kq ?_
  refine V.u ?_
  refine V.loadP 1 159 cb 0 [Sel.val .B] 159 (.one (Sel.val .B)) kq kq kq kq kq ?_
  refine V.u ?_
  refine V.callQ (Sel.fn .B) [.one (.ptr 0 0)] (.v (.one (.ptr 0 (0 + Sel.off .B)))) kq kq (fun ρ a w hS => sel_calls .B (ρ 0) 0 w (hS.lt 0 (by decide : 0 < 1))) ?_
  refine V.u ?_
  refine V.callP 156 [.one (.int .i64 (Sel.get .B x))] (.v (.one (.str (regT (Sel.get .B x))))) kq kq (fun ρ a w hS => regText_calls _ hx.1 hx.2 hl w (hS.persOk [true, false])) ?_
  refine V.u ?_
  exact V.ret (.v (.one (.str (regT (Sel.get .B x))))) kq kq (fun ρ a w hS => ⟨rfl, hS.chg⟩)
 case N =>
  refine Calls.of_P _ hp [.agg (inV x A), .one (.val (.pointer (some ⟨cb, 0, none⟩)))] false Tryz.func155 kq kq kq ?_
  refine V.u ?_
  refine V.loadP 1 159 cb 0 [Sel.val .N] 159 (.one (Sel.val .N)) kq kq kq kq kq ?_
  refine V.u ?_
  refine V.callQ (Sel.fn .N) [.one (.ptr 0 0)] (.v (.one (.ptr 0 (0 + Sel.off .N)))) kq kq (fun ρ a w hS => sel_calls .N (ρ 0) 0 w (hS.lt 0 (by decide : 0 < 1))) ?_
  refine V.u ?_
  refine V.callP 156 [.one (.int .i64 (Sel.get .N x))] (.v (.one (.str (regT (Sel.get .N x))))) kq kq (fun ρ a w hS => regText_calls _ hx.1 hx.2 hl w (hS.persOk [true, false])) ?_
  refine V.u ?_
  exact V.ret (.v (.one (.str (regT (Sel.get .N x))))) kq kq (fun ρ a w hS => ⟨rfl, hS.chg⟩)
 case M =>
  refine Calls.of_P _ hp [.agg (inV x A), .one (.val (.pointer (some ⟨cb, 0, none⟩)))] false Tryz.func155 kq kq kq ?_
  refine V.u ?_
  refine V.loadP 1 159 cb 0 [Sel.val .M] 159 (.one (Sel.val .M)) kq kq kq kq kq ?_
  refine V.u ?_
  refine V.callQ (Sel.fn .M) [.one (.ptr 0 0)] (.v (.one (.ptr 0 (0 + Sel.off .M)))) kq kq (fun ρ a w hS => sel_calls .M (ρ 0) 0 w (hS.lt 0 (by decide : 0 < 1))) ?_
  refine V.u ?_
  refine V.callP 156 [.one (.int .i64 (Sel.get .M x))] (.v (.one (.str (regT (Sel.get .M x))))) kq kq (fun ρ a w hS => regText_calls _ hx.1 hx.2 hl w (hS.persOk [true, false])) ?_
  refine V.u ?_
  exact V.ret (.v (.one (.str (regT (Sel.get .M x))))) kq kq (fun ρ a w hS => ⟨rfl, hS.chg⟩)
 case P =>
  refine Calls.of_P _ hp [.agg (inV x A), .one (.val (.pointer (some ⟨cb, 0, none⟩)))] false Tryz.func155 kq kq kq ?_
  refine V.u ?_
  refine V.loadP 1 159 cb 0 [Sel.val .P] 159 (.one (Sel.val .P)) kq kq kq kq kq ?_
  refine V.u ?_
  refine V.callQ (Sel.fn .P) [.one (.ptr 0 0)] (.v (.one (.ptr 0 (0 + Sel.off .P)))) kq kq (fun ρ a w hS => sel_calls .P (ρ 0) 0 w (hS.lt 0 (by decide : 0 < 1))) ?_
  refine V.u ?_
  refine V.callP 156 [.one (.int .i64 (Sel.get .P x))] (.v (.one (.str (regT (Sel.get .P x))))) kq kq (fun ρ a w hS => regText_calls _ hx.1 hx.2 hl w (hS.persOk [true, false])) ?_
  refine V.u ?_
  exact V.ret (.v (.one (.str (regT (Sel.get .P x))))) kq kq (fun ρ a w hS => ⟨rfl, hS.chg⟩)
def isTy (t : Ty) : Bool := isNum t.k && isNum t.p && isNum t.q && decide ((t.s.length : Int) ≤ 255)
theorem isType_calls (t : Ty) (w : World) : Calls Tryz.prog 168 (([.agg t.cells] : List CV).map (CV.den fun _ => 0)).toArray w (Gives (.bool (isTy t)) w) := by
 refine Calls.of_plain [.agg t.cells] false Tryz.func168 kq kq (by simp [CV.wf, SV.wf, Ty.cells]) ?_
 refine V.u ?_
 refine V.callP 53 [.one (.int .i64 t.k)] (.v (.one (.sb (isNum t.k)))) kq kq (fun _ _ w _ => isNumber_calls _ w) ?_
 refine V.u ?_
 refine V.callPA 6 true (isNum t.k) 53 [.one (.int .i64 t.p)] (.one (.sb (isNum t.p))) kq kq (fun _ _ _ w _ => isNumber_calls _ w) ?_
 refine V.u ?_
 refine V.callPA 11 true (isNum t.k && isNum t.p) 53 [.one (.int .i64 t.q)] (.one (.sb (isNum t.q))) kq kq (fun _ _ _ w _ => isNumber_calls _ w) ?_
 refine V.u ?_
 exact V.ret (.v (.one (.sb (isTy t)))) kq kq (fun ρ a w hS => ⟨rfl, hS.chg⟩)
inductive TSel where
 | T | U | W
def TSel.fn : TSel → Nat
 | .T => 101 | .U => 102 | .W => 103
def TSel.off : TSel → Nat
 | .T => 4 | .U => 9 | .W => 14
def TSel.get : TSel → In → Ty
 | .T, x => x.t | .U, x => x.u | .W, x => x.w
def TSel.set : TSel → In → Ty → In
 | .T, x, v => { x with t := v } | .U, x, v => { x with u := v } | .W, x, v => { x with w := v }
def TSel.val (s : TSel) : SV := .val (.func (.func s.fn) #[] #[])
def TSel.blk (s : TSel) (g : Nat) : Pers := blkP g [s.val] 169
theorem ptr_fin {g off : Nat} {C : Ctx} {ρ : Nat → Nat} {a : Act} {w w' : World} {st : St} (e1 : C.base = (fun _ => g)) (e2 : st.fx = 1) (e3 : C.S = (fun _ => False)) (e4 : C.w0 = w) (hS : Sat C ρ st a w') :
  Gives (.pointer (some ⟨g, off, none⟩)) w (.returned ((RV.v (.one (.ptr 0 off))).den ρ)) w' := by
 have h0 := (hS.fix 0 (by rw [e2]; exact Nat.zero_lt_one)).2
 rw [e1] at h0
 have hc := hS.chg
 rw [e3, e4] at hc
 refine ⟨?_, hc⟩
 show Ending.returned (.pointer (some ⟨ρ 0, off, none⟩)) = _
 rw [h0]
theorem tsel_calls (s : TSel) (g o : Nat) (w : World) (hg : g < w.heap.size) : Calls Tryz.prog s.fn #[.pointer (some ⟨g, o, none⟩)] w (Gives (.pointer (some ⟨g, o + s.off, none⟩)) w) := by
 cases s
 case T =>
  refine Calls.of_ptr g o hg false Tryz.func101 kq kq ?_
  refine V.u ?_
  exact V.ret (.v (.one (.ptr 0 (o + 4)))) kq kq (fun ρ a w' hS => ptr_fin rfl kq rfl rfl hS)
 case U =>
  refine Calls.of_ptr g o hg false Tryz.func102 kq kq ?_
  refine V.u ?_
  exact V.ret (.v (.one (.ptr 0 (o + 9)))) kq kq (fun ρ a w' hS => ptr_fin rfl kq rfl rfl hS)
 case W =>
  refine Calls.of_ptr g o hg false Tryz.func103 kq kq ?_
  refine V.u ?_
  exact V.ret (.v (.one (.ptr 0 (o + 14)))) kq kq (fun ρ a w' hS => ptr_fin rfl kq rfl rfl hS)
set_option maxHeartbeats 2000000 in
theorem tyFine (s : TSel) (x : In) (A : IA) (cb : Nat) (w : World) (hp : PersOk [s.blk cb] w) :
  Calls Tryz.prog 167 (([.agg (inV x A), .one (.val (.pointer (some ⟨cb, 0, none⟩)))] : List CV).map (CV.den fun _ => 0)).toArray w (Gives (.bool (isTy (s.get x))) w) := by
 cases s
 case T =>
  refine Calls.of_P _ hp [.agg (inV x A), .one (.val (.pointer (some ⟨cb, 0, none⟩)))] false Tryz.func167 kq kq kq ?_
  refine V.u ?_
  refine V.loadP 0 169 cb 0 [TSel.val .T] 169 (.one (TSel.val .T)) kq kq kq kq kq ?_
  refine V.u ?_
  refine V.callQ (TSel.fn .T) [.one (.ptr 0 0)] (.v (.one (.ptr 0 (0 + TSel.off .T)))) kq kq (fun ρ a w hS => tsel_calls .T (ρ 0) 0 w (hS.lt 0 (Nat.le_of_ble_eq_true kq))) ?_
  refine V.u ?_
  refine V.callP 168 [.agg (Ty.cells (TSel.get .T x))] (.v (.one (.sb (isTy (TSel.get .T x))))) kq kq (fun _ _ w _ => isType_calls _ w) ?_
  refine V.u ?_
  exact V.ret (.v (.one (.sb (isTy (TSel.get .T x))))) kq kq (fun ρ a w hS => ⟨rfl, hS.chg⟩)
 case U =>
  refine Calls.of_P _ hp [.agg (inV x A), .one (.val (.pointer (some ⟨cb, 0, none⟩)))] false Tryz.func167 kq kq kq ?_
  refine V.u ?_
  refine V.loadP 0 169 cb 0 [TSel.val .U] 169 (.one (TSel.val .U)) kq kq kq kq kq ?_
  refine V.u ?_
  refine V.callQ (TSel.fn .U) [.one (.ptr 0 0)] (.v (.one (.ptr 0 (0 + TSel.off .U)))) kq kq (fun ρ a w hS => tsel_calls .U (ρ 0) 0 w (hS.lt 0 (Nat.le_of_ble_eq_true kq))) ?_
  refine V.u ?_
  refine V.callP 168 [.agg (Ty.cells (TSel.get .U x))] (.v (.one (.sb (isTy (TSel.get .U x))))) kq kq (fun _ _ w _ => isType_calls _ w) ?_
  refine V.u ?_
  exact V.ret (.v (.one (.sb (isTy (TSel.get .U x))))) kq kq (fun ρ a w hS => ⟨rfl, hS.chg⟩)
 case W =>
  refine Calls.of_P _ hp [.agg (inV x A), .one (.val (.pointer (some ⟨cb, 0, none⟩)))] false Tryz.func167 kq kq kq ?_
  refine V.u ?_
  refine V.loadP 0 169 cb 0 [TSel.val .W] 169 (.one (TSel.val .W)) kq kq kq kq kq ?_
  refine V.u ?_
  refine V.callQ (TSel.fn .W) [.one (.ptr 0 0)] (.v (.one (.ptr 0 (0 + TSel.off .W)))) kq kq (fun ρ a w hS => tsel_calls .W (ρ 0) 0 w (hS.lt 0 (Nat.le_of_ble_eq_true kq))) ?_
  refine V.u ?_
  refine V.callP 168 [.agg (Ty.cells (TSel.get .W x))] (.v (.one (.sb (isTy (TSel.get .W x))))) kq kq (fun _ _ w _ => isType_calls _ w) ?_
  refine V.u ?_
  exact V.ret (.v (.one (.sb (isTy (TSel.get .W x))))) kq kq (fun ρ a w hS => ⟨rfl, hS.chg⟩)
set_option maxHeartbeats 2000000 in
theorem tyPut (s : TSel) (x : In) (A : IA) (cb : Nat) (b : WSt) (h1 : num32 (s.get x).k) (h2 : num32 (s.get x).p) (h3 : num32 (s.get x).q) (hl : (s.get x).s.length ≤ 50000000) (hb : b.bs.length ≤ 800000000) (ρ : Nat → Nat) (w : World) (hF : FSat ρ (wrF [s.blk cb] b) w) :
  Calls Tryz.prog 169 (([.one (.ptr 0 0), .agg (inV x A), .one (.val (.pointer (some ⟨cb, 0, none⟩)))] : List CV).map (CV.den ρ)).toArray w (WrR [s.blk cb] b (encTy (s.get x)) [] ρ w) := by
 cases s
 case T =>
  refine Calls.of_F hF [.one (.ptr 0 0), .agg (inV x A), .one (.val (.pointer (some ⟨cb, 0, none⟩)))] false Tryz.func169 kq kq (by simp [CV.wf, SV.wf, wrF, St.W, inV, inC]) ?_
  refine V.u ?_
  refine V.loadP 0 169 cb 0 [TSel.val .T] 169 (.one (TSel.val .T)) kq kq kq kq kq ?_
  refine V.u ?_
  refine V.callQ (TSel.fn .T) [.one (.ptr 1 0)] (.v (.one (.ptr 1 (0 + TSel.off .T)))) kq kq (fun ρ a w hS => tsel_calls .T (ρ 1) 0 w (hS.lt 1 (Nat.le_of_ble_eq_true kq))) ?_
  refine V.u ?_
  refine V.callW 170 [.one (.ptr 0 0), .agg (Ty.cells (TSel.get .T x))] [.one (.ptr 0 0), .agg (Ty.cells (TSel.get .T x))] [0] [0, 1] [false] (wrF [] b) _ _ _ kq kq kq (fun _ => rfl) (fun _ => kq) (fun ρ w hF => wtyp _ b h1 h2 h3 hl hb ρ w hF) ?_
  intro b1 e1
  refine V.u ?_
  exact V.retF (⟨b1.bs, b1.q, b1.c, b1.rs, b1.q2, b1.c2⟩ : WSt) [2, 3] (.tup []) kq kq kq kq kq kq kq ⟨e1.1, e1.2⟩
 case U =>
  refine Calls.of_F hF [.one (.ptr 0 0), .agg (inV x A), .one (.val (.pointer (some ⟨cb, 0, none⟩)))] false Tryz.func169 kq kq (by simp [CV.wf, SV.wf, wrF, St.W, inV, inC]) ?_
  refine V.u ?_
  refine V.loadP 0 169 cb 0 [TSel.val .U] 169 (.one (TSel.val .U)) kq kq kq kq kq ?_
  refine V.u ?_
  refine V.callQ (TSel.fn .U) [.one (.ptr 1 0)] (.v (.one (.ptr 1 (0 + TSel.off .U)))) kq kq (fun ρ a w hS => tsel_calls .U (ρ 1) 0 w (hS.lt 1 (Nat.le_of_ble_eq_true kq))) ?_
  refine V.u ?_
  refine V.callW 170 [.one (.ptr 0 0), .agg (Ty.cells (TSel.get .U x))] [.one (.ptr 0 0), .agg (Ty.cells (TSel.get .U x))] [0] [0, 1] [false] (wrF [] b) _ _ _ kq kq kq (fun _ => rfl) (fun _ => kq) (fun ρ w hF => wtyp _ b h1 h2 h3 hl hb ρ w hF) ?_
  intro b1 e1
  refine V.u ?_
  exact V.retF (⟨b1.bs, b1.q, b1.c, b1.rs, b1.q2, b1.c2⟩ : WSt) [2, 3] (.tup []) kq kq kq kq kq kq kq ⟨e1.1, e1.2⟩
 case W =>
  refine Calls.of_F hF [.one (.ptr 0 0), .agg (inV x A), .one (.val (.pointer (some ⟨cb, 0, none⟩)))] false Tryz.func169 kq kq (by simp [CV.wf, SV.wf, wrF, St.W, inV, inC]) ?_
  refine V.u ?_
  refine V.loadP 0 169 cb 0 [TSel.val .W] 169 (.one (TSel.val .W)) kq kq kq kq kq ?_
  refine V.u ?_
  refine V.callQ (TSel.fn .W) [.one (.ptr 1 0)] (.v (.one (.ptr 1 (0 + TSel.off .W)))) kq kq (fun ρ a w hS => tsel_calls .W (ρ 1) 0 w (hS.lt 1 (Nat.le_of_ble_eq_true kq))) ?_
  refine V.u ?_
  refine V.callW 170 [.one (.ptr 0 0), .agg (Ty.cells (TSel.get .W x))] [.one (.ptr 0 0), .agg (Ty.cells (TSel.get .W x))] [0] [0, 1] [false] (wrF [] b) _ _ _ kq kq kq (fun _ => rfl) (fun _ => kq) (fun ρ w hF => wtyp _ b h1 h2 h3 hl hb ρ w hF) ?_
  intro b1 e1
  refine V.u ?_
  exact V.retF (⟨b1.bs, b1.q, b1.c, b1.rs, b1.q2, b1.c2⟩ : WSt) [2, 3] (.tup []) kq kq kq kq kq kq kq ⟨e1.1, e1.2⟩
set_option maxHeartbeats 2000000 in
theorem tyGet (s : TSel) (X : RIn) (r : RSt) (x : In) (A : IA) (cb : Nat) (h : okIn X r) (ρ : Nat → Nat) (w : World) (hF : FSat ρ (gtF [s.blk cb] X r x A) w) :
  Calls Tryz.prog 171 (([.one (.ptr 0 0), .one (.ptr 1 0), .one (.val (.pointer (some ⟨cb, 0, none⟩)))] : List CV).map (CV.den ρ)).toArray w (GtR [s.blk cb] X r x A (rdTy X r).2 (s.set x (rdTy X r).1) ρ w) := by
 cases s
 case T =>
  refine Calls.of_F hF [.one (.ptr 0 0), .one (.ptr 1 0), .one (.val (.pointer (some ⟨cb, 0, none⟩)))] false Tryz.func171 kq kq (by simp [CV.wf, SV.wf, gtF, St.W]) ?_
  refine V.u ?_
  refine V.loadP 0 169 cb 0 [TSel.val .T] 169 (.one (TSel.val .T)) kq kq kq kq kq ?_
  refine V.u ?_
  refine V.callQ (TSel.fn .T) [.one (.ptr 1 0)] (.v (.one (.ptr 1 (0 + TSel.off .T)))) kq kq (fun ρ a w hS => tsel_calls .T (ρ 1) 0 w (hS.lt 1 (Nat.le_of_ble_eq_true kq))) ?_
  refine V.u ?_
  refine V.callW 172 [.one (.ptr 0 0)] [.one (.ptr 0 0)] [0] [] [false] (rdF [] X r) _ _ _ kq kq kq (fun _ => rfl) (fun _ => kq) (fun ρ w hF => rtyp X r h ρ w hF) ?_
  rintro r1 rfl
  refine V.u ?_
  exact V.retF (⟨(rdTy X r).2, TSel.set .T x (rdTy X r).1, A⟩ : RSt × In × IA) [0, 1, 2] (.tup []) kq kq kq kq kq kq kq ⟨rfl, rfl⟩
 case U =>
  refine Calls.of_F hF [.one (.ptr 0 0), .one (.ptr 1 0), .one (.val (.pointer (some ⟨cb, 0, none⟩)))] false Tryz.func171 kq kq (by simp [CV.wf, SV.wf, gtF, St.W]) ?_
  refine V.u ?_
  refine V.loadP 0 169 cb 0 [TSel.val .U] 169 (.one (TSel.val .U)) kq kq kq kq kq ?_
  refine V.u ?_
  refine V.callQ (TSel.fn .U) [.one (.ptr 1 0)] (.v (.one (.ptr 1 (0 + TSel.off .U)))) kq kq (fun ρ a w hS => tsel_calls .U (ρ 1) 0 w (hS.lt 1 (Nat.le_of_ble_eq_true kq))) ?_
  refine V.u ?_
  refine V.callW 172 [.one (.ptr 0 0)] [.one (.ptr 0 0)] [0] [] [false] (rdF [] X r) _ _ _ kq kq kq (fun _ => rfl) (fun _ => kq) (fun ρ w hF => rtyp X r h ρ w hF) ?_
  rintro r1 rfl
  refine V.u ?_
  exact V.retF (⟨(rdTy X r).2, TSel.set .U x (rdTy X r).1, A⟩ : RSt × In × IA) [0, 1, 2] (.tup []) kq kq kq kq kq kq kq ⟨rfl, rfl⟩
 case W =>
  refine Calls.of_F hF [.one (.ptr 0 0), .one (.ptr 1 0), .one (.val (.pointer (some ⟨cb, 0, none⟩)))] false Tryz.func171 kq kq (by simp [CV.wf, SV.wf, gtF, St.W]) ?_
  refine V.u ?_
  refine V.loadP 0 169 cb 0 [TSel.val .W] 169 (.one (TSel.val .W)) kq kq kq kq kq ?_
  refine V.u ?_
  refine V.callQ (TSel.fn .W) [.one (.ptr 1 0)] (.v (.one (.ptr 1 (0 + TSel.off .W)))) kq kq (fun ρ a w hS => tsel_calls .W (ρ 1) 0 w (hS.lt 1 (Nat.le_of_ble_eq_true kq))) ?_
  refine V.u ?_
  refine V.callW 172 [.one (.ptr 0 0)] [.one (.ptr 0 0)] [0] [] [false] (rdF [] X r) _ _ _ kq kq kq (fun _ => rfl) (fun _ => kq) (fun ρ w hF => rtyp X r h ρ w hF) ?_
  rintro r1 rfl
  refine V.u ?_
  exact V.retF (⟨(rdTy X r).2, TSel.set .W x (rdTy X r).1, A⟩ : RSt × In × IA) [0, 1, 2] (.tup []) kq kq kq kq kq kq kq ⟨rfl, rfl⟩
set_option maxHeartbeats 2000000 in
theorem tyMove (s : TSel) (x y : In) (A B : IA) (cb : Nat) (ρ : Nat → Nat) (w : World) (hF : FSat ρ (mvF [s.blk cb] y B) w) :
  Calls Tryz.prog 166 (([.one (.ptr 0 0), .agg (inV x A), .one (.val (.pointer (some ⟨cb, 0, none⟩)))] : List CV).map (CV.den ρ)).toArray w (MvR [s.blk cb] y B (s.set y (s.get x)) B ρ w) := by
 cases s
 case T =>
  refine Calls.of_F hF [.one (.ptr 0 0), .agg (inV x A), .one (.val (.pointer (some ⟨cb, 0, none⟩)))] false Tryz.func166 kq kq (by simp [CV.wf, SV.wf, mvF, St.W, inV, inC]) ?_
  refine V.u ?_
  refine V.blkIn 2 cb [TSel.val .T] 169 kq kq kq kq kq ?_
  refine V.draw2 8 (TSel.fn .T) [.one (.ptr 0 0)] (.v (.one (.ptr 0 (0 + TSel.off .T)))) (TSel.fn .T) [.one (.ptr 1 0)] (.v (.one (.ptr 1 (0 + TSel.off .T)))) kq kq kq kq (fun ρ a w hS => tsel_calls .T (ρ 0) 0 w (hS.lt 0 (Nat.le_of_ble_eq_true kq))) kq kq kq (fun ρ a w hS => tsel_calls .T (ρ 1) 0 w (hS.lt 1 (Nat.le_of_ble_eq_true kq))) kq ?_
  refine V.u ?_
  exact V.retF ((TSel.set .T y (TSel.get .T x), B) : In × IA) [] (.tup []) kq kq kq kq kq kq kq rfl
 case U =>
  refine Calls.of_F hF [.one (.ptr 0 0), .agg (inV x A), .one (.val (.pointer (some ⟨cb, 0, none⟩)))] false Tryz.func166 kq kq (by simp [CV.wf, SV.wf, mvF, St.W, inV, inC]) ?_
  refine V.u ?_
  refine V.blkIn 2 cb [TSel.val .U] 169 kq kq kq kq kq ?_
  refine V.draw2 8 (TSel.fn .U) [.one (.ptr 0 0)] (.v (.one (.ptr 0 (0 + TSel.off .U)))) (TSel.fn .U) [.one (.ptr 1 0)] (.v (.one (.ptr 1 (0 + TSel.off .U)))) kq kq kq kq (fun ρ a w hS => tsel_calls .U (ρ 0) 0 w (hS.lt 0 (Nat.le_of_ble_eq_true kq))) kq kq kq (fun ρ a w hS => tsel_calls .U (ρ 1) 0 w (hS.lt 1 (Nat.le_of_ble_eq_true kq))) kq ?_
  refine V.u ?_
  exact V.retF ((TSel.set .U y (TSel.get .U x), B) : In × IA) [] (.tup []) kq kq kq kq kq kq kq rfl
 case W =>
  refine Calls.of_F hF [.one (.ptr 0 0), .agg (inV x A), .one (.val (.pointer (some ⟨cb, 0, none⟩)))] false Tryz.func166 kq kq (by simp [CV.wf, SV.wf, mvF, St.W, inV, inC]) ?_
  refine V.u ?_
  refine V.blkIn 2 cb [TSel.val .W] 169 kq kq kq kq kq ?_
  refine V.draw2 8 (TSel.fn .W) [.one (.ptr 0 0)] (.v (.one (.ptr 0 (0 + TSel.off .W)))) (TSel.fn .W) [.one (.ptr 1 0)] (.v (.one (.ptr 1 (0 + TSel.off .W)))) kq kq kq kq (fun ρ a w hS => tsel_calls .W (ρ 0) 0 w (hS.lt 0 (Nat.le_of_ble_eq_true kq))) kq kq kq (fun ρ a w hS => tsel_calls .W (ρ 1) 0 w (hS.lt 1 (Nat.le_of_ble_eq_true kq))) kq ?_
  refine V.u ?_
  exact V.retF ((TSel.set .W y (TSel.get .W x), B) : In × IA) [] (.tup []) kq kq kq kq kq kq kq rfl
inductive FSel where
 | S | R
def FSel.fn : FSel → Nat
 | .S => 109 | .R => 110
def FSel.off : FSel → Nat
 | .S => 27 | .R => 28
def FSel.get : FSel → In → Bool
 | .S, x => x.size | .R, x => x.range
def FSel.set : FSel → In → Bool → In
 | .S, x, v => { x with size := v } | .R, x, v => { x with range := v }
def FSel.val (s : FSel) : SV := .val (.func (.func s.fn) #[] #[])
def FSel.blk (s : FSel) (g : Nat) : Pers := blkP g [s.val] 173
def psF (ps : List Pers) (x : In) (A : IA) : St := { n := 0, slots := [], gs := [], heap := [(0, ⟨inO x A, 30, true⟩)], next := 1, rows := inRows x A, nr := 3, pers := ps, wr := false }
def PsR (ps : List Pers) (x : In) (A : IA) (ok : Bool) (x' : In) (ρ : Nat → Nat) (w : World) : Ending → World → Prop :=
 GivesF ρ (psF ps x A) (fun y : In × IA => y.1 = x') (fun _ => .v (.one (.sb ok))) (fun y => psF [] y.1 y.2) w
theorem fsel_calls (s : FSel) (g o : Nat) (w : World) (hg : g < w.heap.size) : Calls Tryz.prog s.fn #[.pointer (some ⟨g, o, none⟩)] w (Gives (.pointer (some ⟨g, o + s.off, none⟩)) w) := by
 cases s
 case S =>
  refine Calls.of_ptr g o hg false Tryz.func109 kq kq ?_
  refine V.u ?_
  exact V.ret (.v (.one (.ptr 0 (o + 27)))) kq kq (fun ρ a w' hS => ptr_fin rfl kq rfl rfl hS)
 case R =>
  refine Calls.of_ptr g o hg false Tryz.func110 kq kq ?_
  refine V.u ?_
  exact V.ret (.v (.one (.ptr 0 (o + 28)))) kq kq (fun ρ a w' hS => ptr_fin rfl kq rfl rfl hS)
theorem flagFine (x : In) (A : IA) (w : World) : Calls Tryz.prog 204 (([.agg (inV x A)] : List CV).map (CV.den fun _ => 0)).toArray w (Gives (.bool true) w) := by
 refine Calls.of_P [] (by intro p hp; cases hp) [.agg (inV x A)] false Tryz.func204 kq kq kq ?_
 refine V.u ?_
 exact V.ret (.v (.one (.bool true))) kq kq (fun ρ a w hS => ⟨rfl, hS.chg⟩)
def bitT (v : Bool) : List UInt8 := match v with
 | true => [49]
 | false => [48]
theorem flagText_calls (v : Bool) (w : World) : Calls Tryz.prog 210 #[.bool v] w (Gives (.string ⟨(bitT v).toArray⟩) w) := by
 refine Calls.of_plain [.one (.sb v)] false Tryz.func210 kq kq (by simp [CV.wf, SV.wf]) ?_
 refine V.u ?_
 refine V.branch 3 v kq (fun hv => ?_) (fun hv => ?_)
 ·subst hv
  refine V.u ?_
  exact V.ret (.v (.one (.str [49]))) kq kq (fun ρ a w hS => ⟨rfl, hS.chg⟩)
 ·subst hv
  refine V.u ?_
  exact V.ret (.v (.one (.str [48]))) kq kq (fun ρ a w hS => ⟨rfl, hS.chg⟩)
set_option maxHeartbeats 2000000 in
theorem flagTextF (s : FSel) (x : In) (A : IA) (cb : Nat) (w : World) (hp : PersOk [s.blk cb] w) :
  Calls Tryz.prog 209 (([.agg (inV x A), .one (.val (.pointer (some ⟨cb, 0, none⟩)))] : List CV).map (CV.den fun _ => 0)).toArray w (Gives (.string ⟨(bitT (s.get x)).toArray⟩) w) := by
 cases s
 case S =>
  refine Calls.of_P _ hp [.agg (inV x A), .one (.val (.pointer (some ⟨cb, 0, none⟩)))] false Tryz.func209 kq kq kq ?_
  refine V.u ?_
  refine V.loadP 0 173 cb 0 [FSel.val .S] 173 (.one (FSel.val .S)) kq kq kq kq kq ?_
  refine V.u ?_
  refine V.callQ (FSel.fn .S) [.one (.ptr 0 0)] (.v (.one (.ptr 0 (0 + FSel.off .S)))) kq kq (fun ρ a w hS => fsel_calls .S (ρ 0) 0 w (hS.lt 0 (Nat.le_of_ble_eq_true kq))) ?_
  refine V.u ?_
  refine V.callP 210 [.one (.sb (FSel.get .S x))] (.v (.one (.str (bitT (FSel.get .S x))))) kq kq (fun _ _ w _ => flagText_calls _ w) ?_
  refine V.u ?_
  exact V.ret (.v (.one (.str (bitT (FSel.get .S x))))) kq kq (fun ρ a w hS => ⟨rfl, hS.chg⟩)
 case R =>
  refine Calls.of_P _ hp [.agg (inV x A), .one (.val (.pointer (some ⟨cb, 0, none⟩)))] false Tryz.func209 kq kq kq ?_
  refine V.u ?_
  refine V.loadP 0 173 cb 0 [FSel.val .R] 173 (.one (FSel.val .R)) kq kq kq kq kq ?_
  refine V.u ?_
  refine V.callQ (FSel.fn .R) [.one (.ptr 0 0)] (.v (.one (.ptr 0 (0 + FSel.off .R)))) kq kq (fun ρ a w hS => fsel_calls .R (ρ 0) 0 w (hS.lt 0 (Nat.le_of_ble_eq_true kq))) ?_
  refine V.u ?_
  refine V.callP 210 [.one (.sb (FSel.get .R x))] (.v (.one (.str (bitT (FSel.get .R x))))) kq kq (fun _ _ w _ => flagText_calls _ w) ?_
  refine V.u ?_
  exact V.ret (.v (.one (.str (bitT (FSel.get .R x))))) kq kq (fun ρ a w hS => ⟨rfl, hS.chg⟩)
set_option maxHeartbeats 2000000 in
theorem flagPut (s : FSel) (x : In) (A : IA) (cb : Nat) (b : WSt) (hb : b.bs.length ≤ 800000000) (ρ : Nat → Nat) (w : World) (hF : FSat ρ (wrF [s.blk cb] b) w) :
  Calls Tryz.prog 205 (([.one (.ptr 0 0), .agg (inV x A), .one (.val (.pointer (some ⟨cb, 0, none⟩)))] : List CV).map (CV.den ρ)).toArray w (WrR [s.blk cb] b [bitB (s.get x)] [] ρ w) := by
 cases s
 case S =>
  refine Calls.of_F hF [.one (.ptr 0 0), .agg (inV x A), .one (.val (.pointer (some ⟨cb, 0, none⟩)))] false Tryz.func205 kq kq (by simp [CV.wf, SV.wf, wrF, St.W, inV, inC]) ?_
  refine V.u ?_
  refine V.loadP 0 173 cb 0 [FSel.val .S] 173 (.one (FSel.val .S)) kq kq kq kq kq ?_
  refine V.u ?_
  refine V.callQ (FSel.fn .S) [.one (.ptr 1 0)] (.v (.one (.ptr 1 (0 + FSel.off .S)))) kq kq (fun ρ a w hS => fsel_calls .S (ρ 1) 0 w (hS.lt 1 (Nat.le_of_ble_eq_true kq))) ?_
  refine V.u ?_
  refine V.callW 206 [.one (.ptr 0 0), .one (.sb (FSel.get .S x))] [.one (.ptr 0 0), .one (.sb (FSel.get .S x))] [0] [0, 1] [false] (wrF [] b) _ _ _ kq kq kq (fun _ => rfl) (fun _ => kq) (fun ρ w hF => wflag _ b (by omega) ρ w hF) ?_
  intro b1 e1
  refine V.u ?_
  exact V.retF (⟨b1.bs, b1.q, b1.c, b1.rs, b1.q2, b1.c2⟩ : WSt) [2, 3] (.tup []) kq kq kq kq kq kq kq ⟨e1.1, e1.2⟩
 case R =>
  refine Calls.of_F hF [.one (.ptr 0 0), .agg (inV x A), .one (.val (.pointer (some ⟨cb, 0, none⟩)))] false Tryz.func205 kq kq (by simp [CV.wf, SV.wf, wrF, St.W, inV, inC]) ?_
  refine V.u ?_
  refine V.loadP 0 173 cb 0 [FSel.val .R] 173 (.one (FSel.val .R)) kq kq kq kq kq ?_
  refine V.u ?_
  refine V.callQ (FSel.fn .R) [.one (.ptr 1 0)] (.v (.one (.ptr 1 (0 + FSel.off .R)))) kq kq (fun ρ a w hS => fsel_calls .R (ρ 1) 0 w (hS.lt 1 (Nat.le_of_ble_eq_true kq))) ?_
  refine V.u ?_
  refine V.callW 206 [.one (.ptr 0 0), .one (.sb (FSel.get .R x))] [.one (.ptr 0 0), .one (.sb (FSel.get .R x))] [0] [0, 1] [false] (wrF [] b) _ _ _ kq kq kq (fun _ => rfl) (fun _ => kq) (fun ρ w hF => wflag _ b (by omega) ρ w hF) ?_
  intro b1 e1
  refine V.u ?_
  exact V.retF (⟨b1.bs, b1.q, b1.c, b1.rs, b1.q2, b1.c2⟩ : WSt) [2, 3] (.tup []) kq kq kq kq kq kq kq ⟨e1.1, e1.2⟩
set_option maxHeartbeats 2000000 in
theorem flagGet (s : FSel) (X : RIn) (r : RSt) (x : In) (A : IA) (cb : Nat) (h : okIn X r) (ρ : Nat → Nat) (w : World) (hF : FSat ρ (gtF [s.blk cb] X r x A) w) :
  Calls Tryz.prog 207 (([.one (.ptr 0 0), .one (.ptr 1 0), .one (.val (.pointer (some ⟨cb, 0, none⟩)))] : List CV).map (CV.den ρ)).toArray w (GtR [s.blk cb] X r x A (rdFlag X r).2 (s.set x (rdFlag X r).1) ρ w) := by
 cases s
 case S =>
  refine Calls.of_F hF [.one (.ptr 0 0), .one (.ptr 1 0), .one (.val (.pointer (some ⟨cb, 0, none⟩)))] false Tryz.func207 kq kq (by simp [CV.wf, SV.wf, gtF, St.W]) ?_
  refine V.u ?_
  refine V.loadP 0 173 cb 0 [FSel.val .S] 173 (.one (FSel.val .S)) kq kq kq kq kq ?_
  refine V.u ?_
  refine V.callQ (FSel.fn .S) [.one (.ptr 1 0)] (.v (.one (.ptr 1 (0 + FSel.off .S)))) kq kq (fun ρ a w hS => fsel_calls .S (ρ 1) 0 w (hS.lt 1 (Nat.le_of_ble_eq_true kq))) ?_
  refine V.u ?_
  refine V.callW 208 [.one (.ptr 0 0)] [.one (.ptr 0 0)] [0] [] [false] (rdF [] X r) _ _ _ kq kq kq (fun _ => rfl) (fun _ => kq) (fun ρ w hF => rflag X r h ρ w hF) ?_
  rintro r1 rfl
  refine V.u ?_
  exact V.retF (⟨(rdFlag X r).2, FSel.set .S x (rdFlag X r).1, A⟩ : RSt × In × IA) [0, 1, 2] (.tup []) kq kq kq kq kq kq kq ⟨rfl, rfl⟩
 case R =>
  refine Calls.of_F hF [.one (.ptr 0 0), .one (.ptr 1 0), .one (.val (.pointer (some ⟨cb, 0, none⟩)))] false Tryz.func207 kq kq (by simp [CV.wf, SV.wf, gtF, St.W]) ?_
  refine V.u ?_
  refine V.loadP 0 173 cb 0 [FSel.val .R] 173 (.one (FSel.val .R)) kq kq kq kq kq ?_
  refine V.u ?_
  refine V.callQ (FSel.fn .R) [.one (.ptr 1 0)] (.v (.one (.ptr 1 (0 + FSel.off .R)))) kq kq (fun ρ a w hS => fsel_calls .R (ρ 1) 0 w (hS.lt 1 (Nat.le_of_ble_eq_true kq))) ?_
  refine V.u ?_
  refine V.callW 208 [.one (.ptr 0 0)] [.one (.ptr 0 0)] [0] [] [false] (rdF [] X r) _ _ _ kq kq kq (fun _ => rfl) (fun _ => kq) (fun ρ w hF => rflag X r h ρ w hF) ?_
  rintro r1 rfl
  refine V.u ?_
  exact V.retF (⟨(rdFlag X r).2, FSel.set .R x (rdFlag X r).1, A⟩ : RSt × In × IA) [0, 1, 2] (.tup []) kq kq kq kq kq kq kq ⟨rfl, rfl⟩
set_option maxHeartbeats 2000000 in
theorem flagMove (s : FSel) (x y : In) (A B : IA) (cb : Nat) (ρ : Nat → Nat) (w : World) (hF : FSat ρ (mvF [s.blk cb] y B) w) :
  Calls Tryz.prog 203 (([.one (.ptr 0 0), .agg (inV x A), .one (.val (.pointer (some ⟨cb, 0, none⟩)))] : List CV).map (CV.den ρ)).toArray w (MvR [s.blk cb] y B (s.set y (s.get x)) B ρ w) := by
 cases s
 case S =>
  refine Calls.of_F hF [.one (.ptr 0 0), .agg (inV x A), .one (.val (.pointer (some ⟨cb, 0, none⟩)))] false Tryz.func203 kq kq (by simp [CV.wf, SV.wf, mvF, St.W, inV, inC]) ?_
  refine V.u ?_
  refine V.blkIn 2 cb [FSel.val .S] 173 kq kq kq kq kq ?_
  refine V.draw2 8 (FSel.fn .S) [.one (.ptr 0 0)] (.v (.one (.ptr 0 (0 + FSel.off .S)))) (FSel.fn .S) [.one (.ptr 1 0)] (.v (.one (.ptr 1 (0 + FSel.off .S)))) kq kq kq kq (fun ρ a w hS => fsel_calls .S (ρ 0) 0 w (hS.lt 0 (Nat.le_of_ble_eq_true kq))) kq kq kq (fun ρ a w hS => fsel_calls .S (ρ 1) 0 w (hS.lt 1 (Nat.le_of_ble_eq_true kq))) kq ?_
  refine V.u ?_
  exact V.retF ((FSel.set .S y (FSel.get .S x), B) : In × IA) [] (.tup []) kq kq kq kq kq kq kq rfl
 case R =>
  refine Calls.of_F hF [.one (.ptr 0 0), .agg (inV x A), .one (.val (.pointer (some ⟨cb, 0, none⟩)))] false Tryz.func203 kq kq (by simp [CV.wf, SV.wf, mvF, St.W, inV, inC]) ?_
  refine V.u ?_
  refine V.blkIn 2 cb [FSel.val .R] 173 kq kq kq kq kq ?_
  refine V.draw2 8 (FSel.fn .R) [.one (.ptr 0 0)] (.v (.one (.ptr 0 (0 + FSel.off .R)))) (FSel.fn .R) [.one (.ptr 1 0)] (.v (.one (.ptr 1 (0 + FSel.off .R)))) kq kq kq kq (fun ρ a w hS => fsel_calls .R (ρ 0) 0 w (hS.lt 0 (Nat.le_of_ble_eq_true kq))) kq kq kq (fun ρ a w hS => fsel_calls .R (ρ 1) 0 w (hS.lt 1 (Nat.le_of_ble_eq_true kq))) kq ?_
  refine V.u ?_
  exact V.retF ((FSel.set .R y (FSel.get .R x), B) : In × IA) [] (.tup []) kq kq kq kq kq kq kq rfl
set_option maxHeartbeats 2000000 in
theorem flagParse (s : FSel) (l : List UInt8) (x : In) (A : IA) (cb : Nat) (ρ : Nat → Nat) (w : World) (hF : FSat ρ (psF [s.blk cb] x A) w) :
  Calls Tryz.prog 211 (([.one (.str l), .one (.ptr 0 0), .one (.val (.pointer (some ⟨cb, 0, none⟩)))] : List CV).map (CV.den ρ)).toArray w (PsR [s.blk cb] x A ((l == [48]) || (l == [49])) (s.set x (l == [49])) ρ w) := by
 cases s
 case S =>
  refine Calls.of_F hF [.one (.str l), .one (.ptr 0 0), .one (.val (.pointer (some ⟨cb, 0, none⟩)))] false Tryz.func211 kq kq (by simp [CV.wf, SV.wf, psF, St.W]) ?_
  refine V.u ?_
  refine V.loadP 0 173 cb 0 [FSel.val .S] 173 (.one (FSel.val .S)) kq kq kq kq kq ?_
  refine V.u ?_
  refine V.callQ (FSel.fn .S) [.one (.ptr 0 0)] (.v (.one (.ptr 0 (0 + FSel.off .S)))) kq kq (fun ρ a w hS => fsel_calls .S (ρ 0) 0 w (hS.lt 0 (Nat.le_of_ble_eq_true kq))) ?_
  refine V.u ?_
  exact V.retF ((FSel.set .S x (l == [49]), A) : In × IA) [0, 1, 2] (.v (.one (.sb ((l == [48]) || (l == [49]))))) kq kq kq kq kq kq kq rfl
 case R =>
  refine Calls.of_F hF [.one (.str l), .one (.ptr 0 0), .one (.val (.pointer (some ⟨cb, 0, none⟩)))] false Tryz.func211 kq kq (by simp [CV.wf, SV.wf, psF, St.W]) ?_
  refine V.u ?_
  refine V.loadP 0 173 cb 0 [FSel.val .R] 173 (.one (FSel.val .R)) kq kq kq kq kq ?_
  refine V.u ?_
  refine V.callQ (FSel.fn .R) [.one (.ptr 0 0)] (.v (.one (.ptr 0 (0 + FSel.off .R)))) kq kq (fun ρ a w hS => fsel_calls .R (ρ 0) 0 w (hS.lt 0 (Nat.le_of_ble_eq_true kq))) ?_
  refine V.u ?_
  exact V.retF ((FSel.set .R x (l == [49]), A) : In × IA) [0, 1, 2] (.v (.one (.sb ((l == [48]) || (l == [49]))))) kq kq kq kq kq kq kq rfl
def isPl (n : Int) : Bool := decide (n ≥ 0) && decide (n ≤ 1048576)
set_option maxHeartbeats 2000000 in
theorem plFine (s : Sel) (x : In) (A : IA) (cb : Nat) (w : World) (hp : PersOk [s.blk cb] w) :
  Calls Tryz.prog 212 (([.agg (inV x A), .one (.val (.pointer (some ⟨cb, 0, none⟩)))] : List CV).map (CV.den fun _ => 0)).toArray w (Gives (.bool (isPl (s.get x))) w) := by
 cases s
 case D =>
  refine Calls.of_P _ hp [.agg (inV x A), .one (.val (.pointer (some ⟨cb, 0, none⟩)))] false Tryz.func212 kq kq kq ?_
  refine V.u ?_
  refine V.loadP 0 159 cb 0 [Sel.val .D] 159 (.one (Sel.val .D)) kq kq kq kq kq ?_
  refine V.u ?_
  refine V.callQ (Sel.fn .D) [.one (.ptr 0 0)] (.v (.one (.ptr 0 (0 + Sel.off .D)))) kq kq (fun ρ a w hS => sel_calls .D (ρ 0) 0 w (hS.lt 0 (Nat.le_of_ble_eq_true kq))) ?_
  refine V.u ?_
  refine V.split 9 (decide (Sel.get .D x ≥ 0)) kq (fun hb => ?_) (fun hb => ?_)
  ·have e : isPl (Sel.get .D x) = decide (Sel.get .D x ≤ 1048576) := by simp only [isPl, hb, Bool.true_and]
   rw [e]
   refine V.u ?_
   refine V.loadP 0 159 cb 0 [Sel.val .D] 159 (.one (Sel.val .D)) kq kq kq kq kq ?_
   refine V.u ?_
   refine V.callQ (Sel.fn .D) [.one (.ptr 0 0)] (.v (.one (.ptr 0 (0 + Sel.off .D)))) kq kq (fun ρ a w hS => sel_calls .D (ρ 0) 0 w (hS.lt 0 (Nat.le_of_ble_eq_true kq))) ?_
   refine V.u ?_
   exact V.ret (.v (.one (.sb (decide (Sel.get .D x ≤ 1048576))))) kq kq (fun ρ a w hS => ⟨rfl, hS.chg⟩)
  ·have e : isPl (Sel.get .D x) = false := by simp only [isPl, hb, Bool.false_and]
   rw [e]
   refine V.u ?_
   exact V.ret (.v (.one (.bool false))) kq kq (fun ρ a w hS => ⟨rfl, hS.chg⟩)
 case A =>
  refine Calls.of_P _ hp [.agg (inV x A), .one (.val (.pointer (some ⟨cb, 0, none⟩)))] false Tryz.func212 kq kq kq ?_
  refine V.u ?_
  refine V.loadP 0 159 cb 0 [Sel.val .A] 159 (.one (Sel.val .A)) kq kq kq kq kq ?_
  refine V.u ?_
  refine V.callQ (Sel.fn .A) [.one (.ptr 0 0)] (.v (.one (.ptr 0 (0 + Sel.off .A)))) kq kq (fun ρ a w hS => sel_calls .A (ρ 0) 0 w (hS.lt 0 (Nat.le_of_ble_eq_true kq))) ?_
  refine V.u ?_
  refine V.split 9 (decide (Sel.get .A x ≥ 0)) kq (fun hb => ?_) (fun hb => ?_)
  ·have e : isPl (Sel.get .A x) = decide (Sel.get .A x ≤ 1048576) := by simp only [isPl, hb, Bool.true_and]
   rw [e]
   refine V.u ?_
   refine V.loadP 0 159 cb 0 [Sel.val .A] 159 (.one (Sel.val .A)) kq kq kq kq kq ?_
   refine V.u ?_
   refine V.callQ (Sel.fn .A) [.one (.ptr 0 0)] (.v (.one (.ptr 0 (0 + Sel.off .A)))) kq kq (fun ρ a w hS => sel_calls .A (ρ 0) 0 w (hS.lt 0 (Nat.le_of_ble_eq_true kq))) ?_
   refine V.u ?_
   exact V.ret (.v (.one (.sb (decide (Sel.get .A x ≤ 1048576))))) kq kq (fun ρ a w hS => ⟨rfl, hS.chg⟩)
  ·have e : isPl (Sel.get .A x) = false := by simp only [isPl, hb, Bool.false_and]
   rw [e]
   refine V.u ?_
   exact V.ret (.v (.one (.bool false))) kq kq (fun ρ a w hS => ⟨rfl, hS.chg⟩)
 case B =>
  refine Calls.of_P _ hp [.agg (inV x A), .one (.val (.pointer (some ⟨cb, 0, none⟩)))] false Tryz.func212 kq kq kq ?_
  refine V.u ?_
  refine V.loadP 0 159 cb 0 [Sel.val .B] 159 (.one (Sel.val .B)) kq kq kq kq kq ?_
  refine V.u ?_
  refine V.callQ (Sel.fn .B) [.one (.ptr 0 0)] (.v (.one (.ptr 0 (0 + Sel.off .B)))) kq kq (fun ρ a w hS => sel_calls .B (ρ 0) 0 w (hS.lt 0 (Nat.le_of_ble_eq_true kq))) ?_
  refine V.u ?_
  refine V.split 9 (decide (Sel.get .B x ≥ 0)) kq (fun hb => ?_) (fun hb => ?_)
  ·have e : isPl (Sel.get .B x) = decide (Sel.get .B x ≤ 1048576) := by simp only [isPl, hb, Bool.true_and]
   rw [e]
   refine V.u ?_
   refine V.loadP 0 159 cb 0 [Sel.val .B] 159 (.one (Sel.val .B)) kq kq kq kq kq ?_
   refine V.u ?_
   refine V.callQ (Sel.fn .B) [.one (.ptr 0 0)] (.v (.one (.ptr 0 (0 + Sel.off .B)))) kq kq (fun ρ a w hS => sel_calls .B (ρ 0) 0 w (hS.lt 0 (Nat.le_of_ble_eq_true kq))) ?_
   refine V.u ?_
   exact V.ret (.v (.one (.sb (decide (Sel.get .B x ≤ 1048576))))) kq kq (fun ρ a w hS => ⟨rfl, hS.chg⟩)
  ·have e : isPl (Sel.get .B x) = false := by simp only [isPl, hb, Bool.false_and]
   rw [e]
   refine V.u ?_
   exact V.ret (.v (.one (.bool false))) kq kq (fun ρ a w hS => ⟨rfl, hS.chg⟩)
 case N =>
  refine Calls.of_P _ hp [.agg (inV x A), .one (.val (.pointer (some ⟨cb, 0, none⟩)))] false Tryz.func212 kq kq kq ?_
  refine V.u ?_
  refine V.loadP 0 159 cb 0 [Sel.val .N] 159 (.one (Sel.val .N)) kq kq kq kq kq ?_
  refine V.u ?_
  refine V.callQ (Sel.fn .N) [.one (.ptr 0 0)] (.v (.one (.ptr 0 (0 + Sel.off .N)))) kq kq (fun ρ a w hS => sel_calls .N (ρ 0) 0 w (hS.lt 0 (Nat.le_of_ble_eq_true kq))) ?_
  refine V.u ?_
  refine V.split 9 (decide (Sel.get .N x ≥ 0)) kq (fun hb => ?_) (fun hb => ?_)
  ·have e : isPl (Sel.get .N x) = decide (Sel.get .N x ≤ 1048576) := by simp only [isPl, hb, Bool.true_and]
   rw [e]
   refine V.u ?_
   refine V.loadP 0 159 cb 0 [Sel.val .N] 159 (.one (Sel.val .N)) kq kq kq kq kq ?_
   refine V.u ?_
   refine V.callQ (Sel.fn .N) [.one (.ptr 0 0)] (.v (.one (.ptr 0 (0 + Sel.off .N)))) kq kq (fun ρ a w hS => sel_calls .N (ρ 0) 0 w (hS.lt 0 (Nat.le_of_ble_eq_true kq))) ?_
   refine V.u ?_
   exact V.ret (.v (.one (.sb (decide (Sel.get .N x ≤ 1048576))))) kq kq (fun ρ a w hS => ⟨rfl, hS.chg⟩)
  ·have e : isPl (Sel.get .N x) = false := by simp only [isPl, hb, Bool.false_and]
   rw [e]
   refine V.u ?_
   exact V.ret (.v (.one (.bool false))) kq kq (fun ρ a w hS => ⟨rfl, hS.chg⟩)
 case M =>
  refine Calls.of_P _ hp [.agg (inV x A), .one (.val (.pointer (some ⟨cb, 0, none⟩)))] false Tryz.func212 kq kq kq ?_
  refine V.u ?_
  refine V.loadP 0 159 cb 0 [Sel.val .M] 159 (.one (Sel.val .M)) kq kq kq kq kq ?_
  refine V.u ?_
  refine V.callQ (Sel.fn .M) [.one (.ptr 0 0)] (.v (.one (.ptr 0 (0 + Sel.off .M)))) kq kq (fun ρ a w hS => sel_calls .M (ρ 0) 0 w (hS.lt 0 (Nat.le_of_ble_eq_true kq))) ?_
  refine V.u ?_
  refine V.split 9 (decide (Sel.get .M x ≥ 0)) kq (fun hb => ?_) (fun hb => ?_)
  ·have e : isPl (Sel.get .M x) = decide (Sel.get .M x ≤ 1048576) := by simp only [isPl, hb, Bool.true_and]
   rw [e]
   refine V.u ?_
   refine V.loadP 0 159 cb 0 [Sel.val .M] 159 (.one (Sel.val .M)) kq kq kq kq kq ?_
   refine V.u ?_
   refine V.callQ (Sel.fn .M) [.one (.ptr 0 0)] (.v (.one (.ptr 0 (0 + Sel.off .M)))) kq kq (fun ρ a w hS => sel_calls .M (ρ 0) 0 w (hS.lt 0 (Nat.le_of_ble_eq_true kq))) ?_
   refine V.u ?_
   exact V.ret (.v (.one (.sb (decide (Sel.get .M x ≤ 1048576))))) kq kq (fun ρ a w hS => ⟨rfl, hS.chg⟩)
  ·have e : isPl (Sel.get .M x) = false := by simp only [isPl, hb, Bool.false_and]
   rw [e]
   refine V.u ?_
   exact V.ret (.v (.one (.bool false))) kq kq (fun ρ a w hS => ⟨rfl, hS.chg⟩)
 case P =>
  refine Calls.of_P _ hp [.agg (inV x A), .one (.val (.pointer (some ⟨cb, 0, none⟩)))] false Tryz.func212 kq kq kq ?_
  refine V.u ?_
  refine V.loadP 0 159 cb 0 [Sel.val .P] 159 (.one (Sel.val .P)) kq kq kq kq kq ?_
  refine V.u ?_
  refine V.callQ (Sel.fn .P) [.one (.ptr 0 0)] (.v (.one (.ptr 0 (0 + Sel.off .P)))) kq kq (fun ρ a w hS => sel_calls .P (ρ 0) 0 w (hS.lt 0 (Nat.le_of_ble_eq_true kq))) ?_
  refine V.u ?_
  refine V.split 9 (decide (Sel.get .P x ≥ 0)) kq (fun hb => ?_) (fun hb => ?_)
  ·have e : isPl (Sel.get .P x) = decide (Sel.get .P x ≤ 1048576) := by simp only [isPl, hb, Bool.true_and]
   rw [e]
   refine V.u ?_
   refine V.loadP 0 159 cb 0 [Sel.val .P] 159 (.one (Sel.val .P)) kq kq kq kq kq ?_
   refine V.u ?_
   refine V.callQ (Sel.fn .P) [.one (.ptr 0 0)] (.v (.one (.ptr 0 (0 + Sel.off .P)))) kq kq (fun ρ a w hS => sel_calls .P (ρ 0) 0 w (hS.lt 0 (Nat.le_of_ble_eq_true kq))) ?_
   refine V.u ?_
   exact V.ret (.v (.one (.sb (decide (Sel.get .P x ≤ 1048576))))) kq kq (fun ρ a w hS => ⟨rfl, hS.chg⟩)
  ·have e : isPl (Sel.get .P x) = false := by simp only [isPl, hb, Bool.false_and]
   rw [e]
   refine V.u ?_
   exact V.ret (.v (.one (.bool false))) kq kq (fun ρ a w hS => ⟨rfl, hS.chg⟩)
set_option maxHeartbeats 2000000 in
theorem plPut (s : Sel) (x : In) (A : IA) (cb : Nat) (b : WSt) (hb : b.bs.length ≤ 800000000) (ρ : Nat → Nat) (w : World) (hF : FSat ρ (wrF [s.blk cb] b) w) :
  Calls Tryz.prog 213 (([.one (.ptr 0 0), .agg (inV x A), .one (.val (.pointer (some ⟨cb, 0, none⟩)))] : List CV).map (CV.den ρ)).toArray w (WrR [s.blk cb] b (fourB (s.get x)) [] ρ w) := by
 cases s
 case D =>
  refine Calls.of_F hF [.one (.ptr 0 0), .agg (inV x A), .one (.val (.pointer (some ⟨cb, 0, none⟩)))] false Tryz.func213 kq kq (by simp [CV.wf, SV.wf, wrF, St.W, inV, inC]) ?_
  refine V.u ?_
  refine V.loadP 0 159 cb 0 [Sel.val .D] 159 (.one (Sel.val .D)) kq kq kq kq kq ?_
  refine V.u ?_
  refine V.callQ (Sel.fn .D) [.one (.ptr 1 0)] (.v (.one (.ptr 1 (0 + Sel.off .D)))) kq kq (fun ρ a w hS => sel_calls .D (ρ 1) 0 w (hS.lt 1 (Nat.le_of_ble_eq_true kq))) ?_
  refine V.u ?_
  refine V.callW 214 [.one (.ptr 0 0), .one (.int .i64 (Sel.get .D x))] [.one (.ptr 0 0), .one (.int .i64 (Sel.get .D x))] [0] [0, 1] [false] (wrF [] b) _ _ _ kq kq kq (fun _ => rfl) (fun _ => kq) (fun ρ w hF => wfour _ b (by omega) ρ w hF) ?_
  intro b1 e1
  refine V.u ?_
  exact V.retF (⟨b1.bs, b1.q, b1.c, b1.rs, b1.q2, b1.c2⟩ : WSt) [2, 3] (.tup []) kq kq kq kq kq kq kq ⟨e1.1, e1.2⟩
 case A =>
  refine Calls.of_F hF [.one (.ptr 0 0), .agg (inV x A), .one (.val (.pointer (some ⟨cb, 0, none⟩)))] false Tryz.func213 kq kq (by simp [CV.wf, SV.wf, wrF, St.W, inV, inC]) ?_
  refine V.u ?_
  refine V.loadP 0 159 cb 0 [Sel.val .A] 159 (.one (Sel.val .A)) kq kq kq kq kq ?_
  refine V.u ?_
  refine V.callQ (Sel.fn .A) [.one (.ptr 1 0)] (.v (.one (.ptr 1 (0 + Sel.off .A)))) kq kq (fun ρ a w hS => sel_calls .A (ρ 1) 0 w (hS.lt 1 (Nat.le_of_ble_eq_true kq))) ?_
  refine V.u ?_
  refine V.callW 214 [.one (.ptr 0 0), .one (.int .i64 (Sel.get .A x))] [.one (.ptr 0 0), .one (.int .i64 (Sel.get .A x))] [0] [0, 1] [false] (wrF [] b) _ _ _ kq kq kq (fun _ => rfl) (fun _ => kq) (fun ρ w hF => wfour _ b (by omega) ρ w hF) ?_
  intro b1 e1
  refine V.u ?_
  exact V.retF (⟨b1.bs, b1.q, b1.c, b1.rs, b1.q2, b1.c2⟩ : WSt) [2, 3] (.tup []) kq kq kq kq kq kq kq ⟨e1.1, e1.2⟩
 case B =>
  refine Calls.of_F hF [.one (.ptr 0 0), .agg (inV x A), .one (.val (.pointer (some ⟨cb, 0, none⟩)))] false Tryz.func213 kq kq (by simp [CV.wf, SV.wf, wrF, St.W, inV, inC]) ?_
  refine V.u ?_
  refine V.loadP 0 159 cb 0 [Sel.val .B] 159 (.one (Sel.val .B)) kq kq kq kq kq ?_
  refine V.u ?_
  refine V.callQ (Sel.fn .B) [.one (.ptr 1 0)] (.v (.one (.ptr 1 (0 + Sel.off .B)))) kq kq (fun ρ a w hS => sel_calls .B (ρ 1) 0 w (hS.lt 1 (Nat.le_of_ble_eq_true kq))) ?_
  refine V.u ?_
  refine V.callW 214 [.one (.ptr 0 0), .one (.int .i64 (Sel.get .B x))] [.one (.ptr 0 0), .one (.int .i64 (Sel.get .B x))] [0] [0, 1] [false] (wrF [] b) _ _ _ kq kq kq (fun _ => rfl) (fun _ => kq) (fun ρ w hF => wfour _ b (by omega) ρ w hF) ?_
  intro b1 e1
  refine V.u ?_
  exact V.retF (⟨b1.bs, b1.q, b1.c, b1.rs, b1.q2, b1.c2⟩ : WSt) [2, 3] (.tup []) kq kq kq kq kq kq kq ⟨e1.1, e1.2⟩
 case N =>
  refine Calls.of_F hF [.one (.ptr 0 0), .agg (inV x A), .one (.val (.pointer (some ⟨cb, 0, none⟩)))] false Tryz.func213 kq kq (by simp [CV.wf, SV.wf, wrF, St.W, inV, inC]) ?_
  refine V.u ?_
  refine V.loadP 0 159 cb 0 [Sel.val .N] 159 (.one (Sel.val .N)) kq kq kq kq kq ?_
  refine V.u ?_
  refine V.callQ (Sel.fn .N) [.one (.ptr 1 0)] (.v (.one (.ptr 1 (0 + Sel.off .N)))) kq kq (fun ρ a w hS => sel_calls .N (ρ 1) 0 w (hS.lt 1 (Nat.le_of_ble_eq_true kq))) ?_
  refine V.u ?_
  refine V.callW 214 [.one (.ptr 0 0), .one (.int .i64 (Sel.get .N x))] [.one (.ptr 0 0), .one (.int .i64 (Sel.get .N x))] [0] [0, 1] [false] (wrF [] b) _ _ _ kq kq kq (fun _ => rfl) (fun _ => kq) (fun ρ w hF => wfour _ b (by omega) ρ w hF) ?_
  intro b1 e1
  refine V.u ?_
  exact V.retF (⟨b1.bs, b1.q, b1.c, b1.rs, b1.q2, b1.c2⟩ : WSt) [2, 3] (.tup []) kq kq kq kq kq kq kq ⟨e1.1, e1.2⟩
 case M =>
  refine Calls.of_F hF [.one (.ptr 0 0), .agg (inV x A), .one (.val (.pointer (some ⟨cb, 0, none⟩)))] false Tryz.func213 kq kq (by simp [CV.wf, SV.wf, wrF, St.W, inV, inC]) ?_
  refine V.u ?_
  refine V.loadP 0 159 cb 0 [Sel.val .M] 159 (.one (Sel.val .M)) kq kq kq kq kq ?_
  refine V.u ?_
  refine V.callQ (Sel.fn .M) [.one (.ptr 1 0)] (.v (.one (.ptr 1 (0 + Sel.off .M)))) kq kq (fun ρ a w hS => sel_calls .M (ρ 1) 0 w (hS.lt 1 (Nat.le_of_ble_eq_true kq))) ?_
  refine V.u ?_
  refine V.callW 214 [.one (.ptr 0 0), .one (.int .i64 (Sel.get .M x))] [.one (.ptr 0 0), .one (.int .i64 (Sel.get .M x))] [0] [0, 1] [false] (wrF [] b) _ _ _ kq kq kq (fun _ => rfl) (fun _ => kq) (fun ρ w hF => wfour _ b (by omega) ρ w hF) ?_
  intro b1 e1
  refine V.u ?_
  exact V.retF (⟨b1.bs, b1.q, b1.c, b1.rs, b1.q2, b1.c2⟩ : WSt) [2, 3] (.tup []) kq kq kq kq kq kq kq ⟨e1.1, e1.2⟩
 case P =>
  refine Calls.of_F hF [.one (.ptr 0 0), .agg (inV x A), .one (.val (.pointer (some ⟨cb, 0, none⟩)))] false Tryz.func213 kq kq (by simp [CV.wf, SV.wf, wrF, St.W, inV, inC]) ?_
  refine V.u ?_
  refine V.loadP 0 159 cb 0 [Sel.val .P] 159 (.one (Sel.val .P)) kq kq kq kq kq ?_
  refine V.u ?_
  refine V.callQ (Sel.fn .P) [.one (.ptr 1 0)] (.v (.one (.ptr 1 (0 + Sel.off .P)))) kq kq (fun ρ a w hS => sel_calls .P (ρ 1) 0 w (hS.lt 1 (Nat.le_of_ble_eq_true kq))) ?_
  refine V.u ?_
  refine V.callW 214 [.one (.ptr 0 0), .one (.int .i64 (Sel.get .P x))] [.one (.ptr 0 0), .one (.int .i64 (Sel.get .P x))] [0] [0, 1] [false] (wrF [] b) _ _ _ kq kq kq (fun _ => rfl) (fun _ => kq) (fun ρ w hF => wfour _ b (by omega) ρ w hF) ?_
  intro b1 e1
  refine V.u ?_
  exact V.retF (⟨b1.bs, b1.q, b1.c, b1.rs, b1.q2, b1.c2⟩ : WSt) [2, 3] (.tup []) kq kq kq kq kq kq kq ⟨e1.1, e1.2⟩
set_option maxHeartbeats 2000000 in
theorem plGet (s : Sel) (X : RIn) (r : RSt) (x : In) (A : IA) (cb : Nat) (h : okIn X r) (ρ : Nat → Nat) (w : World) (hF : FSat ρ (gtF [s.blk cb] X r x A) w) :
  Calls Tryz.prog 215 (([.one (.ptr 0 0), .one (.ptr 1 0), .one (.val (.pointer (some ⟨cb, 0, none⟩)))] : List CV).map (CV.den ρ)).toArray w (GtR [s.blk cb] X r x A (rdFour X r).2 (s.set x (rdFour X r).1) ρ w) := by
 cases s
 case D =>
  refine Calls.of_F hF [.one (.ptr 0 0), .one (.ptr 1 0), .one (.val (.pointer (some ⟨cb, 0, none⟩)))] false Tryz.func215 kq kq (by simp [CV.wf, SV.wf, gtF, St.W]) ?_
  refine V.u ?_
  refine V.loadP 0 159 cb 0 [Sel.val .D] 159 (.one (Sel.val .D)) kq kq kq kq kq ?_
  refine V.u ?_
  refine V.callQ (Sel.fn .D) [.one (.ptr 1 0)] (.v (.one (.ptr 1 (0 + Sel.off .D)))) kq kq (fun ρ a w hS => sel_calls .D (ρ 1) 0 w (hS.lt 1 (Nat.le_of_ble_eq_true kq))) ?_
  refine V.u ?_
  refine V.callW 216 [.one (.ptr 0 0)] [.one (.ptr 0 0)] [0] [] [false] (rdF [] X r) _ _ _ kq kq kq (fun _ => rfl) (fun _ => kq) (fun ρ w hF => rfour X r h ρ w hF) ?_
  rintro r1 rfl
  refine V.u ?_
  exact V.retF (⟨(rdFour X r).2, Sel.set .D x (rdFour X r).1, A⟩ : RSt × In × IA) [0, 1, 2] (.tup []) kq kq kq kq kq kq kq ⟨rfl, rfl⟩
 case A =>
  refine Calls.of_F hF [.one (.ptr 0 0), .one (.ptr 1 0), .one (.val (.pointer (some ⟨cb, 0, none⟩)))] false Tryz.func215 kq kq (by simp [CV.wf, SV.wf, gtF, St.W]) ?_
  refine V.u ?_
  refine V.loadP 0 159 cb 0 [Sel.val .A] 159 (.one (Sel.val .A)) kq kq kq kq kq ?_
  refine V.u ?_
  refine V.callQ (Sel.fn .A) [.one (.ptr 1 0)] (.v (.one (.ptr 1 (0 + Sel.off .A)))) kq kq (fun ρ a w hS => sel_calls .A (ρ 1) 0 w (hS.lt 1 (Nat.le_of_ble_eq_true kq))) ?_
  refine V.u ?_
  refine V.callW 216 [.one (.ptr 0 0)] [.one (.ptr 0 0)] [0] [] [false] (rdF [] X r) _ _ _ kq kq kq (fun _ => rfl) (fun _ => kq) (fun ρ w hF => rfour X r h ρ w hF) ?_
  rintro r1 rfl
  refine V.u ?_
  exact V.retF (⟨(rdFour X r).2, Sel.set .A x (rdFour X r).1, A⟩ : RSt × In × IA) [0, 1, 2] (.tup []) kq kq kq kq kq kq kq ⟨rfl, rfl⟩
 case B =>
  refine Calls.of_F hF [.one (.ptr 0 0), .one (.ptr 1 0), .one (.val (.pointer (some ⟨cb, 0, none⟩)))] false Tryz.func215 kq kq (by simp [CV.wf, SV.wf, gtF, St.W]) ?_
  refine V.u ?_
  refine V.loadP 0 159 cb 0 [Sel.val .B] 159 (.one (Sel.val .B)) kq kq kq kq kq ?_
  refine V.u ?_
  refine V.callQ (Sel.fn .B) [.one (.ptr 1 0)] (.v (.one (.ptr 1 (0 + Sel.off .B)))) kq kq (fun ρ a w hS => sel_calls .B (ρ 1) 0 w (hS.lt 1 (Nat.le_of_ble_eq_true kq))) ?_
  refine V.u ?_
  refine V.callW 216 [.one (.ptr 0 0)] [.one (.ptr 0 0)] [0] [] [false] (rdF [] X r) _ _ _ kq kq kq (fun _ => rfl) (fun _ => kq) (fun ρ w hF => rfour X r h ρ w hF) ?_
  rintro r1 rfl
  refine V.u ?_
  exact V.retF (⟨(rdFour X r).2, Sel.set .B x (rdFour X r).1, A⟩ : RSt × In × IA) [0, 1, 2] (.tup []) kq kq kq kq kq kq kq ⟨rfl, rfl⟩
 case N =>
  refine Calls.of_F hF [.one (.ptr 0 0), .one (.ptr 1 0), .one (.val (.pointer (some ⟨cb, 0, none⟩)))] false Tryz.func215 kq kq (by simp [CV.wf, SV.wf, gtF, St.W]) ?_
  refine V.u ?_
  refine V.loadP 0 159 cb 0 [Sel.val .N] 159 (.one (Sel.val .N)) kq kq kq kq kq ?_
  refine V.u ?_
  refine V.callQ (Sel.fn .N) [.one (.ptr 1 0)] (.v (.one (.ptr 1 (0 + Sel.off .N)))) kq kq (fun ρ a w hS => sel_calls .N (ρ 1) 0 w (hS.lt 1 (Nat.le_of_ble_eq_true kq))) ?_
  refine V.u ?_
  refine V.callW 216 [.one (.ptr 0 0)] [.one (.ptr 0 0)] [0] [] [false] (rdF [] X r) _ _ _ kq kq kq (fun _ => rfl) (fun _ => kq) (fun ρ w hF => rfour X r h ρ w hF) ?_
  rintro r1 rfl
  refine V.u ?_
  exact V.retF (⟨(rdFour X r).2, Sel.set .N x (rdFour X r).1, A⟩ : RSt × In × IA) [0, 1, 2] (.tup []) kq kq kq kq kq kq kq ⟨rfl, rfl⟩
 case M =>
  refine Calls.of_F hF [.one (.ptr 0 0), .one (.ptr 1 0), .one (.val (.pointer (some ⟨cb, 0, none⟩)))] false Tryz.func215 kq kq (by simp [CV.wf, SV.wf, gtF, St.W]) ?_
  refine V.u ?_
  refine V.loadP 0 159 cb 0 [Sel.val .M] 159 (.one (Sel.val .M)) kq kq kq kq kq ?_
  refine V.u ?_
  refine V.callQ (Sel.fn .M) [.one (.ptr 1 0)] (.v (.one (.ptr 1 (0 + Sel.off .M)))) kq kq (fun ρ a w hS => sel_calls .M (ρ 1) 0 w (hS.lt 1 (Nat.le_of_ble_eq_true kq))) ?_
  refine V.u ?_
  refine V.callW 216 [.one (.ptr 0 0)] [.one (.ptr 0 0)] [0] [] [false] (rdF [] X r) _ _ _ kq kq kq (fun _ => rfl) (fun _ => kq) (fun ρ w hF => rfour X r h ρ w hF) ?_
  rintro r1 rfl
  refine V.u ?_
  exact V.retF (⟨(rdFour X r).2, Sel.set .M x (rdFour X r).1, A⟩ : RSt × In × IA) [0, 1, 2] (.tup []) kq kq kq kq kq kq kq ⟨rfl, rfl⟩
 case P =>
  refine Calls.of_F hF [.one (.ptr 0 0), .one (.ptr 1 0), .one (.val (.pointer (some ⟨cb, 0, none⟩)))] false Tryz.func215 kq kq (by simp [CV.wf, SV.wf, gtF, St.W]) ?_
  refine V.u ?_
  refine V.loadP 0 159 cb 0 [Sel.val .P] 159 (.one (Sel.val .P)) kq kq kq kq kq ?_
  refine V.u ?_
  refine V.callQ (Sel.fn .P) [.one (.ptr 1 0)] (.v (.one (.ptr 1 (0 + Sel.off .P)))) kq kq (fun ρ a w hS => sel_calls .P (ρ 1) 0 w (hS.lt 1 (Nat.le_of_ble_eq_true kq))) ?_
  refine V.u ?_
  refine V.callW 216 [.one (.ptr 0 0)] [.one (.ptr 0 0)] [0] [] [false] (rdF [] X r) _ _ _ kq kq kq (fun _ => rfl) (fun _ => kq) (fun ρ w hF => rfour X r h ρ w hF) ?_
  rintro r1 rfl
  refine V.u ?_
  exact V.retF (⟨(rdFour X r).2, Sel.set .P x (rdFour X r).1, A⟩ : RSt × In × IA) [0, 1, 2] (.tup []) kq kq kq kq kq kq kq ⟨rfl, rfl⟩
set_option maxHeartbeats 2000000 in
theorem plText (s : Sel) (x : In) (A : IA) (cb : Nat) (hx : int64 (s.get x)) (hl : (Lib.itoa (s.get x)).length ≤ 100) (w : World) (hp : PersOk [tabP, s.blk cb] w) :
  Calls Tryz.prog 217 (([.agg (inV x A), .one (.val (.pointer (some ⟨cb, 0, none⟩)))] : List CV).map (CV.den fun _ => 0)).toArray w (Gives (.string ⟨(64 :: Lib.itoa (s.get x)).toArray⟩) w) := by
 cases s
 case D =>
  refine Calls.of_P _ hp [.agg (inV x A), .one (.val (.pointer (some ⟨cb, 0, none⟩)))] false Tryz.func217 kq kq kq ?_
  refine V.u ?_
  refine V.loadP 1 159 cb 0 [Sel.val .D] 159 (.one (Sel.val .D)) kq kq kq kq kq ?_
  refine V.u ?_
  refine V.callQ (Sel.fn .D) [.one (.ptr 0 0)] (.v (.one (.ptr 0 (0 + Sel.off .D)))) kq kq (fun ρ a w hS => sel_calls .D (ρ 0) 0 w (hS.lt 0 (Nat.le_of_ble_eq_true kq))) ?_
  refine V.u ?_
  refine V.callP 123 [.one (.int .i64 (Sel.get .D x))] (.v (.one (.str (Lib.itoa (Sel.get .D x))))) kq kq (fun ρ a w hS => itoa_calls _ hx.1 hx.2 w (hS.pers tabP (List.mem_of_getElem? (i := 0) kq)).1) ?_
  refine V.run 100 [(1 + (Lib.itoa (Sel.get .D x)).length : Nat) ≤ 9223372036854775807] kq (by simp only [allP]; omega) ?_
  exact V.ret (.v (.one (.str ([64] ++ Lib.itoa (Sel.get .D x))))) kq kq (fun ρ a w hS => ⟨rfl, hS.chg⟩)
 case A =>
  refine Calls.of_P _ hp [.agg (inV x A), .one (.val (.pointer (some ⟨cb, 0, none⟩)))] false Tryz.func217 kq kq kq ?_
  refine V.u ?_
  refine V.loadP 1 159 cb 0 [Sel.val .A] 159 (.one (Sel.val .A)) kq kq kq kq kq ?_
  refine V.u ?_
  refine V.callQ (Sel.fn .A) [.one (.ptr 0 0)] (.v (.one (.ptr 0 (0 + Sel.off .A)))) kq kq (fun ρ a w hS => sel_calls .A (ρ 0) 0 w (hS.lt 0 (Nat.le_of_ble_eq_true kq))) ?_
  refine V.u ?_
  refine V.callP 123 [.one (.int .i64 (Sel.get .A x))] (.v (.one (.str (Lib.itoa (Sel.get .A x))))) kq kq (fun ρ a w hS => itoa_calls _ hx.1 hx.2 w (hS.pers tabP (List.mem_of_getElem? (i := 0) kq)).1) ?_
  refine V.run 100 [(1 + (Lib.itoa (Sel.get .A x)).length : Nat) ≤ 9223372036854775807] kq (by simp only [allP]; omega) ?_
  exact V.ret (.v (.one (.str ([64] ++ Lib.itoa (Sel.get .A x))))) kq kq (fun ρ a w hS => ⟨rfl, hS.chg⟩)
 case B =>
  refine Calls.of_P _ hp [.agg (inV x A), .one (.val (.pointer (some ⟨cb, 0, none⟩)))] false Tryz.func217 kq kq kq ?_
  refine V.u ?_
  refine V.loadP 1 159 cb 0 [Sel.val .B] 159 (.one (Sel.val .B)) kq kq kq kq kq ?_
  refine V.u ?_
  refine V.callQ (Sel.fn .B) [.one (.ptr 0 0)] (.v (.one (.ptr 0 (0 + Sel.off .B)))) kq kq (fun ρ a w hS => sel_calls .B (ρ 0) 0 w (hS.lt 0 (Nat.le_of_ble_eq_true kq))) ?_
  refine V.u ?_
  refine V.callP 123 [.one (.int .i64 (Sel.get .B x))] (.v (.one (.str (Lib.itoa (Sel.get .B x))))) kq kq (fun ρ a w hS => itoa_calls _ hx.1 hx.2 w (hS.pers tabP (List.mem_of_getElem? (i := 0) kq)).1) ?_
  refine V.run 100 [(1 + (Lib.itoa (Sel.get .B x)).length : Nat) ≤ 9223372036854775807] kq (by simp only [allP]; omega) ?_
  exact V.ret (.v (.one (.str ([64] ++ Lib.itoa (Sel.get .B x))))) kq kq (fun ρ a w hS => ⟨rfl, hS.chg⟩)
 case N =>
  refine Calls.of_P _ hp [.agg (inV x A), .one (.val (.pointer (some ⟨cb, 0, none⟩)))] false Tryz.func217 kq kq kq ?_
  refine V.u ?_
  refine V.loadP 1 159 cb 0 [Sel.val .N] 159 (.one (Sel.val .N)) kq kq kq kq kq ?_
  refine V.u ?_
  refine V.callQ (Sel.fn .N) [.one (.ptr 0 0)] (.v (.one (.ptr 0 (0 + Sel.off .N)))) kq kq (fun ρ a w hS => sel_calls .N (ρ 0) 0 w (hS.lt 0 (Nat.le_of_ble_eq_true kq))) ?_
  refine V.u ?_
  refine V.callP 123 [.one (.int .i64 (Sel.get .N x))] (.v (.one (.str (Lib.itoa (Sel.get .N x))))) kq kq (fun ρ a w hS => itoa_calls _ hx.1 hx.2 w (hS.pers tabP (List.mem_of_getElem? (i := 0) kq)).1) ?_
  refine V.run 100 [(1 + (Lib.itoa (Sel.get .N x)).length : Nat) ≤ 9223372036854775807] kq (by simp only [allP]; omega) ?_
  exact V.ret (.v (.one (.str ([64] ++ Lib.itoa (Sel.get .N x))))) kq kq (fun ρ a w hS => ⟨rfl, hS.chg⟩)
 case M =>
  refine Calls.of_P _ hp [.agg (inV x A), .one (.val (.pointer (some ⟨cb, 0, none⟩)))] false Tryz.func217 kq kq kq ?_
  refine V.u ?_
  refine V.loadP 1 159 cb 0 [Sel.val .M] 159 (.one (Sel.val .M)) kq kq kq kq kq ?_
  refine V.u ?_
  refine V.callQ (Sel.fn .M) [.one (.ptr 0 0)] (.v (.one (.ptr 0 (0 + Sel.off .M)))) kq kq (fun ρ a w hS => sel_calls .M (ρ 0) 0 w (hS.lt 0 (Nat.le_of_ble_eq_true kq))) ?_
  refine V.u ?_
  refine V.callP 123 [.one (.int .i64 (Sel.get .M x))] (.v (.one (.str (Lib.itoa (Sel.get .M x))))) kq kq (fun ρ a w hS => itoa_calls _ hx.1 hx.2 w (hS.pers tabP (List.mem_of_getElem? (i := 0) kq)).1) ?_
  refine V.run 100 [(1 + (Lib.itoa (Sel.get .M x)).length : Nat) ≤ 9223372036854775807] kq (by simp only [allP]; omega) ?_
  exact V.ret (.v (.one (.str ([64] ++ Lib.itoa (Sel.get .M x))))) kq kq (fun ρ a w hS => ⟨rfl, hS.chg⟩)
 case P =>
  refine Calls.of_P _ hp [.agg (inV x A), .one (.val (.pointer (some ⟨cb, 0, none⟩)))] false Tryz.func217 kq kq kq ?_
  refine V.u ?_
  refine V.loadP 1 159 cb 0 [Sel.val .P] 159 (.one (Sel.val .P)) kq kq kq kq kq ?_
  refine V.u ?_
  refine V.callQ (Sel.fn .P) [.one (.ptr 0 0)] (.v (.one (.ptr 0 (0 + Sel.off .P)))) kq kq (fun ρ a w hS => sel_calls .P (ρ 0) 0 w (hS.lt 0 (Nat.le_of_ble_eq_true kq))) ?_
  refine V.u ?_
  refine V.callP 123 [.one (.int .i64 (Sel.get .P x))] (.v (.one (.str (Lib.itoa (Sel.get .P x))))) kq kq (fun ρ a w hS => itoa_calls _ hx.1 hx.2 w (hS.pers tabP (List.mem_of_getElem? (i := 0) kq)).1) ?_
  refine V.run 100 [(1 + (Lib.itoa (Sel.get .P x)).length : Nat) ≤ 9223372036854775807] kq (by simp only [allP]; omega) ?_
  exact V.ret (.v (.one (.str ([64] ++ Lib.itoa (Sel.get .P x))))) kq kq (fun ρ a w hS => ⟨rfl, hS.chg⟩)
theorem valMove (x y : In) (A B : IA) (ρ : Nat → Nat) (w : World) (hF : FSat ρ (mvF [] y B) w) :
  Calls Tryz.prog 177 (([.one (.ptr 0 0), .agg (inV x A)] : List CV).map (CV.den ρ)).toArray w (MvR [] y B { y with vn := x.vn, vs := x.vs } B ρ w) := by
 refine Calls.of_F hF [.one (.ptr 0 0), .agg (inV x A)] false Tryz.func177 kq kq (by simp [CV.wf, SV.wf, mvF, St.W, inV, inC]) ?_
 refine V.u ?_
 exact V.retF (({ y with vn := x.vn, vs := x.vs }, B) : In × IA) [] (.tup []) kq kq kq kq kq kq kq rfl
def isVal (x : In) : Bool := isNum x.vn && decide ((x.vs.length : Int) ≤ 255)
theorem valFine (x : In) (A : IA) (w : World) : Calls Tryz.prog 178 (([.agg (inV x A)] : List CV).map (CV.den fun _ => 0)).toArray w (Gives (.bool (isVal x)) w) := by
 refine Calls.of_P [] (by intro p hp; cases hp) [.agg (inV x A)] false Tryz.func178 kq kq kq ?_
 refine V.u ?_
 refine V.callP 53 [.one (.int .i64 x.vn)] (.v (.one (.sb (isNum x.vn)))) kq kq (fun _ _ w _ => isNumber_calls _ w) ?_
 refine V.u ?_
 exact V.ret (.v (.one (.sb (isVal x)))) kq kq (fun ρ a w hS => ⟨rfl, hS.chg⟩)
set_option maxHeartbeats 2000000 in
theorem valPut (x : In) (A : IA) (b : WSt) (h1 : num32 x.vn) (hl : x.vs.length ≤ 50000000) (hb : b.bs.length ≤ 800000000) (ρ : Nat → Nat) (w : World) (hF : FSat ρ (wrF [] b) w) :
  Calls Tryz.prog 179 (([.one (.ptr 0 0), .agg (inV x A)] : List CV).map (CV.den ρ)).toArray w (WrR [] b (encN x.vn ++ encS x.vs) [] ρ w) := by
 refine Calls.of_F hF [.one (.ptr 0 0), .agg (inV x A)] true Tryz.func179 kq kq (by simp [CV.wf, SV.wf, wrF, St.W, inV, inC]) ?_
 refine V.u ?_
 refine V.callW 54 [.one (.ptr 0 0), .one (.int .i64 x.vn)] [.one (.ptr 0 0), .one (.int .i64 x.vn)] [0] [0, 1] [] (wrF [] b) _ _ _ kq kq kq (fun _ => rfl) (fun _ => kq) (fun ρ w hF => wnumber _ b h1.1 h1.2 (by omega) ρ w hF) ?_
 intro b1 e1
 have l1 : b1.bs.length ≤ b.bs.length + 10 := by rw [e1.1]; have := groups_len 9 (zz x.vn); simp only [List.length_append]; omega
 refine V.u ?_
 refine V.callW 180 [.one (.ptr 0 0), .one (.str x.vs)] [.one (.ptr 0 0), .one (.str x.vs)] [0] [2, 3] [] (wrF [] b1) _ _ _ kq kq kq (fun _ => rfl) (fun _ => kq) (fun ρ w hF => wstr _ b1 (by omega) (by omega) ρ w hF) ?_
 intro b2 e2
 refine V.u ?_
 refine V.retF (⟨b2.bs, b2.q, b2.c, b2.rs, b2.q2, b2.c2⟩ : WSt) [4, 5] (.tup []) kq kq kq kq kq kq kq ⟨?_, ?_⟩
 ·simp only [e2.1, e1.1, encN, encS, List.append_assoc]
 ·simp only [e2.2, e1.2, List.append_nil]
set_option maxHeartbeats 2000000 in
theorem valGet (X : RIn) (r : RSt) (x : In) (A : IA) (h : okIn X r) (ρ : Nat → Nat) (w : World) (hF : FSat ρ (gtF [] X r x A) w) :
  Calls Tryz.prog 181 (([.one (.ptr 0 0), .one (.ptr 1 0)] : List CV).map (CV.den ρ)).toArray w (GtR [] X r x A (rdStr X (rdNum X r).2).2 { x with vn := (rdNum X r).1, vs := (rdStr X (rdNum X r).2).1 } ρ w) := by
 have h1 := (rdNum_ok h).1
 refine Calls.of_F hF [.one (.ptr 0 0), .one (.ptr 1 0)] false Tryz.func181 kq kq (by simp [CV.wf, SV.wf, gtF, St.W]) ?_
 refine V.u ?_
 refine V.callW 57 [.one (.ptr 0 0)] [.one (.ptr 0 0)] [0] [] [] (rdF [] X r) _ _ _ kq kq kq (fun _ => rfl) (fun _ => kq) (fun ρ w hF => rnumber X r h ρ w hF) ?_
 rintro r1 rfl
 refine V.u ?_
 refine V.callW 182 [.one (.ptr 0 0)] [.one (.ptr 0 0)] [0] [] [] (rdF [] X _) _ _ _ kq kq kq (fun _ => rfl) (fun _ => kq) (fun ρ w hF => rstr X _ h1 ρ w hF) ?_
 rintro r1 rfl
 refine V.u ?_
 exact V.retF (⟨(rdStr X (rdNum X r).2).2, { x with vn := (rdNum X r).1, vs := (rdStr X (rdNum X r).2).1 }, A⟩ : RSt × In × IA) [0, 1, 2] (.tup []) kq kq kq kq kq kq kq ⟨rfl, rfl⟩
set_option maxHeartbeats 2000000 in
theorem farPut (x : In) (A : IA) (b : WSt) (hb : b.bs.length ≤ 800000000) (hr : b.rs.length ≤ 800000000) (ρ : Nat → Nat) (w : World) (hF : FSat ρ (wrF [] b) w) :
  Calls Tryz.prog 229 (([.one (.ptr 0 0), .agg (inV x A)] : List CV).map (CV.den ρ)).toArray w (WrR [] b (fourB x.n) [((b.bs.length : Nat), x.p)] ρ w) := by
 refine Calls.of_F hF [.one (.ptr 0 0), .agg (inV x A)] true Tryz.func229 kq kq (by simp [CV.wf, SV.wf, wrF, St.W, inV, inC]) ?_
 refine V.u ?_
 refine V.callW 222 [.one (.ptr 0 0), .one (.int .i64 x.p)] [.one (.ptr 0 0), .one (.int .i64 x.p)] [0] [0, 1] [] (wrF [] b) _ _ _ kq kq kq (fun _ => rfl) (fun _ => kq) (fun ρ w hF => wreloc _ b (by omega) ρ w hF) ?_
 intro b1 e1
 have l1 : b1.bs.length ≤ b.bs.length := by rw [e1.1, List.append_nil]; exact Nat.le_refl _
 refine V.u ?_
 refine V.callW 214 [.one (.ptr 0 0), .one (.int .i64 x.n)] [.one (.ptr 0 0), .one (.int .i64 x.n)] [0] [2, 3] [] (wrF [] b1) _ _ _ kq kq kq (fun _ => rfl) (fun _ => kq) (fun ρ w hF => wfour _ b1 (by omega) ρ w hF) ?_
 intro b2 e2
 refine V.u ?_
 refine V.retF (⟨b2.bs, b2.q, b2.c, b2.rs, b2.q2, b2.c2⟩ : WSt) [4, 5] (.tup []) kq kq kq kq kq kq kq ⟨?_, ?_⟩
 ·simp only [e2.1, e1.1, List.append_nil]
 ·simp only [e2.2, e1.2, List.append_nil]
def encP (n : Int) : List UInt8 := if n < 0 then fourB (-1) else fourB 0
def relP (n : Int) (at_ : Nat) : List (Int × Int) := if n < 0 then [] else [((at_ : Int), n)]
set_option maxHeartbeats 2000000 in
theorem procPut (s : Sel) (x : In) (A : IA) (cb : Nat) (b : WSt) (hb : b.bs.length ≤ 800000000) (hr : b.rs.length ≤ 800000000) (ρ : Nat → Nat) (w : World) (hF : FSat ρ (wrF [s.blk cb] b) w) :
  Calls Tryz.prog 221 (([.one (.ptr 0 0), .agg (inV x A), .one (.val (.pointer (some ⟨cb, 0, none⟩)))] : List CV).map (CV.den ρ)).toArray w (WrR [s.blk cb] b (encP (s.get x)) (relP (s.get x) b.bs.length) ρ w) := by
 cases s
 case D =>
  refine Calls.of_F hF [.one (.ptr 0 0), .agg (inV x A), .one (.val (.pointer (some ⟨cb, 0, none⟩)))] false Tryz.func221 kq kq (by simp [CV.wf, SV.wf, wrF, St.W, inV, inC]) ?_
  refine V.u ?_
  refine V.loadP 0 159 cb 0 [Sel.val .D] 159 (.one (Sel.val .D)) kq kq kq kq kq ?_
  refine V.u ?_
  refine V.callQ (Sel.fn .D) [.one (.ptr 1 0)] (.v (.one (.ptr 1 (0 + Sel.off .D)))) kq kq (fun ρ a w hS => sel_calls .D (ρ 1) 0 w (hS.lt 1 (Nat.le_of_ble_eq_true kq))) ?_
  refine V.u ?_
  refine V.branch 9 (decide (Sel.get .D x < 0)) kq (fun hn => ?_) (fun hn => ?_)
  ·have hn' : Sel.get .D x < 0 := by simpa using hn
   simp only [encP, relP, if_pos hn']
   refine V.u ?_
   refine V.callW 214 [.one (.ptr 0 0), .one (.int .i64 (-1))] [.one (.ptr 0 0), .one (.int .i64 (-1))] [0] [0, 1] [false] (wrF [] b) _ _ _ kq kq kq (fun _ => rfl) (fun _ => kq) (fun ρ w hF => wfour _ b (by omega) ρ w hF) ?_
   intro b1 e1
   refine V.u ?_
   exact V.retF (⟨b1.bs, b1.q, b1.c, b1.rs, b1.q2, b1.c2⟩ : WSt) [2, 3] (.tup []) kq kq kq kq kq kq kq ⟨e1.1, e1.2⟩
  ·have hn' : ¬ Sel.get .D x < 0 := by simpa using hn
   simp only [encP, relP, if_neg hn']
   refine V.u ?_
   refine V.loadP 0 159 cb 0 [Sel.val .D] 159 (.one (Sel.val .D)) kq kq kq kq kq ?_
   refine V.u ?_
   refine V.callQ (Sel.fn .D) [.one (.ptr 1 0)] (.v (.one (.ptr 1 (0 + Sel.off .D)))) kq kq (fun ρ a w hS => sel_calls .D (ρ 1) 0 w (hS.lt 1 (Nat.le_of_ble_eq_true kq))) ?_
   refine V.u ?_
   refine V.callW 222 [.one (.ptr 0 0), .one (.int .i64 (Sel.get .D x))] [.one (.ptr 0 0), .one (.int .i64 (Sel.get .D x))] [0] [0, 1] [false] (wrF [] b) _ _ _ kq kq kq (fun _ => rfl) (fun _ => kq) (fun ρ w hF => wreloc _ b (by omega) ρ w hF) ?_
   intro b1 e1
   have l1 : b1.bs.length ≤ b.bs.length := by rw [e1.1, List.append_nil]; exact Nat.le_refl _
   refine V.u ?_
   refine V.callW 214 [.one (.ptr 0 0), .one (.int .i64 (0))] [.one (.ptr 0 0), .one (.int .i64 (0))] [0] [2, 3] [false] (wrF [] b1) _ _ _ kq kq kq (fun _ => rfl) (fun _ => kq) (fun ρ w hF => wfour _ b1 (by omega) ρ w hF) ?_
   intro b2 e2
   refine V.u ?_
   refine V.retF (⟨b2.bs, b2.q, b2.c, b2.rs, b2.q2, b2.c2⟩ : WSt) [4, 5] (.tup []) kq kq kq kq kq kq kq ⟨?_, ?_⟩
   ·simp only [e2.1, e1.1, List.append_nil]
   ·simp only [e2.2, e1.2, List.append_nil]
 case A =>
  refine Calls.of_F hF [.one (.ptr 0 0), .agg (inV x A), .one (.val (.pointer (some ⟨cb, 0, none⟩)))] false Tryz.func221 kq kq (by simp [CV.wf, SV.wf, wrF, St.W, inV, inC]) ?_
  refine V.u ?_
  refine V.loadP 0 159 cb 0 [Sel.val .A] 159 (.one (Sel.val .A)) kq kq kq kq kq ?_
  refine V.u ?_
  refine V.callQ (Sel.fn .A) [.one (.ptr 1 0)] (.v (.one (.ptr 1 (0 + Sel.off .A)))) kq kq (fun ρ a w hS => sel_calls .A (ρ 1) 0 w (hS.lt 1 (Nat.le_of_ble_eq_true kq))) ?_
  refine V.u ?_
  refine V.branch 9 (decide (Sel.get .A x < 0)) kq (fun hn => ?_) (fun hn => ?_)
  ·have hn' : Sel.get .A x < 0 := by simpa using hn
   simp only [encP, relP, if_pos hn']
   refine V.u ?_
   refine V.callW 214 [.one (.ptr 0 0), .one (.int .i64 (-1))] [.one (.ptr 0 0), .one (.int .i64 (-1))] [0] [0, 1] [false] (wrF [] b) _ _ _ kq kq kq (fun _ => rfl) (fun _ => kq) (fun ρ w hF => wfour _ b (by omega) ρ w hF) ?_
   intro b1 e1
   refine V.u ?_
   exact V.retF (⟨b1.bs, b1.q, b1.c, b1.rs, b1.q2, b1.c2⟩ : WSt) [2, 3] (.tup []) kq kq kq kq kq kq kq ⟨e1.1, e1.2⟩
  ·have hn' : ¬ Sel.get .A x < 0 := by simpa using hn
   simp only [encP, relP, if_neg hn']
   refine V.u ?_
   refine V.loadP 0 159 cb 0 [Sel.val .A] 159 (.one (Sel.val .A)) kq kq kq kq kq ?_
   refine V.u ?_
   refine V.callQ (Sel.fn .A) [.one (.ptr 1 0)] (.v (.one (.ptr 1 (0 + Sel.off .A)))) kq kq (fun ρ a w hS => sel_calls .A (ρ 1) 0 w (hS.lt 1 (Nat.le_of_ble_eq_true kq))) ?_
   refine V.u ?_
   refine V.callW 222 [.one (.ptr 0 0), .one (.int .i64 (Sel.get .A x))] [.one (.ptr 0 0), .one (.int .i64 (Sel.get .A x))] [0] [0, 1] [false] (wrF [] b) _ _ _ kq kq kq (fun _ => rfl) (fun _ => kq) (fun ρ w hF => wreloc _ b (by omega) ρ w hF) ?_
   intro b1 e1
   have l1 : b1.bs.length ≤ b.bs.length := by rw [e1.1, List.append_nil]; exact Nat.le_refl _
   refine V.u ?_
   refine V.callW 214 [.one (.ptr 0 0), .one (.int .i64 (0))] [.one (.ptr 0 0), .one (.int .i64 (0))] [0] [2, 3] [false] (wrF [] b1) _ _ _ kq kq kq (fun _ => rfl) (fun _ => kq) (fun ρ w hF => wfour _ b1 (by omega) ρ w hF) ?_
   intro b2 e2
   refine V.u ?_
   refine V.retF (⟨b2.bs, b2.q, b2.c, b2.rs, b2.q2, b2.c2⟩ : WSt) [4, 5] (.tup []) kq kq kq kq kq kq kq ⟨?_, ?_⟩
   ·simp only [e2.1, e1.1, List.append_nil]
   ·simp only [e2.2, e1.2, List.append_nil]
 case B =>
  refine Calls.of_F hF [.one (.ptr 0 0), .agg (inV x A), .one (.val (.pointer (some ⟨cb, 0, none⟩)))] false Tryz.func221 kq kq (by simp [CV.wf, SV.wf, wrF, St.W, inV, inC]) ?_
  refine V.u ?_
  refine V.loadP 0 159 cb 0 [Sel.val .B] 159 (.one (Sel.val .B)) kq kq kq kq kq ?_
  refine V.u ?_
  refine V.callQ (Sel.fn .B) [.one (.ptr 1 0)] (.v (.one (.ptr 1 (0 + Sel.off .B)))) kq kq (fun ρ a w hS => sel_calls .B (ρ 1) 0 w (hS.lt 1 (Nat.le_of_ble_eq_true kq))) ?_
  refine V.u ?_
  refine V.branch 9 (decide (Sel.get .B x < 0)) kq (fun hn => ?_) (fun hn => ?_)
  ·have hn' : Sel.get .B x < 0 := by simpa using hn
   simp only [encP, relP, if_pos hn']
   refine V.u ?_
   refine V.callW 214 [.one (.ptr 0 0), .one (.int .i64 (-1))] [.one (.ptr 0 0), .one (.int .i64 (-1))] [0] [0, 1] [false] (wrF [] b) _ _ _ kq kq kq (fun _ => rfl) (fun _ => kq) (fun ρ w hF => wfour _ b (by omega) ρ w hF) ?_
   intro b1 e1
   refine V.u ?_
   exact V.retF (⟨b1.bs, b1.q, b1.c, b1.rs, b1.q2, b1.c2⟩ : WSt) [2, 3] (.tup []) kq kq kq kq kq kq kq ⟨e1.1, e1.2⟩
  ·have hn' : ¬ Sel.get .B x < 0 := by simpa using hn
   simp only [encP, relP, if_neg hn']
   refine V.u ?_
   refine V.loadP 0 159 cb 0 [Sel.val .B] 159 (.one (Sel.val .B)) kq kq kq kq kq ?_
   refine V.u ?_
   refine V.callQ (Sel.fn .B) [.one (.ptr 1 0)] (.v (.one (.ptr 1 (0 + Sel.off .B)))) kq kq (fun ρ a w hS => sel_calls .B (ρ 1) 0 w (hS.lt 1 (Nat.le_of_ble_eq_true kq))) ?_
   refine V.u ?_
   refine V.callW 222 [.one (.ptr 0 0), .one (.int .i64 (Sel.get .B x))] [.one (.ptr 0 0), .one (.int .i64 (Sel.get .B x))] [0] [0, 1] [false] (wrF [] b) _ _ _ kq kq kq (fun _ => rfl) (fun _ => kq) (fun ρ w hF => wreloc _ b (by omega) ρ w hF) ?_
   intro b1 e1
   have l1 : b1.bs.length ≤ b.bs.length := by rw [e1.1, List.append_nil]; exact Nat.le_refl _
   refine V.u ?_
   refine V.callW 214 [.one (.ptr 0 0), .one (.int .i64 (0))] [.one (.ptr 0 0), .one (.int .i64 (0))] [0] [2, 3] [false] (wrF [] b1) _ _ _ kq kq kq (fun _ => rfl) (fun _ => kq) (fun ρ w hF => wfour _ b1 (by omega) ρ w hF) ?_
   intro b2 e2
   refine V.u ?_
   refine V.retF (⟨b2.bs, b2.q, b2.c, b2.rs, b2.q2, b2.c2⟩ : WSt) [4, 5] (.tup []) kq kq kq kq kq kq kq ⟨?_, ?_⟩
   ·simp only [e2.1, e1.1, List.append_nil]
   ·simp only [e2.2, e1.2, List.append_nil]
 case N =>
  refine Calls.of_F hF [.one (.ptr 0 0), .agg (inV x A), .one (.val (.pointer (some ⟨cb, 0, none⟩)))] false Tryz.func221 kq kq (by simp [CV.wf, SV.wf, wrF, St.W, inV, inC]) ?_
  refine V.u ?_
  refine V.loadP 0 159 cb 0 [Sel.val .N] 159 (.one (Sel.val .N)) kq kq kq kq kq ?_
  refine V.u ?_
  refine V.callQ (Sel.fn .N) [.one (.ptr 1 0)] (.v (.one (.ptr 1 (0 + Sel.off .N)))) kq kq (fun ρ a w hS => sel_calls .N (ρ 1) 0 w (hS.lt 1 (Nat.le_of_ble_eq_true kq))) ?_
  refine V.u ?_
  refine V.branch 9 (decide (Sel.get .N x < 0)) kq (fun hn => ?_) (fun hn => ?_)
  ·have hn' : Sel.get .N x < 0 := by simpa using hn
   simp only [encP, relP, if_pos hn']
   refine V.u ?_
   refine V.callW 214 [.one (.ptr 0 0), .one (.int .i64 (-1))] [.one (.ptr 0 0), .one (.int .i64 (-1))] [0] [0, 1] [false] (wrF [] b) _ _ _ kq kq kq (fun _ => rfl) (fun _ => kq) (fun ρ w hF => wfour _ b (by omega) ρ w hF) ?_
   intro b1 e1
   refine V.u ?_
   exact V.retF (⟨b1.bs, b1.q, b1.c, b1.rs, b1.q2, b1.c2⟩ : WSt) [2, 3] (.tup []) kq kq kq kq kq kq kq ⟨e1.1, e1.2⟩
  ·have hn' : ¬ Sel.get .N x < 0 := by simpa using hn
   simp only [encP, relP, if_neg hn']
   refine V.u ?_
   refine V.loadP 0 159 cb 0 [Sel.val .N] 159 (.one (Sel.val .N)) kq kq kq kq kq ?_
   refine V.u ?_
   refine V.callQ (Sel.fn .N) [.one (.ptr 1 0)] (.v (.one (.ptr 1 (0 + Sel.off .N)))) kq kq (fun ρ a w hS => sel_calls .N (ρ 1) 0 w (hS.lt 1 (Nat.le_of_ble_eq_true kq))) ?_
   refine V.u ?_
   refine V.callW 222 [.one (.ptr 0 0), .one (.int .i64 (Sel.get .N x))] [.one (.ptr 0 0), .one (.int .i64 (Sel.get .N x))] [0] [0, 1] [false] (wrF [] b) _ _ _ kq kq kq (fun _ => rfl) (fun _ => kq) (fun ρ w hF => wreloc _ b (by omega) ρ w hF) ?_
   intro b1 e1
   have l1 : b1.bs.length ≤ b.bs.length := by rw [e1.1, List.append_nil]; exact Nat.le_refl _
   refine V.u ?_
   refine V.callW 214 [.one (.ptr 0 0), .one (.int .i64 (0))] [.one (.ptr 0 0), .one (.int .i64 (0))] [0] [2, 3] [false] (wrF [] b1) _ _ _ kq kq kq (fun _ => rfl) (fun _ => kq) (fun ρ w hF => wfour _ b1 (by omega) ρ w hF) ?_
   intro b2 e2
   refine V.u ?_
   refine V.retF (⟨b2.bs, b2.q, b2.c, b2.rs, b2.q2, b2.c2⟩ : WSt) [4, 5] (.tup []) kq kq kq kq kq kq kq ⟨?_, ?_⟩
   ·simp only [e2.1, e1.1, List.append_nil]
   ·simp only [e2.2, e1.2, List.append_nil]
 case M =>
  refine Calls.of_F hF [.one (.ptr 0 0), .agg (inV x A), .one (.val (.pointer (some ⟨cb, 0, none⟩)))] false Tryz.func221 kq kq (by simp [CV.wf, SV.wf, wrF, St.W, inV, inC]) ?_
  refine V.u ?_
  refine V.loadP 0 159 cb 0 [Sel.val .M] 159 (.one (Sel.val .M)) kq kq kq kq kq ?_
  refine V.u ?_
  refine V.callQ (Sel.fn .M) [.one (.ptr 1 0)] (.v (.one (.ptr 1 (0 + Sel.off .M)))) kq kq (fun ρ a w hS => sel_calls .M (ρ 1) 0 w (hS.lt 1 (Nat.le_of_ble_eq_true kq))) ?_
  refine V.u ?_
  refine V.branch 9 (decide (Sel.get .M x < 0)) kq (fun hn => ?_) (fun hn => ?_)
  ·have hn' : Sel.get .M x < 0 := by simpa using hn
   simp only [encP, relP, if_pos hn']
   refine V.u ?_
   refine V.callW 214 [.one (.ptr 0 0), .one (.int .i64 (-1))] [.one (.ptr 0 0), .one (.int .i64 (-1))] [0] [0, 1] [false] (wrF [] b) _ _ _ kq kq kq (fun _ => rfl) (fun _ => kq) (fun ρ w hF => wfour _ b (by omega) ρ w hF) ?_
   intro b1 e1
   refine V.u ?_
   exact V.retF (⟨b1.bs, b1.q, b1.c, b1.rs, b1.q2, b1.c2⟩ : WSt) [2, 3] (.tup []) kq kq kq kq kq kq kq ⟨e1.1, e1.2⟩
  ·have hn' : ¬ Sel.get .M x < 0 := by simpa using hn
   simp only [encP, relP, if_neg hn']
   refine V.u ?_
   refine V.loadP 0 159 cb 0 [Sel.val .M] 159 (.one (Sel.val .M)) kq kq kq kq kq ?_
   refine V.u ?_
   refine V.callQ (Sel.fn .M) [.one (.ptr 1 0)] (.v (.one (.ptr 1 (0 + Sel.off .M)))) kq kq (fun ρ a w hS => sel_calls .M (ρ 1) 0 w (hS.lt 1 (Nat.le_of_ble_eq_true kq))) ?_
   refine V.u ?_
   refine V.callW 222 [.one (.ptr 0 0), .one (.int .i64 (Sel.get .M x))] [.one (.ptr 0 0), .one (.int .i64 (Sel.get .M x))] [0] [0, 1] [false] (wrF [] b) _ _ _ kq kq kq (fun _ => rfl) (fun _ => kq) (fun ρ w hF => wreloc _ b (by omega) ρ w hF) ?_
   intro b1 e1
   have l1 : b1.bs.length ≤ b.bs.length := by rw [e1.1, List.append_nil]; exact Nat.le_refl _
   refine V.u ?_
   refine V.callW 214 [.one (.ptr 0 0), .one (.int .i64 (0))] [.one (.ptr 0 0), .one (.int .i64 (0))] [0] [2, 3] [false] (wrF [] b1) _ _ _ kq kq kq (fun _ => rfl) (fun _ => kq) (fun ρ w hF => wfour _ b1 (by omega) ρ w hF) ?_
   intro b2 e2
   refine V.u ?_
   refine V.retF (⟨b2.bs, b2.q, b2.c, b2.rs, b2.q2, b2.c2⟩ : WSt) [4, 5] (.tup []) kq kq kq kq kq kq kq ⟨?_, ?_⟩
   ·simp only [e2.1, e1.1, List.append_nil]
   ·simp only [e2.2, e1.2, List.append_nil]
 case P =>
  refine Calls.of_F hF [.one (.ptr 0 0), .agg (inV x A), .one (.val (.pointer (some ⟨cb, 0, none⟩)))] false Tryz.func221 kq kq (by simp [CV.wf, SV.wf, wrF, St.W, inV, inC]) ?_
  refine V.u ?_
  refine V.loadP 0 159 cb 0 [Sel.val .P] 159 (.one (Sel.val .P)) kq kq kq kq kq ?_
  refine V.u ?_
  refine V.callQ (Sel.fn .P) [.one (.ptr 1 0)] (.v (.one (.ptr 1 (0 + Sel.off .P)))) kq kq (fun ρ a w hS => sel_calls .P (ρ 1) 0 w (hS.lt 1 (Nat.le_of_ble_eq_true kq))) ?_
  refine V.u ?_
  refine V.branch 9 (decide (Sel.get .P x < 0)) kq (fun hn => ?_) (fun hn => ?_)
  ·have hn' : Sel.get .P x < 0 := by simpa using hn
   simp only [encP, relP, if_pos hn']
   refine V.u ?_
   refine V.callW 214 [.one (.ptr 0 0), .one (.int .i64 (-1))] [.one (.ptr 0 0), .one (.int .i64 (-1))] [0] [0, 1] [false] (wrF [] b) _ _ _ kq kq kq (fun _ => rfl) (fun _ => kq) (fun ρ w hF => wfour _ b (by omega) ρ w hF) ?_
   intro b1 e1
   refine V.u ?_
   exact V.retF (⟨b1.bs, b1.q, b1.c, b1.rs, b1.q2, b1.c2⟩ : WSt) [2, 3] (.tup []) kq kq kq kq kq kq kq ⟨e1.1, e1.2⟩
  ·have hn' : ¬ Sel.get .P x < 0 := by simpa using hn
   simp only [encP, relP, if_neg hn']
   refine V.u ?_
   refine V.loadP 0 159 cb 0 [Sel.val .P] 159 (.one (Sel.val .P)) kq kq kq kq kq ?_
   refine V.u ?_
   refine V.callQ (Sel.fn .P) [.one (.ptr 1 0)] (.v (.one (.ptr 1 (0 + Sel.off .P)))) kq kq (fun ρ a w hS => sel_calls .P (ρ 1) 0 w (hS.lt 1 (Nat.le_of_ble_eq_true kq))) ?_
   refine V.u ?_
   refine V.callW 222 [.one (.ptr 0 0), .one (.int .i64 (Sel.get .P x))] [.one (.ptr 0 0), .one (.int .i64 (Sel.get .P x))] [0] [0, 1] [false] (wrF [] b) _ _ _ kq kq kq (fun _ => rfl) (fun _ => kq) (fun ρ w hF => wreloc _ b (by omega) ρ w hF) ?_
   intro b1 e1
   have l1 : b1.bs.length ≤ b.bs.length := by rw [e1.1, List.append_nil]; exact Nat.le_refl _
   refine V.u ?_
   refine V.callW 214 [.one (.ptr 0 0), .one (.int .i64 (0))] [.one (.ptr 0 0), .one (.int .i64 (0))] [0] [2, 3] [false] (wrF [] b1) _ _ _ kq kq kq (fun _ => rfl) (fun _ => kq) (fun ρ w hF => wfour _ b1 (by omega) ρ w hF) ?_
   intro b2 e2
   refine V.u ?_
   refine V.retF (⟨b2.bs, b2.q, b2.c, b2.rs, b2.q2, b2.c2⟩ : WSt) [4, 5] (.tup []) kq kq kq kq kq kq kq ⟨?_, ?_⟩
   ·simp only [e2.1, e1.1, List.append_nil]
   ·simp only [e2.2, e1.2, List.append_nil]
def isPr (no : Bool) (n : Int) : Bool := (decide (n ≥ 0) && decide (n ≤ 63)) || (no && (n == -1))
set_option maxHeartbeats 2000000 in
theorem procFine (s : Sel) (no : Bool) (x : In) (A : IA) (cb cn : Nat) (w : World) (hp : PersOk [s.blk cb, blkP cn [.sb no] 4] w) :
  Calls Tryz.prog 220 (([.agg (inV x A), .one (.val (.pointer (some ⟨cb, 0, none⟩))), .one (.val (.pointer (some ⟨cn, 0, none⟩)))] : List CV).map (CV.den fun _ => 0)).toArray w (Gives (.bool (isPr no (s.get x))) w) := by
 cases s
 case D =>
  refine Calls.of_P _ hp [.agg (inV x A), .one (.val (.pointer (some ⟨cb, 0, none⟩))), .one (.val (.pointer (some ⟨cn, 0, none⟩)))] false Tryz.func220 kq kq kq ?_
  refine V.u ?_
  refine V.loadP 0 159 cb 0 [Sel.val .D] 159 (.one (Sel.val .D)) kq kq kq kq kq ?_
  refine V.u ?_
  refine V.callQ (Sel.fn .D) [.one (.ptr 0 0)] (.v (.one (.ptr 0 (0 + Sel.off .D)))) kq kq (fun ρ a w hS => sel_calls .D (ρ 0) 0 w (hS.lt 0 (Nat.le_of_ble_eq_true kq))) ?_
  refine V.u ?_
  refine V.split 16 (decide (Sel.get .D x ≥ 0) && decide (Sel.get .D x ≤ 63)) kq (fun hb => ?_) (fun hb => ?_)
  ·have e : isPr no (Sel.get .D x) = true := by simp only [isPr, hb, Bool.true_or]
   rw [e]
   refine V.u ?_
   exact V.ret (.v (.one (.bool true))) kq kq (fun ρ a w hS => ⟨rfl, hS.chg⟩)
  ·have e : isPr no (Sel.get .D x) = (no && (Sel.get .D x == -1)) := by simp only [isPr, hb, Bool.false_or]
   rw [e]
   refine V.u ?_
   refine V.loadP 1 4 cn 0 [.sb no] 4 (.one (.sb no)) kq kq kq kq kq ?_
   refine V.u ?_
   exact V.ret (.v (.one (.sb (no && (Sel.get .D x == -1))))) kq kq (fun ρ a w hS => ⟨rfl, hS.chg⟩)
 case A =>
  refine Calls.of_P _ hp [.agg (inV x A), .one (.val (.pointer (some ⟨cb, 0, none⟩))), .one (.val (.pointer (some ⟨cn, 0, none⟩)))] false Tryz.func220 kq kq kq ?_
  refine V.u ?_
  refine V.loadP 0 159 cb 0 [Sel.val .A] 159 (.one (Sel.val .A)) kq kq kq kq kq ?_
  refine V.u ?_
  refine V.callQ (Sel.fn .A) [.one (.ptr 0 0)] (.v (.one (.ptr 0 (0 + Sel.off .A)))) kq kq (fun ρ a w hS => sel_calls .A (ρ 0) 0 w (hS.lt 0 (Nat.le_of_ble_eq_true kq))) ?_
  refine V.u ?_
  refine V.split 16 (decide (Sel.get .A x ≥ 0) && decide (Sel.get .A x ≤ 63)) kq (fun hb => ?_) (fun hb => ?_)
  ·have e : isPr no (Sel.get .A x) = true := by simp only [isPr, hb, Bool.true_or]
   rw [e]
   refine V.u ?_
   exact V.ret (.v (.one (.bool true))) kq kq (fun ρ a w hS => ⟨rfl, hS.chg⟩)
  ·have e : isPr no (Sel.get .A x) = (no && (Sel.get .A x == -1)) := by simp only [isPr, hb, Bool.false_or]
   rw [e]
   refine V.u ?_
   refine V.loadP 1 4 cn 0 [.sb no] 4 (.one (.sb no)) kq kq kq kq kq ?_
   refine V.u ?_
   exact V.ret (.v (.one (.sb (no && (Sel.get .A x == -1))))) kq kq (fun ρ a w hS => ⟨rfl, hS.chg⟩)
 case B =>
  refine Calls.of_P _ hp [.agg (inV x A), .one (.val (.pointer (some ⟨cb, 0, none⟩))), .one (.val (.pointer (some ⟨cn, 0, none⟩)))] false Tryz.func220 kq kq kq ?_
  refine V.u ?_
  refine V.loadP 0 159 cb 0 [Sel.val .B] 159 (.one (Sel.val .B)) kq kq kq kq kq ?_
  refine V.u ?_
  refine V.callQ (Sel.fn .B) [.one (.ptr 0 0)] (.v (.one (.ptr 0 (0 + Sel.off .B)))) kq kq (fun ρ a w hS => sel_calls .B (ρ 0) 0 w (hS.lt 0 (Nat.le_of_ble_eq_true kq))) ?_
  refine V.u ?_
  refine V.split 16 (decide (Sel.get .B x ≥ 0) && decide (Sel.get .B x ≤ 63)) kq (fun hb => ?_) (fun hb => ?_)
  ·have e : isPr no (Sel.get .B x) = true := by simp only [isPr, hb, Bool.true_or]
   rw [e]
   refine V.u ?_
   exact V.ret (.v (.one (.bool true))) kq kq (fun ρ a w hS => ⟨rfl, hS.chg⟩)
  ·have e : isPr no (Sel.get .B x) = (no && (Sel.get .B x == -1)) := by simp only [isPr, hb, Bool.false_or]
   rw [e]
   refine V.u ?_
   refine V.loadP 1 4 cn 0 [.sb no] 4 (.one (.sb no)) kq kq kq kq kq ?_
   refine V.u ?_
   exact V.ret (.v (.one (.sb (no && (Sel.get .B x == -1))))) kq kq (fun ρ a w hS => ⟨rfl, hS.chg⟩)
 case N =>
  refine Calls.of_P _ hp [.agg (inV x A), .one (.val (.pointer (some ⟨cb, 0, none⟩))), .one (.val (.pointer (some ⟨cn, 0, none⟩)))] false Tryz.func220 kq kq kq ?_
  refine V.u ?_
  refine V.loadP 0 159 cb 0 [Sel.val .N] 159 (.one (Sel.val .N)) kq kq kq kq kq ?_
  refine V.u ?_
  refine V.callQ (Sel.fn .N) [.one (.ptr 0 0)] (.v (.one (.ptr 0 (0 + Sel.off .N)))) kq kq (fun ρ a w hS => sel_calls .N (ρ 0) 0 w (hS.lt 0 (Nat.le_of_ble_eq_true kq))) ?_
  refine V.u ?_
  refine V.split 16 (decide (Sel.get .N x ≥ 0) && decide (Sel.get .N x ≤ 63)) kq (fun hb => ?_) (fun hb => ?_)
  ·have e : isPr no (Sel.get .N x) = true := by simp only [isPr, hb, Bool.true_or]
   rw [e]
   refine V.u ?_
   exact V.ret (.v (.one (.bool true))) kq kq (fun ρ a w hS => ⟨rfl, hS.chg⟩)
  ·have e : isPr no (Sel.get .N x) = (no && (Sel.get .N x == -1)) := by simp only [isPr, hb, Bool.false_or]
   rw [e]
   refine V.u ?_
   refine V.loadP 1 4 cn 0 [.sb no] 4 (.one (.sb no)) kq kq kq kq kq ?_
   refine V.u ?_
   exact V.ret (.v (.one (.sb (no && (Sel.get .N x == -1))))) kq kq (fun ρ a w hS => ⟨rfl, hS.chg⟩)
 case M =>
  refine Calls.of_P _ hp [.agg (inV x A), .one (.val (.pointer (some ⟨cb, 0, none⟩))), .one (.val (.pointer (some ⟨cn, 0, none⟩)))] false Tryz.func220 kq kq kq ?_
  refine V.u ?_
  refine V.loadP 0 159 cb 0 [Sel.val .M] 159 (.one (Sel.val .M)) kq kq kq kq kq ?_
  refine V.u ?_
  refine V.callQ (Sel.fn .M) [.one (.ptr 0 0)] (.v (.one (.ptr 0 (0 + Sel.off .M)))) kq kq (fun ρ a w hS => sel_calls .M (ρ 0) 0 w (hS.lt 0 (Nat.le_of_ble_eq_true kq))) ?_
  refine V.u ?_
  refine V.split 16 (decide (Sel.get .M x ≥ 0) && decide (Sel.get .M x ≤ 63)) kq (fun hb => ?_) (fun hb => ?_)
  ·have e : isPr no (Sel.get .M x) = true := by simp only [isPr, hb, Bool.true_or]
   rw [e]
   refine V.u ?_
   exact V.ret (.v (.one (.bool true))) kq kq (fun ρ a w hS => ⟨rfl, hS.chg⟩)
  ·have e : isPr no (Sel.get .M x) = (no && (Sel.get .M x == -1)) := by simp only [isPr, hb, Bool.false_or]
   rw [e]
   refine V.u ?_
   refine V.loadP 1 4 cn 0 [.sb no] 4 (.one (.sb no)) kq kq kq kq kq ?_
   refine V.u ?_
   exact V.ret (.v (.one (.sb (no && (Sel.get .M x == -1))))) kq kq (fun ρ a w hS => ⟨rfl, hS.chg⟩)
 case P =>
  refine Calls.of_P _ hp [.agg (inV x A), .one (.val (.pointer (some ⟨cb, 0, none⟩))), .one (.val (.pointer (some ⟨cn, 0, none⟩)))] false Tryz.func220 kq kq kq ?_
  refine V.u ?_
  refine V.loadP 0 159 cb 0 [Sel.val .P] 159 (.one (Sel.val .P)) kq kq kq kq kq ?_
  refine V.u ?_
  refine V.callQ (Sel.fn .P) [.one (.ptr 0 0)] (.v (.one (.ptr 0 (0 + Sel.off .P)))) kq kq (fun ρ a w hS => sel_calls .P (ρ 0) 0 w (hS.lt 0 (Nat.le_of_ble_eq_true kq))) ?_
  refine V.u ?_
  refine V.split 16 (decide (Sel.get .P x ≥ 0) && decide (Sel.get .P x ≤ 63)) kq (fun hb => ?_) (fun hb => ?_)
  ·have e : isPr no (Sel.get .P x) = true := by simp only [isPr, hb, Bool.true_or]
   rw [e]
   refine V.u ?_
   exact V.ret (.v (.one (.bool true))) kq kq (fun ρ a w hS => ⟨rfl, hS.chg⟩)
  ·have e : isPr no (Sel.get .P x) = (no && (Sel.get .P x == -1)) := by simp only [isPr, hb, Bool.false_or]
   rw [e]
   refine V.u ?_
   refine V.loadP 1 4 cn 0 [.sb no] 4 (.one (.sb no)) kq kq kq kq kq ?_
   refine V.u ?_
   exact V.ret (.v (.one (.sb (no && (Sel.get .P x == -1))))) kq kq (fun ρ a w hS => ⟨rfl, hS.chg⟩)
end Go.Proofs
end
