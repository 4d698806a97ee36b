/- A symbolic run of the program that Lean checks, and what the functions of the program come to by it: part 12 of 12. -/
import Derived.ProofKit
import Derived.ReadAgain
import Derived.Deep.Onto
import Derived.Test.YteinbljapojcgaaGreatDoorRows
import Derived.LaidMore
import Derived.Lay
import Derived.Lib.LaidTab
import Derived.Shelf.Vars
import Derived.MakeChecks
import Derived.Test.YteinbljapojcgaaGreatDoorTie
import Derived.Test.YteinbljapojcgaaGreatDoorCards
import Derived.JoinedOf
import Derived.KernelRfl
import Derived.SevenTiedAt
import Derived.ChangeMaps5
import Derived.OpenShut
import Derived.Stop.Joined
import Derived.Test.YteinbljapojcgaaGreatDoorOAK
set_option linter.unusedVariables false
section
namespace Go.Proofs
open Go Go.SX
set_option maxRecDepth 10000
def asT : List UInt8 := [83, 84, 69, 80, 32, 49, 48, 10, 74, 85, 77, 80, 32, 64, 48, 10]
def asX1 : In := { emptyI 1 with n := 10 }
def asX2 : In := emptyI 14
def asB : List UInt8 := [1, 20, 14, 0, 0, 0, 0]
theorem asR1 : cReadS [[83, 84, 69, 80], [49, 48]] = some asX1 := kq
theorem asR2 : cReadS [[74, 85, 77, 80], [64, 48]] = some asX2 := kq
theorem asV (q : Option Addr) (c : Nat) : vdS [] ⟨asB, q, 0, c⟩ 0 4 = some ([asX1, asX2], [0, 2, 7]) := kq
theorem pok_of {ws : List (List UInt8)} {o0 : Nat} (h1 : rdFind (ws.getD 0 []) = some o0) (h2 : ((List.range (opFls o0).length).all fun i => ((opFls o0).getD i .D).pok (ws.getD (i + 1) [])) = true) :
    ∀ o, rdFind (ws.getD 0 []) = some o → ws.length = (opFls o).length + 1 → ∀ i, i < (opFls o).length → ((opFls o).getD i .D).pok (ws.getD (i + 1) []) = true := by
  intro o ho _ i hi
  rw [h1] at ho
  cases ho
  exact List.all_eq_true.1 h2 i (List.mem_range.2 hi)
set_option maxHeartbeats 1000000 in
theorem xAsm : CallsK Tryz.prog 39 [.one (.int .i64 0), .one (.int .i64 4), .one (.str asT)] glbF (fun _ : Option Addr × Nat => True) (fun qc => .tup [modC 0 4 ⟨asB, qc.1, 0, qc.2⟩, .one (.int .i64 0), .one (.int .i64 0)]) (fun qc => psOf [rowP (relRow [] qc.1 qc.2)]) := by
  refine CallsK.mk true Tryz.func39 kq kq (fun ρ w => ?_)
  refine V.q ?_
  refine V.known 39 (decide ((0 : Int) < 0) || decide ((0 : Int) > 63) || decide ((4 : Int) < 0) || decide ((4 : Int) > 4000) || decide ((asT.length : Int) > 1048576)) false kq (by decide) ?_
  refine V.q ?_
  refine V.callK [(0, false)] cNew0 kq kq kq (fun _ => kq) (fun K hK => ?_)
  refine V.q ?_
  refine V.nilL ixV ixD 10 30 29 kq kq ?_
  refine V.iter ?_
  refine V.q ?_
  refine V.known 43 (!(([83, 84, 69, 80, 32, 49, 48, 10, 74, 85, 77, 80, 32, 64, 48, 10] : List UInt8) == [])) true kq (by decide) ?_
  refine V.runT [⟨sCut, [0]⟩] [([83, 84, 69, 80, 32, 49, 48, 10, 74, 85, 77, 80, 32, 64, 48, 10] : List UInt8).length < 4294967281] kq kq (by show _ < _; decide) ?_
  refine V.callK [(0, true), (1, false)] (cRead K hK [83, 84, 69, 80, 32, 49, 48] [[83, 84, 69, 80], [49, 48]] kq (by decide) kq (by decide) (pok_of (o0 := 1) kq kq)) kq kq kq (fun _ => kq) (fun y1 hy1 => ?_)
  obtain ⟨x1, A1, b1⟩ := y1
  have hz1 : x1 = asX1 ∧ b1 = true := by unfold rdP at hy1; rw [asR1] at hy1; exact hy1
  obtain ⟨rfl, rfl⟩ := hz1
  refine V.q ?_
  refine V.known 63 ((!true) || (!(Lib.cut ([83, 84, 69, 80, 32, 49, 48, 10, 74, 85, 77, 80, 32, 64, 48, 10] : List UInt8) [10]).2.2)) false kq kq ?_
  refine V.q ?_
  refine V.push ixV ixD [] (asX1, A1) 0 none 0 30 29 (inV asX1 A1) 304 kq (by show _ ≤ _; decide) rfl (fun _ _ => kq) (fun q1 c1 => ?_)
  refine V.q ?_
  refine V.iter ?_
  refine V.ungrd ?_
  refine V.q ?_
  refine V.known 43 (!(([74, 85, 77, 80, 32, 64, 48, 10] : List UInt8) == [])) true kq (by decide) ?_
  refine V.runT [⟨sCut, [0]⟩] [([74, 85, 77, 80, 32, 64, 48, 10] : List UInt8).length < 4294967281] kq kq (by show _ < _; decide) ?_
  refine V.callK [(3, true), (4, false)] (cRead K hK [74, 85, 77, 80, 32, 64, 48] [[74, 85, 77, 80], [64, 48]] kq (by decide) kq (by decide) (pok_of (o0 := 14) kq kq)) kq kq kq (fun _ => kq) (fun y2 hy2 => ?_)
  obtain ⟨x2, A2, b2⟩ := y2
  have hz2 : x2 = asX2 ∧ b2 = true := by unfold rdP at hy2; rw [asR2] at hy2; exact hy2
  obtain ⟨rfl, rfl⟩ := hz2
  refine V.q ?_
  refine V.known 63 ((!true) || (!(Lib.cut ([74, 85, 77, 80, 32, 64, 48, 10] : List UInt8) [10]).2.2)) false kq kq ?_
  refine V.q ?_
  refine V.push ixV ixD ([] ++ [(asX1, A1)]) (asX2, A2) 1 q1 c1 30 29 (inV asX2 A2) 304 kq (by show 2 * 304 ≤ 140737488355328; decide) rfl (fun _ _ => kq) (fun q2 c2 => ?_)
  refine V.q ?_
  refine V.iter ?_
  refine V.q ?_
  refine V.known 43 (!(([] : List UInt8) == [])) false kq (by decide) ?_
  refine V.q ?_
  refine V.freeze 2 (ixRow (([] ++ [(asX1, A1)]) ++ [(asX2, A2)]) q2 c2 true) kq kq ?_
  refine V.persNew [] [] (insP []) kq kq (fun k hk => by obtain ⟨q, hq, _⟩ := hk; exact absurd hq (List.not_mem_nil)) (fun w hw q hq => absurd hq (List.not_mem_nil)) (insP_stab _) ?_
  refine V.persNew [(0, true), (5, true), (6, true), (7, true)] (insP [] :: lsP asX1 A1) (insP ([] ++ [(asX1, A1)])) kq kq (insP_snoc [] asX1 A1).1 (insP_snoc [] asX1 A1).2 (insP_stab _) ?_
  refine V.persNew [(0, true), (3, true), (4, true), (5, true)] (insP ([] ++ [(asX1, A1)]) :: lsP asX2 A2) (insP (([] ++ [(asX1, A1)]) ++ [(asX2, A2)])) kq kq (insP_snoc ([] ++ [(asX1, A1)]) asX2 A2).1 (insP_snoc ([] ++ [(asX1, A1)]) asX2 A2).2 (insP_stab _) ?_
  have hok : okIx (([] ++ [(asX1, A1)]) ++ [(asX2, A2)]) := ⟨by show 2 ≤ 2000000; decide, fun e he => by
    rcases List.mem_append.1 he with he | he
    · rw [List.nil_append, List.mem_singleton] at he
      subst he
      exact ⟨kq, ⟨by show 0 ≤ 1000; decide, by show 0 ≤ 1000; decide, by show 0 ≤ 1000; decide⟩⟩
    · rw [List.mem_singleton] at he
      subst he
      exact ⟨kq, ⟨by show 0 ≤ 1000; decide, by show 0 ≤ 1000; decide, by show 0 ≤ 1000; decide⟩⟩⟩
  refine V.callK [(10, true), (0, true), (3, true)] (cModule K hK (([] ++ [(asX1, A1)]) ++ [(asX2, A2)]) hok q2 c2 0 4) kq kq kq (fun _ => kq) (fun qc _ => ?_)
  refine V.q ?_
  refine V.freeze 3 (rowL rlv (0, 0) [] qc.1 qc.2 62 2 true) kq kq ?_
  refine V.callK [(11, true), (0, true)] (cValid K hK [] ⟨asB, qc.1, 0, qc.2⟩ rfl (by decide) (by show 7 ≤ 100000000; decide) 0 4) kq kq kq (fun t => by cases t <;> kernel_rfl) (fun t ht => ?_)
  rw [asV] at ht
  obtain ⟨t', rfl, h1, h2⟩ := ht
  refine V.q ?_
  refine V.known 84 (!true) false kq rfl ?_
  refine V.q ?_
  exact V.retK (qc : Option Addr × Nat) [(3, true)] kq kq kq trivial
end Go.Proofs
end
section
namespace Go.Proofs
open Go Go.SX
set_option maxRecDepth 10000
def sx1 : In := { emptyI 3 with d := 3, a := 0 }
theorem sx1_fine : cFine sx1 = true := kq
theorem sx1_okL : sx1.okL := ⟨by decide, by decide, by decide⟩
theorem sx1_dec (q : Option Addr) (c : Nat) : (cDecR [] ⟨[3, 8, 2], q, 0, c⟩ 0).2 = sx1 := kq
theorem sx1_read : cReadS [[77, 79, 86, 69], [114, 51], [114, 48]] = some sx1 := kq
theorem sx1_pok : ((List.range (opFls 3).length).all fun i => ((opFls 3).getD i .D).pok (([[77, 79, 86, 69], [114, 51], [114, 48]] : List (List UInt8)).getD (i + 1) [])) = true := kq
theorem sx1_find : rdFind (([[77, 79, 86, 69], [114, 51], [114, 48]] : List (List UInt8)).getD 0 []) = some 3 := kq
def sx2 : In := { emptyI 14 with n := 258 }
theorem sx2_fine : cFine sx2 = true := kq
theorem sx2_okL : sx2.okL := ⟨by decide, by decide, by decide⟩
theorem sx2_dec (q : Option Addr) (c : Nat) : (cDecR [] ⟨[14, 0, 0, 1, 2], q, 0, c⟩ 0).2 = sx2 := kq
theorem sx2_read : cReadS [[74, 85, 77, 80], [64, 50, 53, 56]] = some sx2 := kq
theorem sx2_pok : ((List.range (opFls 14).length).all fun i => ((opFls 14).getD i .D).pok (([[74, 85, 77, 80], [64, 50, 53, 56]] : List (List UInt8)).getD (i + 1) [])) = true := kq
theorem sx2_find : rdFind (([[74, 85, 77, 80], [64, 50, 53, 56]] : List (List UInt8)).getD 0 []) = some 14 := kq
def sx3 : In := { emptyI 8 with d := 0, a := 1, t := ⟨2, 15, 0, false, []⟩ }
theorem sx3_fine : cFine sx3 = true := kq
theorem sx3_okL : sx3.okL := ⟨by decide, by decide, by decide⟩
theorem sx3_dec (q : Option Addr) (c : Nat) : (cDecR [] ⟨[8, 2, 4, 4, 30, 0, 0, 0], q, 0, c⟩ 0).2 = sx3 := kq
theorem sx3_read : cReadS [[76, 79, 65, 68], [114, 48], [114, 49], [50, 44, 49, 53, 44, 48, 44, 48, 44, 61]] = some sx3 := kq
theorem sx3_pok : ((List.range (opFls 8).length).all fun i => ((opFls 8).getD i .D).pok (([[76, 79, 65, 68], [114, 48], [114, 49], [50, 44, 49, 53, 44, 48, 44, 48, 44, 61]] : List (List UInt8)).getD (i + 1) [])) = true := kq
theorem sx3_find : rdFind (([[76, 79, 65, 68], [114, 48], [114, 49], [50, 44, 49, 53, 44, 48, 44, 48, 44, 61]] : List (List UInt8)).getD 0 []) = some 8 := kq
def sx4 : In := { emptyI 17 with n := 5, l := [2] }
theorem sx4_fine : cFine sx4 = true := kq
theorem sx4_okL : sx4.okL := ⟨by decide, by decide, by decide⟩
theorem sx4_dec (q : Option Addr) (c : Nat) : (cDecR [(2, 5)] ⟨[17, 0, 0, 0, 0, 0, 2, 6], q, 1, c⟩ 0).2 = sx4 := kq
theorem sx4_read : cReadS [[67, 65, 76, 76], [45], [33, 53], [91, 114, 50, 93]] = some sx4 := kq
theorem sx4_pok : ((List.range (opFls 17).length).all fun i => ((opFls 17).getD i .D).pok (([[67, 65, 76, 76], [45], [33, 53], [91, 114, 50, 93]] : List (List UInt8)).getD (i + 1) [])) = true := kq
theorem sx4_find : rdFind (([[67, 65, 76, 76], [45], [33, 53], [91, 114, 50, 93]] : List (List UInt8)).getD 0 []) = some 17 := kq
def sA4 (g : Nat) : IA := ⟨none, 0, some ⟨g, 0, none⟩, 1, none, 0⟩
end Go.Proofs
end
section
namespace Go.Proofs
open Go Go.SX
def eqIn0 (x y : In) : Bool := x.op != y.op || x.d != y.d || x.a != y.a || x.b != y.b || !(x.t.k == y.t.k && (x.t.p == y.t.p && (x.t.q == y.t.q && (x.t.v == y.t.v && x.t.s == y.t.s)))) || !(x.u.k == y.u.k && (x.u.p == y.u.p && (x.u.q == y.u.q && (x.u.v == y.u.v && x.u.s == y.u.s)))) || !(x.w.k == y.w.k && (x.w.p == y.w.p && (x.w.q == y.w.q && (x.w.v == y.w.v && x.w.s == y.w.s)))) || x.n != y.n || x.m != y.m || x.p != y.p || !(x.vn == y.vn && x.vs == y.vs) || !x.size == y.size || !x.range == y.range || (x.f.length : Int) != (y.f.length : Int) || (x.l.length : Int) != (y.l.length : Int) || (x.y.length : Int) != (y.y.length : Int)
theorem eqIn0_eq (x y : In) : eqIn0 x y = !(eqIn1 x y && (x.size == y.size) && (x.range == y.range) && ((x.f.length : Int) == (y.f.length : Int)) && ((x.l.length : Int) == (y.l.length : Int)) && ((x.y.length : Int) == (y.y.length : Int))) := by
  simp only [eqIn0, eqIn1, eqT, bne, Bool.not_and, Bool.or_assoc]
theorem eqIn0_len {x y : In} (h : eqIn0 x y = false) : x.f.length = y.f.length ∧ x.l.length = y.l.length ∧ x.y.length = y.y.length := by
  rw [eqIn0_eq] at h
  simp only [Bool.not_eq_false', Bool.and_eq_true, beq_iff_eq] at h
  omega
theorem eqIn_yes {x y : In} (h : eqIn0 x y = false) (hf : eqL eqF x.f y.f = true) (hl : eqL eqI x.l y.l = true) (hy : eqL eqT x.y y.y = true) : eqIn x y = true := by
  rw [eqIn0_eq] at h
  simp only [Bool.not_eq_false', Bool.and_eq_true] at h
  unfold eqIn
  rw [hf, hl, hy, h.1.1.1.1.1, h.1.1.1.1.2, h.1.1.1.2]
  rfl
theorem eqL_true_len {α : Type} {f : α → α → Bool} {l m : List α} (h : eqL f l m = true) : l.length = m.length := by
  by_cases e : l.length = m.length
  · exact e
  · rw [eqL_len e] at h; cases h
theorem eqIn_no_0 {x y : In} (h : eqIn0 x y = true) : eqIn x y = false := by
  cases e : eqIn x y with
  | false => rfl
  | true =>
    unfold eqIn at e
    simp only [Bool.and_eq_true] at e
    obtain ⟨⟨⟨⟨⟨h1, h2⟩, h3⟩, h4⟩, h5⟩, h6⟩ := e
    rw [eqIn0_eq, h1, h5, h6, eqL_true_len h2, eqL_true_len h3, eqL_true_len h4] at h
    simp at h
theorem eqIn_no_f {x y : In} (h : eqL eqF x.f y.f = false) : eqIn x y = false := by unfold eqIn; rw [h]; simp
theorem eqIn_no_l {x y : In} (h : eqL eqI x.l y.l = false) : eqIn x y = false := by unfold eqIn; rw [h]; simp
theorem eqIn_no_y {x y : In} (h : eqL eqT x.y y.y = false) : eqIn x y = false := by unfold eqIn; rw [h]; simp
end Go.Proofs
end
section
namespace Go.SX
variable {C : Ctx}
theorem V.factRow (i : Nat) (R : Row) {c : Cfg} (hp : c.st.pers[i]? = some (rowP R)) (ho : R.own = false)
    (h : V C ⟨c.todo, { c.st with rows := (c.st.nr, R) :: c.st.rows, nr := c.st.nr + 1 }⟩) : V C c := by
  intro ρ a w hS
  exact h ρ a w (hS.rowOfP hp ho)
end Go.SX
end
section
namespace Go.Proofs
open Go Go.SX
set_option maxRecDepth 10000
noncomputable def seB (x : In) (A : IA) (i : Nat) : Blk := ⟨inC x (.row i A.qf x.f.length A.cf) (.row (i + 1) A.ql x.l.length A.cl) (.row (i + 2) A.qy x.y.length A.cy), 30, true⟩
noncomputable def seSt (x y : In) (A B : IA) (t i : Nat) : St :=
  { n := (Tryz.f26).ntmps, slots := [(2, .v (.one (.ptr 0 0))), (3, .v (.one (.ptr 1 0))), (t, .v (.one (.int .i64 (i : Int))))], gs := [], heap := [(0, seB x A 0), (1, seB y B 3)], next := 2,
    rows := [(0, rowF x A), (1, rowI x A), (2, rowT x A), (3, rowF y B), (4, rowI y B), (5, rowT y B)], nr := 6, pers := [], wr := true, fx := 0 }
set_option maxHeartbeats 1000000 in
theorem cSame26r (x y : In) (A B : IA) (hx : x.okL) (r : Bool) (hr : r = eqIn x y) : CallsK Tryz.prog 26 [.agg (inV x A), .agg (inV y B)] (stP (lsP x A ++ lsP y B)) (fun _ : Unit => True) (fun _ => .v (.one (.sb r))) (fun _ => noF) := by
  refine CallsK.mk true Tryz.func26 kq kq (fun ρ0 w0 => ?_)
  refine V.q ?_
  refine V.branch 123 (eqIn0 x y) kq (fun hne => ?_) (fun heq => ?_)
  · refine V.q ?_
    have hz : r = false := hr.trans (eqIn_no_0 hne)
    subst hz
    refine V.slotAs 4 (.one (.bool false)) (.one (.sb false)) kq kq (fun _ => rfl) ?_
    exact V.z
  · refine V.q ?_
    refine V.factRow 0 (rowF x A) kq rfl ?_
    refine V.factRow 1 (rowI x A) kq rfl ?_
    refine V.factRow 2 (rowT x A) kq rfl ?_
    refine V.factRow 3 (rowF y B) kq rfl ?_
    refine V.factRow 4 (rowI y B) kq rfl ?_
    refine V.factRow 5 (rowT y B) kq rfl ?_
    refine V.cellRow 0 24 0 ⟨inV x A, 30, true⟩ (rowF x A) kq kq kq ?_
    refine V.cellRow 0 25 1 ⟨inC x (.row 0 A.qf x.f.length A.cf) (.val (.slice A.ql x.l.length A.cl)) (.val (.slice A.qy x.y.length A.cy)), 30, true⟩ (rowI x A) kq kq kq ?_
    refine V.cellRow 0 26 2 ⟨inC x (.row 0 A.qf x.f.length A.cf) (.row 1 A.ql x.l.length A.cl) (.val (.slice A.qy x.y.length A.cy)), 30, true⟩ (rowT x A) kq kq kq ?_
    refine V.cellRow 1 24 3 ⟨inV y B, 30, true⟩ (rowF y B) kq kq kq ?_
    refine V.cellRow 1 25 4 ⟨inC y (.row 3 B.qf y.f.length B.cf) (.val (.slice B.ql y.l.length B.cl)) (.val (.slice B.qy y.y.length B.cy)), 30, true⟩ (rowI y B) kq kq kq ?_
    refine V.cellRow 1 26 5 ⟨inC y (.row 3 B.qf y.f.length B.cf) (.row 4 B.ql y.l.length B.cl) (.val (.slice B.qy y.y.length B.cy)), 30, true⟩ (rowT y B) kq kq kq ?_
    have hxf := hx.1
    have hxl := hx.2.1
    have hxy := hx.2.2
    have hlf : x.f.length = y.f.length := (eqIn0_len heq).1
    have hll : x.l.length = y.l.length := (eqIn0_len heq).2.1
    have hly : x.y.length = y.y.length := (eqIn0_len heq).2.2
    refine V.iter ?_
    refine V.loopTo [2, 3, 5] [0, 1] [0, 1, 2, 3, 4, 5] [] (fun i : Nat => x.f.length - i) (seSt x y A B 5) (fun i => i ≤ x.f.length ∧ ∀ j, j < i → eqF (x.f.getD j fm0) (y.f.getD j fm0) = true) 0 kq ⟨Nat.zero_le _, fun j hj => absurd hj (Nat.not_lt_zero j)⟩ (fun i hi ih => ?_)
    have hi1 := hi.1
    have hall := hi.2
    refine V.q ?_
    refine V.branch 128 (decide ((i : Int) < (x.f.length : Int))) kq (fun hc => ?_) (fun hc => ?_)
    · have hlt : i < x.f.length := by simpa using hc
      refine V.runT [] [(0 : Int) ≤ i ∧ (i : Int) < x.f.length, (0 : Int) ≤ i ∧ (i : Int) < y.f.length] kq kq ⟨⟨by omega, by omega⟩, ⟨by omega, by omega⟩⟩ ?_
      refine V.branch 141 (!eqF (x.f.getD i fm0) (y.f.getD i fm0)) kq (fun hf => ?_) (fun hf => ?_)
      · refine V.q ?_
        have hz : r = false := hr.trans (eqIn_no_f (eqL_at fm0 hlt (by omega) (by simpa using hf)))
        subst hz
        refine V.slotAs 4 (.one (.bool false)) (.one (.sb false)) kq kq (fun _ => rfl) ?_
        exact V.z
      · refine V.q ?_
        refine V.slotAs 5 (.one (.int .i64 (IntKind.i64.wrap ((i : Int) + 1)))) (.one (.int .i64 ((i + 1 : Nat) : Int))) kq kq (fun _ => by rw [wrap_up (by omega)]) ?_
        refine V.iter ?_
        refine V.back [2, 3, 5] [0, 1] [0, 1, 2, 3, 4, 5] [] (ih (i + 1) ⟨hlt, fun j hj => ?_⟩ (by omega)) kq kq
        by_cases e : j = i
        · subst e; simpa using hf
        · exact hall j (by omega)
    · have hle : x.f.length = i := by
        have : ¬ i < x.f.length := by simpa using hc
        omega
      have hf : eqL eqF x.f y.f = true := eqL_all fm0 hlf (fun j hj => hall j (by omega))
      refine V.q ?_
      refine V.iter ?_
      refine V.loopTo [2, 3, 6] [0, 1] [0, 1, 2, 3, 4, 5] [] (fun i : Nat => x.l.length - i) (seSt x y A B 6) (fun i => i ≤ x.l.length ∧ ∀ j, j < i → eqI (x.l.getD j (0 : Int)) (y.l.getD j (0 : Int)) = true) 0 kq ⟨Nat.zero_le _, fun j hj => absurd hj (Nat.not_lt_zero j)⟩ (fun i hi ih => ?_)
      have hi1 := hi.1
      have hall := hi.2
      refine V.q ?_
      refine V.branch 146 (decide ((i : Int) < (x.l.length : Int))) kq (fun hc => ?_) (fun hc => ?_)
      · have hlt : i < x.l.length := by simpa using hc
        refine V.runT [] [(0 : Int) ≤ i ∧ (i : Int) < x.l.length, (0 : Int) ≤ i ∧ (i : Int) < y.l.length] kq kq ⟨⟨by omega, by omega⟩, ⟨by omega, by omega⟩⟩ ?_
        refine V.branch 159 (!eqI (x.l.getD i (0 : Int)) (y.l.getD i (0 : Int))) kq (fun hf => ?_) (fun hf => ?_)
        · refine V.q ?_
          have hz : r = false := hr.trans (eqIn_no_l (eqL_at (0 : Int) hlt (by omega) (by simpa using hf)))
          subst hz
          refine V.slotAs 4 (.one (.bool false)) (.one (.sb false)) kq kq (fun _ => rfl) ?_
          exact V.z
        · refine V.q ?_
          refine V.slotAs 6 (.one (.int .i64 (IntKind.i64.wrap ((i : Int) + 1)))) (.one (.int .i64 ((i + 1 : Nat) : Int))) kq kq (fun _ => by rw [wrap_up (by omega)]) ?_
          refine V.iter ?_
          refine V.back [2, 3, 6] [0, 1] [0, 1, 2, 3, 4, 5] [] (ih (i + 1) ⟨hlt, fun j hj => ?_⟩ (by omega)) kq kq
          by_cases e : j = i
          · subst e; simpa using hf
          · exact hall j (by omega)
      · have hle : x.l.length = i := by
          have : ¬ i < x.l.length := by simpa using hc
          omega
        have hl : eqL eqI x.l y.l = true := eqL_all (0 : Int) hll (fun j hj => hall j (by omega))
        refine V.q ?_
        refine V.iter ?_
        refine V.loopTo [2, 3, 7] [0, 1] [0, 1, 2, 3, 4, 5] [] (fun i : Nat => x.y.length - i) (seSt x y A B 7) (fun i => i ≤ x.y.length ∧ ∀ j, j < i → eqT (x.y.getD j ty0) (y.y.getD j ty0) = true) 0 kq ⟨Nat.zero_le _, fun j hj => absurd hj (Nat.not_lt_zero j)⟩ (fun i hi ih => ?_)
        have hi1 := hi.1
        have hall := hi.2
        refine V.q ?_
        refine V.branch 164 (decide ((i : Int) < (x.y.length : Int))) kq (fun hc => ?_) (fun hc => ?_)
        · have hlt : i < x.y.length := by simpa using hc
          refine V.runT [] [(0 : Int) ≤ i ∧ (i : Int) < x.y.length, (0 : Int) ≤ i ∧ (i : Int) < y.y.length] kq kq ⟨⟨by omega, by omega⟩, ⟨by omega, by omega⟩⟩ ?_
          refine V.branch 177 (!eqT (x.y.getD i ty0) (y.y.getD i ty0)) kq (fun hf => ?_) (fun hf => ?_)
          · refine V.q ?_
            have hz : r = false := hr.trans (eqIn_no_y (eqL_at ty0 hlt (by omega) (by simpa using hf)))
            subst hz
            refine V.slotAs 4 (.one (.bool false)) (.one (.sb false)) kq kq (fun _ => rfl) ?_
            exact V.z
          · refine V.q ?_
            refine V.slotAs 7 (.one (.int .i64 (IntKind.i64.wrap ((i : Int) + 1)))) (.one (.int .i64 ((i + 1 : Nat) : Int))) kq kq (fun _ => by rw [wrap_up (by omega)]) ?_
            refine V.iter ?_
            refine V.back [2, 3, 7] [0, 1] [0, 1, 2, 3, 4, 5] [] (ih (i + 1) ⟨hlt, fun j hj => ?_⟩ (by omega)) kq kq
            by_cases e : j = i
            · subst e; simpa using hf
            · exact hall j (by omega)
        · have hle : x.y.length = i := by
            have : ¬ i < x.y.length := by simpa using hc
            omega
          have hy : eqL eqT x.y y.y = true := eqL_all ty0 hly (fun j hj => hall j (by omega))
          refine V.q ?_
          have hz : r = true := hr.trans (eqIn_yes heq hf hl hy)
          subst hz
          refine V.slotAs 4 (.one (.bool true)) (.one (.sb true)) kq kq (fun _ => rfl) ?_
          exact V.z
theorem cSame26 (x y : In) (A B : IA) (hx : x.okL) : CallsK Tryz.prog 26 [.agg (inV x A), .agg (inV y B)] (stP (lsP x A ++ lsP y B)) (fun _ : Unit => True) (fun _ => .v (.one (.sb (eqIn x y)))) (fun _ => noF) := cSame26r x y A B hx _ rfl
def _root_.Go.SX.Con.inst2 {P : Program} (f : FuncId) (need : List Pers) (ys ys' : List CV) (v : RV) (h : ∀ ρ w, PersOk need w → Calls P f (ys.map (CV.den ρ)).toArray w (Gives (v.den ρ) w)) (h' : ∀ ρ w, PersOk need w → Calls P f (ys'.map (CV.den ρ)).toArray w (Gives (v.den ρ) w)) : Con P where
  f := f
  need := need
  fn := fun xs => some (v, [xs = ys ∨ xs = ys'])
  ok := by
    intro xs v' ob h1 hob ρ w hps _
    simp only [Option.some.injEq, Prod.mk.injEq] at h1
    obtain ⟨rfl, rfl⟩ := h1
    rcases hob (xs = ys ∨ xs = ys') (List.mem_singleton.2 rfl) with e | e
    · rw [e]; exact h ρ w hps
    · rw [e]; exact h' ρ w hps
theorem persOk_sub {l m : List Pers} {w : World} (h : PersOk l w) (hs : ∀ p ∈ m, p ∈ l) : PersOk m w := fun p hp => h p (hs p hp)
noncomputable def sSame2 (x : In) (A B D : IA) (hx : x.okL) : Con Tryz.prog := Con.inst2 26 (lsP x D ++ lsP x B ++ lsP x A) [.agg (inV x D), .agg (inV x A)] [.agg (inV x B), .agg (inV x A)] (.v (.one (.sb (eqIn x x))))
  (fun ρ w hp => CallsK.gives (cSame26 x x D A hx) ⟨rfl, rfl, rfl⟩ (fun _ _ => rfl) ρ w (persOk_sub hp (fun p h => by
    rcases List.mem_append.1 h with h | h
    · exact List.mem_append_left _ (List.mem_append_left _ h)
    · exact List.mem_append_right _ h)))
  (fun ρ w hp => CallsK.gives (cSame26 x x B A hx) ⟨rfl, rfl, rfl⟩ (fun _ _ => rfl) ρ w (persOk_sub hp (fun p h => by
    rcases List.mem_append.1 h with h | h
    · exact List.mem_append_left _ (List.mem_append_right _ h)
    · exact List.mem_append_right _ h)))
end Go.Proofs
end
section
namespace Go.Proofs
open Go Go.SX
set_option maxRecDepth 10000
end Go.Proofs
end
section
namespace Go.Proofs
open Go Go.SX Go.ChangeShapes Go.WideShapes Go.ChangeAt Go.RowKit
set_option maxRecDepth 10000
section
variable {H : Type} {enc : TypeId × Value → H} {w : World} {base : Nat} {sp : Nat → Bool} {held : Bool}
noncomputable def fsOf (t : TypeId) : Array Field := match Tryz.prog.underlying t with
  | some (.struct fs) => fs
  | _ => #[]
theorem fields {t : TypeId} {fuel : Nat} {cs : List Value} {x : DataW H × List MemPlace} (hu : Tryz.prog.underlying t = some (.struct (fsOf t))) (h : DataW.trod enc Tryz.prog w base sp held fuel t cs = some x) :
    cs.length = Tryz.prog.cellsOf t ∧ ∃ n, ∀ (i : Nat) (t' : TypeId) (o k : Nat), ((fsOf t)[i]?).map (fun f => (f.type, f.offset)) = some (t', o) → Tryz.prog.cellsOf t' = k → ∃ y, DataW.trod enc Tryz.prog w base sp held n t' ((cs.drop o).take k) = some y := by
  obtain ⟨xs, n, _, _, hl, hxl, hf⟩ := DataW.trod_struct hu h
  refine ⟨hl, n, fun i t' o k h1 h2 => ?_⟩
  cases e : (fsOf t)[i]? with
  | none => rw [e] at h1; cases h1
  | some f =>
    rw [e] at h1
    simp only [Option.map_some, Option.some.injEq, Prod.mk.injEq] at h1
    obtain ⟨h3, h4⟩ := h1
    subst h3 h4 h2
    have hi : i < xs.length := by rw [hxl]; exact (Array.getElem?_eq_some_iff.1 e).1
    exact ⟨xs[i], by rw [hf i f e, List.getElem?_eq_getElem hi]⟩
def LastP (p : Pers) (w : World) : Prop := p.φ w ∧ ∀ k, p.D k → k < w.heap.size
end
end Go.Proofs
end
section
namespace Go.Proofs
open Go Go.SX Go.ChangeShapes Go.WideShapes Go.ChangeAt Go.RowKit
set_option maxRecDepth 10000
theorem allKids : Kids Tryz.prog (· < Tryz.prog.types.size) := kids_rows kq kq
theorem allFull : ∀ t e, t < Tryz.prog.types.size → Tryz.prog.underlying t = some (.slice e) → 0 < Tryz.prog.cellsOf e := slices_full_of Tryz.prog kq
section
variable {H : Type} {enc : TypeId × Value → H}
theorem trodAll_carry {w w' : World} {base : Nat} {sp : Nat → Bool} {held : Bool} : ∀ {ts : List TypeId} {vs : List Value} {ds : List (DataW H)} {ps : List MemPlace},
    DataW.TrodAll enc Tryz.prog w base sp held ts vs ds ps → (∀ p ∈ ps, w.sameAt w' p) → DataW.TrodAll enc Tryz.prog w' base sp held ts vs ds ps
  | [], [], [], _, h, _ => h
  | _ :: _, _ :: _, _ :: _, _, ⟨p, q, ⟨n, h1⟩, h2, e⟩, hs =>
    ⟨p, q, ⟨n, DataW.trod_carry n _ _ _ h1 (fun x hx => hs x (by rw [e]; exact List.mem_append_left _ hx))⟩, trodAll_carry h2 (fun x hx => hs x (by rw [e]; exact List.mem_append_right _ hx)), e⟩
theorem same_of_chg {W W' : World} (hc : Chg (fun _ => False) W W') (p : MemPlace) (hp : p.block < W.heap.size) : W.sameAt W' p := by
  cases p with
  | cell b off => exact World.cell?_of_block (w := W) (a := ⟨b, off, none⟩) (hc.block b hp id)
  | map b => exact hc.block b hp id
theorem post_true {f : Func} {s : ChangeSpec} {apart fresh handsOn : Bool} {W W' : World} {args : Array Value} {ds : List (DataW H)} {before : List MemPlace}
    (hv : s.vars = []) (hr : f.resultTypes = #[4]) (hp : ∀ t ∈ f.params.toList, t < Tryz.prog.types.size)
    (hW : DataW.Whole enc Tryz.prog f.params.toList s.vars apart W args.toList ds [] before)
    (hs : s.fn H (ds ++ []) = { results := [.lit (.bool true)], args := ds })
    (hc : Chg (fun _ => False) W W') : s.post enc Tryz.prog f apart fresh handsOn false W args (.bool true) W' := by
  have hlt := hW.lt
  have hW0 := hW
  obtain ⟨p, q, hA, hV, e, hz, hn⟩ := hW
  rw [hv] at hV
  obtain ⟨_, rfl⟩ := trodVars_none hV
  have hpl : ∀ x ∈ p, x.block < W.heap.size := fun x hx => hlt x (by rw [e]; exact List.mem_append_left _ hx)
  refine ⟨ds, [], before, [], p, [], hW0, ?_, ?_, ?_, ?_, fun h => by cases h⟩
  · rw [hs, hr]
    exact trodAll_mk1 (shut_bool Tryz.underlying4 true)
  · rw [hs]
    exact trodAll_carry (DataW.TrodAll.respare allKids allFull hp hA (fun x hx => decide_eq_true (hpl x hx))) (fun x hx => same_of_chg hc x (hpl x hx))
  · rw [hs, hv]
    rfl
  · exact (World.keptBut_refl W _).congr hc.os hc.output (fun i hi => hc.block i hi id)
end
end Go.Proofs
end
section
namespace Go.Proofs.YteinbljapojcgaaGreatDoor
open Go Go.SX Go.ChangeShapes Go.WideShapes Go.ChangeAt Go.RowKit
set_option maxRecDepth 100000
section
variable {H : Type} {enc : TypeId × Value → H}
theorem returns_wrap {a : Assume} {C : Checked} {os : Os} {f : FuncId} {fn : Func} {s : ChangeSpec} {conds : List PathCond} {apart fresh handsOn again : Bool} {X : World → Array Value → Prop}
    (hX : ∀ (w w' : World) (args : Array Value), w.heap = w'.heap → X w args → X w' args)
    (own : ownKnob C.prog.godebug = none) (started : os.Started) (noInit : C.prog.inits.idxOf? f = none) (hfn : C.prog.funcs[f]? = some fn)
    (witness : ∃ (w : World) (tape : Tape) (i : Input), w.os = os ∧ (w.forCall tape i).Shaped C.prog ∧ i.vars = [] ∧ Input.okWide C.prog (w.forCall tape i) .any w.heap.size f i ∧
      ((s.pre enc C.prog fn conds apart (w.forCall tape i).memory i.args ∧ X (w.forCall tape i).memory i.args) ∧ sizedMet enc C.prog fn (OpenSpec.ofChange s) apart (w.forCall tape i).memory i.args) ∧ a.holds C.prog (lone (Frame.enter C.prog f i.args .normal) [] (w.forCall tape i)))
    (contract : ∀ (W : World) (base : Nat) (args : Array Value) (ds gs : List (DataW H)) (before : List MemPlace),
      (∀ (j : Nat) t v, fn.params[j]? = some t → args[j]? = some v → Value.okWide C.prog W .any base t v) →
      DataW.Whole enc C.prog fn.params.toList s.vars apart W args.toList ds gs before →
      X W args → W.ShapedOpen C.prog →
      Calls C.prog f args W fun e W' => ∃ v, e = .returned v ∧ s.post enc C.prog fn apart fresh handsOn again W args v W') :
    ReturnsInHanded a C os f .any (fun w args => (s.pre enc C.prog fn conds apart w args ∧ X w args) ∧ sizedMet enc C.prog fn (OpenSpec.ofChange s) apart w args) (s.post enc C.prog fn apart fresh handsOn again) := by
  refine returnsInHanded_of_calls own started noInit witness ?_
  intro w tape i _ hsh _ hok hpre hholds
  obtain ⟨_, _, _, fn', hfn', _, _, _, _, hval⟩ := hok
  have e : fn' = fn := Option.some.inj (hfn'.symm.trans hfn)
  subst e
  obtain ⟨⟨⟨ds, gs, before, hw, hc⟩, hx⟩, hz⟩ := hpre
  have hw' := DataW.Whole.of_heap (w' := w.forCall tape i) (by rfl) hw
  refine (contract (w.forCall tape i) w.heap.size i.args ds gs before hval hw' (hX _ _ _ (by rfl) hx) hsh).mono fun e W' ⟨v, he, hp⟩ => ?_
  subst he
  exact ChangeSpec.post_blind hp
theorem iface_cell {P : Program} {w : World} {base : Nat} {sp : Nat → Bool} {held : Bool} {t : TypeId} {ms : Array (String × TypeId)} {n : Nat} {cs : List Value} {u : String} {d : DataW H} {ps : List MemPlace} (ht : P.underlying t = some (.interface ms))
    (h : DataW.trod enc P w base sp held n t cs = some (.iface u d, ps)) : ∃ tp p, cs = [.iface tp p] := by
  cases n with
  | zero => simp [DataW.trod] at h
  | succ n =>
    unfold DataW.trod at h
    rw [ht] at h
    split at h <;> first | exact ⟨_, _, rfl⟩ | simp_all
end
noncomputable def laidL : List (String × DataW Unit) := Rows.codeOrderRow.laid
theorem tab_e (nm : String) (g t e n : Nat) (k : IntKind) (zs : List Int) (W : World) (d : DataW Unit) (hd : d = Lib.tabData k zs) (hg : Tryz.prog.globalNamed nm = some g) (hty : (Tryz.prog.globals[g]?).map (·.type) = some t)
    (ht : Tryz.prog.underlying t = some (.array n e)) (he : Tryz.prog.underlying e = some (.int k)) (hce : Tryz.prog.cellsOf e = 1) (hct : Tryz.prog.cellsOf t = n)
    (h : ∃ g t cs fuel p, Tryz.prog.globalNamed nm = some g ∧ (Tryz.prog.globals[g]?).map (·.type) = some t ∧ W.var? Tryz.prog nm = some cs ∧ DataW.trod (fun _ => ()) Tryz.prog W 0 (fun _ => true) false fuel t cs.toList = some (d, p)) : Lib.TabIs Tryz.prog W nm k zs := by
  obtain ⟨g', t', cs, fuel, p, h1, h2, h3, h4⟩ := h
  obtain rfl := Option.some.inj (hg.symm.trans h1)
  obtain rfl := Option.some.inj (hty.symm.trans h2)
  subst hd
  unfold Lib.TabIs
  rw [h3, ← Lib.cells_of_tab ht he hce hct h4]
theorem iface_e (nm : String) (g t : Nat) (ms : Array (String × TypeId)) (W : World) (u : String) (d : DataW Unit) (hg : Tryz.prog.globalNamed nm = some g) (hty : (Tryz.prog.globals[g]?).map (·.type) = some t) (ht : Tryz.prog.underlying t = some (.interface ms))
    (h : ∃ g t cs fuel p, Tryz.prog.globalNamed nm = some g ∧ (Tryz.prog.globals[g]?).map (·.type) = some t ∧ W.var? Tryz.prog nm = some cs ∧ DataW.trod (fun _ => ()) Tryz.prog W 0 (fun _ => true) false fuel t cs.toList = some (.iface u d, p)) : ∃ tp p, W.var? Tryz.prog nm = some #[Value.iface tp p] := by
  obtain ⟨g', t', cs, fuel, p, h1, h2, h3, h4⟩ := h
  obtain rfl := Option.some.inj (hg.symm.trans h1)
  obtain rfl := Option.some.inj (hty.symm.trans h2)
  obtain ⟨tp, q, e⟩ := iface_cell ht h4
  exact ⟨tp, q, by rw [h3, Array.eq_one_of_toList e]⟩
theorem laid_at {P : Program} {w : World} : ∀ {l : List (String × DataW Unit)} {ps : List MemPlace}, DataW.LaidVars P w l ps → ∀ (n : String) (d : DataW Unit), (n, d) ∈ l →
    ∃ g t cs fuel p, P.globalNamed n = some g ∧ (P.globals[g]?).map (·.type) = some t ∧ w.var? P n = some cs ∧ DataW.trod (fun _ => ()) P w 0 (fun _ => true) false fuel t cs.toList = some (d, p)
  | [], _, _, n, d, h => by cases h
  | (m, e) :: l, _, ⟨g, t, cs, fuel, p, q, h1, h2, h3, h4, h5, _⟩, n, d, h => by
    rcases List.mem_cons.1 h with e1 | h
    · obtain ⟨rfl, rfl⟩ := Prod.mk.inj e1
      exact ⟨g, t, cs, fuel, p, h1, h2, h3, h4⟩
    · exact laid_at h5 n d h
theorem glb_of_laid {W : World} (h : laidMetH Tryz.prog laidL W) (hsh : W.ShapedOpen Tryz.prog) : LastP glbP W := by
  rw [MakeChecks.laidMetH_plain _ _ _ kq] at h
  obtain ⟨ps, hL, _, _⟩ := h
  have h11 : 11 < W.heap.size := by
    have h0 : ((begin Tryz.prog (fun _ _ => 0) default).world.heap[11]?).bind Obj.row? = some (#[.pointer none], 258) := kq
    obtain ⟨cs, hh, _⟩ := hsh.1 11 #[.pointer none] 258 (of_decide_eq_true kq) h0
    rcases Nat.lt_or_ge 11 W.heap.size with hlt | hge
    · exact hlt
    · rw [Array.getElem?_eq_none hge] at hh; cases hh
  refine ⟨⟨?_, ?_, ?_, ?_, ?_, ?_⟩, fun k hk => Nat.lt_of_lt_of_le hk h11⟩
  · exact tab_e _ 3 296 106 20 .u64 Lib.pow10Tab W _ kq kq kq kq kq kq kq (laid_at hL _ Rows.laid_internal_strconv_uint64pow10 (List.mem_of_getElem? (i := 2) kq))
  · exact iface_e _ 4 139 #[("Error", 142)] W _ _ kq kq kq (laid_at hL _ Rows.laid_strconv_ErrSyntax (List.mem_of_getElem? (i := 5) kq))
  · exact iface_e _ 5 139 #[("Error", 142)] W _ _ kq kq kq (laid_at hL _ Rows.laid_strconv_ErrRange (List.mem_of_getElem? (i := 4) kq))
  · exact cell_of_shapedOpen_int (P := Tryz.prog) (g := 1) (t := 3) (zero := #[.int .i64 0]) hsh (of_decide_eq_true kq) kq rfl kq kq Tryz.underlying3
  · exact tab_e _ 0 229 5 256 .u8 Lib.asciiSpaceTab W _ kq kq kq kq kq kq kq (laid_at hL _ Rows.laid_strings_asciiSpace (List.mem_of_getElem? (i := 7) kq))
  · exact tab_e _ 10 317 5 64 .u8 dbTab W _ kq kq kq kq kq kq kq (laid_at hL _ Rows.laid_math_bits_deBruijn64tab (List.mem_of_getElem? (i := 1) kq))
end Go.Proofs.YteinbljapojcgaaGreatDoor
end
section
namespace Go.SX
def setl (g : Nat) (b : Bool) : RV → RV
  | .grd g' pol c x => match Nat.beq g' g with
    | true => match pol, b with
      | true, true | false, false => .v x
      | _, _ => .v (.one (.val undef))
    | false => .grd g' pol c x
  | v => v
def settleS (g : Nat) (b : Bool) : List (Nat × RV) → List (Nat × RV)
  | [] => []
  | (k, v) :: l => (k, setl g b v) :: settleS g b l
theorem look_settleS {g : Nat} {b : Bool} : ∀ {l : List (Nat × RV)} {i : Nat}, look (settleS g b l) i = (look l i).map (setl g b)
  | [], i => rfl
  | (k, v) :: l, i => by
    simp only [settleS, look]
    cases Nat.beq k i with
    | true => rfl
    | false => exact look_settleS
def lessNat (g : Nat) : List Nat → List Nat
  | [] => []
  | k :: l => match Nat.beq k g with
    | true => lessNat g l
    | false => k :: lessNat g l
theorem hasNat_less {g i : Nat} : ∀ {l : List Nat}, hasNat l i = true → g ≠ i → hasNat (lessNat g l) i = true
  | [], h, _ => h
  | k :: l, h, hn => by
    simp only [lessNat]
    simp only [hasNat] at h
    cases e : Nat.beq k g with
    | true =>
      have := Nat.eq_of_beq_eq_true e
      subst this
      cases e2 : Nat.beq k i with
      | true => exact absurd (Nat.eq_of_beq_eq_true e2) hn
      | false => rw [e2] at h; exact hasNat_less h hn
    | false =>
      simp only [hasNat]
      cases e2 : Nat.beq k i with
      | true => rfl
      | false => rw [e2] at h; exact hasNat_less h hn
variable {C : Ctx}
theorem V.settle (g : Nat) (b e : Bool) {c : Cfg} (hl : look c.st.slots g = some (.v (.one (.sb e)))) (he : e = b)
    (h : V C ⟨c.todo, { c.st with slots := upd (settleS g b c.st.slots) g (.v (.one (.bool b))), gs := lessNat g c.st.gs }⟩) : V C c := by
  subst he
  intro ρ a w hS
  refine h ρ a w ⟨hS.n, fun i v hv => ?_, fun i g' pol c' x hv => ?_, hS.heap, hS.inj, hS.lt, hS.defers, hS.chg, hS.rows, hS.rowsD, hS.pers, hS.fix⟩
  · simp only [look_upd] at hv
    by_cases ei : g = i
    · rw [if_pos ei] at hv
      cases hv
      subst ei
      exact ⟨(hS.slots g _ hl).1, trivial⟩
    · rw [if_neg ei, look_settleS] at hv
      cases h0 : look c.st.slots i with
      | none => rw [h0] at hv; cases hv
      | some v0 =>
        rw [h0] at hv
        cases hv
        obtain ⟨k1, k2⟩ := hS.slots i v0 h0
        cases v0 with
        | grd g' pol c' x =>
          simp only [setl]
          cases eg : Nat.beq g' g with
          | false => exact ⟨k1, k2⟩
          | true =>
            have := Nat.eq_of_beq_eq_true eg
            subst this
            have k3 := (hS.grds i g' pol c' x h0).2
            rw [hl] at k3
            cases k3
            cases pol <;> cases e
            · exact ⟨k1, k2 rfl⟩
            · exact ⟨k1, trivial⟩
            · exact ⟨k1, trivial⟩
            · exact ⟨k1, k2 rfl⟩
        | v x => exact ⟨k1, k2⟩
        | _ => exact ⟨k1, k2⟩
  · simp only [look_upd] at hv ⊢
    by_cases ei : g = i
    · rw [if_pos ei] at hv; cases hv
    · rw [if_neg ei, look_settleS] at hv
      cases h0 : look c.st.slots i with
      | none => rw [h0] at hv; cases hv
      | some v0 =>
        rw [h0] at hv
        cases v0 with
        | grd g2 pol2 c2 x2 =>
          simp only [Option.map_some, setl] at hv
          cases eg : Nat.beq g2 g with
          | true => rw [eg] at hv; cases pol2 <;> cases e <;> cases hv
          | false =>
            rw [eg] at hv
            cases hv
            obtain ⟨k1, k2⟩ := hS.grds i g' pol c' x h0
            have hne : g ≠ g' := fun e' => by subst e'; rw [Nat.beq_refl] at eg; cases eg
            refine ⟨hasNat_less k1 hne, ?_⟩
            rw [if_neg hne, look_settleS, k2]
            rfl
        | v x => cases hv
        | _ => cases hv
end Go.SX
end
section
namespace Go.Proofs
open Go Go.SX
set_option maxRecDepth 10000
theorem blk_row {α : Type} (f : α → List SV) (d : α) (l : List α) (g : Nat) (e : TypeId) (sz : Nat) (hf : ∀ x, (f x).length = sz) (hpl : ∀ x, ∀ y ∈ f x, y.plain) (hm : l.length ≤ maxLen) :
    (∀ k, (rowP (rowL f d l (some ⟨g, 0, none⟩) l.length e sz false)).D k → ∃ q ∈ [blkP g (l.flatMap f) e], q.D k) ∧ (∀ w, (∀ q ∈ [blkP g (l.flatMap f) e], q.φ w) → (rowP (rowL f d l (some ⟨g, 0, none⟩) l.length e sz false)).φ w) :=
  ⟨fun k hk => ⟨_, List.mem_singleton.2 rfl, by
    obtain ⟨a, h1, h2, _⟩ := hk
    have h1' : (some ⟨g, 0, none⟩ : Option Addr) = some a := h1
    cases h1'
    exact h2.symm⟩, fun w hw => rowP_of_blk hf hpl hm w (hw _ (List.mem_singleton.2 rfl))⟩
end Go.Proofs
end
section
namespace Go.Proofs
open Go Go.SX
set_option maxRecDepth 10000
def pastL : List Item → List Item
  | .inLoop _ :: k => k
  | _ :: k => pastL k
  | [] => []
noncomputable def snT2 : List Item := skipU 100 (pastL (skipU 100 [.code (bodyOf Tryz.f14)]))
noncomputable def snSt2 (n0 : Nat) (S : Nat → Prop) (g : Nat) : St :=
  { n := 242, slots := [(11, .v (.one (.ptr 0 0))), (101, .v (.one (.int .i64 4))), (102, .v (.one (.int .i64 4)))], gs := [], heap := [(0, ⟨inV sx4 (sA4 g), 30, true⟩)], next := 1, rows := [], nr := 0,
    pers := [newP n0 S (rowP (rowI sx4 (sA4 g))), newP n0 S (rowP (rowT zeroI IA0)), newP n0 S (rowP (rowI zeroI IA0)), newP n0 S (rowP (rowF zeroI IA0)), glbP], wr := true, fx := 0 }
theorem rlv_plain (x : Int × Int) : ∀ y ∈ rlv x, y.plain := fun y hy => by
  simp only [rlv, List.mem_cons, List.not_mem_nil, or_false] at hy
  rcases hy with rfl | rfl <;> trivial
theorem e3_okL : (emptyI 3).okL := ⟨by decide, by decide, by decide⟩
theorem e0_okL : (emptyI 0).okL := ⟨by decide, by decide, by decide⟩
noncomputable def aBlank5 : Con Tryz.prog := Con.auto Tryz.func49 true [] [] kq kq
def blankC (op : Int) : List SV := (inV (emptyI op) IA0).map fun y => match y with
  | .sb b => .bool b
  | y => y
set_option maxHeartbeats 4000000 in
theorem sane_rest (ρ0 : Nat → Nat) (w0 : World) (g : Nat) : V ⟨Tryz.prog, 14, GivesK ρ0 glbF (fun _ : Unit => True) (fun _ => .v (.one (.sb true))) (fun _ => noF) w0, touch ρ0 glbF, w0, ρ0, none⟩ ⟨snT2, snSt2 w0.heap.size (touch ρ0 glbF) g⟩ := by
  refine V.q ?_
  refine V.known 103 (decide ((4 : Int) < 4)) false kq (by decide) ?_
  refine V.q ?_
  refine V.callK [(4, false), (3, true), (0, true), (1, true)] (xEncode sx4 (sA4 g) sx4_okL sx4_fine) kq kq kq (fun _ => kq) (fun qc4 _ => ?_)
  refine V.q ?_
  refine V.freeze 0 (rowL rlv (0, 0) [(2, 5)] qc4.1 qc4.2 62 2 true) kq kq ?_
  refine V.callK [] (xReadNumber [128, 0] 0 (by decide)) kq kq kq (fun _ => kq) (fun _ _ => ?_)
  refine V.q ?_
  refine V.callK [(5, false)] (xParseNo [83, 84, 69, 80, 32, 48, 49, 48] [[83, 84, 69, 80], [48, 49, 48]] kq (by decide) kq (by decide) (pok_of (o0 := 1) kq kq) kq) kq kq kq (fun _ => kq) (fun _ _ => ?_)
  refine V.q ?_
  refine V.callK [(5, false)] xAsm kq kq kq (fun _ => kq) (fun qc5 _ => ?_)
  refine V.q ?_
  refine V.callK [(6, false), (0, true)] (xPlaces [] ⟨asB, qc5.1, 0, qc5.2⟩ rfl (by decide) (by show 7 ≤ 100000000; decide) 0 4 ([asX1, asX2], [0, 2, 7]) (asV _ _)) kq kq kq (fun _ => kq) (fun qc6 _ => ?_)
  refine V.q ?_
  refine V.settle 205 true ((0 : Int) == 0) kq (by decide) ?_
  refine V.q ?_
  refine V.absB 3 ⟨[.int .i64 2, .int .i64 5], 62, true⟩ kq kq (fun _ => kq) (fun g1 => ?_)
  refine V.persNew [(0, true)] [blkP g1 [.int .i64 2, .int .i64 5] 62] (rowP (rowL rlv (0, 0) [(2, 5)] (some ⟨g1, 0, none⟩) 1 62 2 false)) kq kq (blk_row rlv (0, 0) [(2, 5)] g1 62 2 (fun _ => rfl) rlv_plain (by decide)).1 (blk_row rlv (0, 0) [(2, 5)] g1 62 2 (fun _ => rfl) rlv_plain (by decide)).2 (rowP_stab _) ?_
  refine V.callK [(4, true), (0, true)] (cEqR [(2, 5)] [(2, 5)] qc4.1 (some ⟨g1, 0, none⟩) qc4.2 1 (by decide)) kq kq kq (fun _ => kq) (fun _ _ => ?_)
  refine V.q ?_
  refine V.settle 227 true true kq rfl ?_
  refine V.q ?_
  refine V.absB 3 ⟨[.int .i64 0, .int .i64 2, .int .i64 7], 3, true⟩ kq kq (fun _ => kq) (fun g2 => ?_)
  refine V.persNew [(0, true)] [blkP g2 [.int .i64 0, .int .i64 2, .int .i64 7] 3] (rowP (rowL intv 0 [0, 2, 7] (some ⟨g2, 0, none⟩) 3 3 1 false)) kq kq (blk_row intv 0 [0, 2, 7] g2 3 1 (fun _ => rfl) intv_plain (by decide)).1 (blk_row intv 0 [0, 2, 7] g2 3 1 (fun _ => rfl) intv_plain (by decide)).2 (rowP_stab _) ?_
  refine V.callK [(4, true), (0, true)] (cEqI [0, 2, 7] [0, 2, 7] qc6.1 (some ⟨g2, 0, none⟩) qc6.2 3 (by decide)) kq kq kq (fun _ => kq) (fun _ _ => ?_)
  refine V.q ?_
  refine V.settle 232 true true kq rfl ?_
  refine V.runT [⟨aBlank5, []⟩] [] kq kq trivial ?_
  refine V.slotAs 233 (.agg (blankC 3)) (.agg (inV (emptyI 3) IA0)) kq kq (fun _ => rfl) ?_
  refine V.callK [(11, false), (10, true), (9, true), (8, true)] (xCheck (emptyI 3) IA0 e3_okL) kq kq kq (fun _ => kq) (fun _ _ => ?_)
  refine V.q ?_
  refine V.settle 237 true true kq rfl ?_
  refine V.runT [⟨aBlank5, []⟩] [] kq kq trivial ?_
  refine V.slotAs 238 (.agg (blankC 0)) (.agg (inV (emptyI 0) IA0)) kq kq (fun _ => rfl) ?_
  refine V.callK [(11, false), (10, true), (9, true), (8, true)] (xCheck (emptyI 0) IA0 e0_okL) kq kq kq (fun _ => kq) (fun _ _ => ?_)
  refine V.q ?_
  exact V.z
end Go.Proofs
end
section
namespace Go.Proofs
open Go Go.SX
set_option maxRecDepth 10000
def snT : List (Int × List UInt8) := [(0, [0]), (-1, [1]), (1, [2]), (63, [126]), (64, [128, 1]), (-64, [127]), (-65, [129, 1])]
def snL : Nat → List (Int × List UInt8) → List MapEntry
  | _, [] => []
  | i, p :: l => { key := .int .i64 p.1, val := .string ⟨p.2.toArray⟩, born := i } :: snL (i + 1) l
def snEs : Array MapEntry := (snL 0 snT).toArray
theorem snL_mem : ∀ {l : List (Int × List UInt8)} {i : Nat} {e : MapEntry}, e ∈ snL i l → ∃ p ∈ l, e.key = .int .i64 p.1 ∧ e.val = .string ⟨p.2.toArray⟩ ∧ e.born < i + l.length
  | [], i, e, h => by simp [snL] at h
  | p :: l, i, e, h => by
    simp only [snL, List.mem_cons] at h
    rcases h with rfl | h
    · exact ⟨p, List.mem_cons_self .., rfl, rfl, by simp⟩
    · obtain ⟨p', h1, h2, h3, h4⟩ := snL_mem h
      exact ⟨p', List.mem_cons_of_mem _ h1, h2, h3, by simp only [List.length_cons]; omega⟩
theorem snT_num (p : Int × List UInt8) (h : p ∈ snT) : isNum p.1 = true ∧ encN p.1 = p.2 ∧ rnV p.2 0 = .tup [.one (.int .i64 p.1), .one (.int .i64 (p.2.length : Int)), .one (.int .i64 0)] ∧ p.2.length ≤ 1000000000 := by
  unfold snT at h
  simp only [List.mem_cons, List.not_mem_nil, or_false] at h
  rcases h with rfl | rfl | rfl | rfl | rfl | rfl | rfl <;> exact ⟨by decide, by decide, kq, by decide⟩
theorem snN (p : Int × List UInt8) (h : p ∈ snT) : CallsK Tryz.prog 16 [.one (.int .i64 p.1)] noF (fun _ : Unit => True) (fun _ => .tup [.one (.str p.2), .one (.int .i64 0)]) (fun _ => noF) := by
  have h1 := xNumber p.1
  rw [(snT_num p h).1, (snT_num p h).2.1] at h1
  exact h1
theorem snR (p : Int × List UInt8) (h : p ∈ snT) : CallsK Tryz.prog 18 [.one (.str p.2), .one (.int .i64 0)] noF (fun _ : Unit => True) (fun _ => .tup [.one (.int .i64 p.1), .one (.int .i64 (p.2.length : Int)), .one (.int .i64 0)]) (fun _ => noF) := by
  have h1 := xReadNumber p.2 0 (snT_num p h).2.2.2
  rw [(snT_num p h).2.2.1] at h1
  exact h1
def snSt (n0 : Nat) (S : Nat → Prop) (gL it : Nat) (seen : Array Nat) : St :=
  { n := 242, slots := [(39, .v (.one (.val (.pointer (some ⟨it, 0, none⟩)))))], gs := [], heap := [], next := 0,
    rows := [(0, objRow it (.mapIter (some gL) 7 seen 7))], nr := 1, pers := [newP n0 S (objP gL (.map snEs 7)), glbP], wr := true, fx := 0 }
theorem sn_born : ∀ x ∈ snEs.toList, x.born < 7 := fun e he => by
  obtain ⟨p, _, _, _, h⟩ := snL_mem (l := snT) (i := 0) he
  simpa [snT] using h
theorem sn_nodup : (snEs.toList.map (·.born)).Nodup := by
  show [0, 1, 2, 3, 4, 5, 6].Nodup
  decide
noncomputable def aBlank : Con Tryz.prog := Con.auto Tryz.func49 true [] [] kq kq
theorem sx4_l (g : Nat) : (∀ k, (rowP (rowI sx4 (sA4 g))).D k → ∃ q ∈ [blkP g [.int .i64 2] 3], q.D k) ∧ (∀ w, (∀ q ∈ [blkP g [.int .i64 2] 3], q.φ w) → (rowP (rowI sx4 (sA4 g))).φ w) :=
  ⟨fun k hk => ⟨_, List.mem_singleton.2 rfl, by
    obtain ⟨a, h1, h2, _⟩ := hk
    have h1' : (some ⟨g, 0, none⟩ : Option Addr) = some a := h1
    cases h1'
    exact h2.symm⟩, fun w hw => rowP_of_blk (f := intv) (d := 0) (l := [2]) (e := 3) (sz := 1) (fun _ => rfl) (fun x y hy => by rw [List.mem_singleton.1 hy]; trivial) (by decide) w (hw _ (List.mem_singleton.2 rfl))⟩
set_option maxHeartbeats 4000000 in
theorem sane_ : CallsK Tryz.prog 14 [] glbF (fun _ : Unit => True) (fun _ => .v (.one (.sb true))) (fun _ => noF) := by
  refine CallsK.mk true Tryz.func14 kq kq (fun ρ0 w0 => ?_)
  refine V.q ?_
  refine V.mkMap 86 kq (fun _ => kq) (fun gL => ?_)
  refine V.runM [] 0 7 [] (List.replicate 7 (gL, gL)) kq kq trivial (fun p hp => by rw [List.eq_of_mem_replicate hp]) ?_
  refine V.q ?_
  refine V.freezeObj 0 gL (.map snEs 7) kq ?_
  refine V.range 86 3 9 gL snEs 7 kq kq (fun ρ a w hS => hS.objN (n0 := w0.heap.size) (S := touch ρ0 glbF) 0 kq) (fun _ => kq) (fun it => ?_)
  refine V.q ?_
  refine V.iter ?_
  refine V.loopTo [39] [] [1] [true, true] (fun seen : Array Nat => (leftOf snEs seen).size) (snSt w0.heap.size (touch ρ0 glbF) gL it) (fun _ => True) #[] kq trivial (fun seen _ ih => ?_)
  refine V.q ?_
  refine V.next it 0 gL 7 7 7 seen snEs kq kq (fun ρ a w hS => hS.objN (n0 := w0.heap.size) (S := touch ρ0 glbF) 0 kq) sn_born (Nat.le_refl _) kq (fun e he => kq) (fun hsz => ?_) (fun e he => ?_)
  · refine V.runT [⟨aBlank, []⟩] [] kq kq trivial ?_
    refine V.soft 5 ?_
    refine V.soft 3 ?_
    refine V.absB 4 ⟨[.int .i64 2], 3, true⟩ kq kq (fun _ => kq) (fun g => ?_)
    refine V.persNew [] [] (rowP (rowF zeroI IA0)) kq kq (fun k hk => absurd hk ((row_none (R := rowF zeroI IA0) rfl rfl rfl).1 k)) (fun w _ => (row_none (R := rowF zeroI IA0) rfl rfl rfl).2 w) (rowP_stab _) ?_
    refine V.persNew [] [] (rowP (rowI zeroI IA0)) kq kq (fun k hk => absurd hk ((row_none (R := rowI zeroI IA0) rfl rfl rfl).1 k)) (fun w _ => (row_none (R := rowI zeroI IA0) rfl rfl rfl).2 w) (rowP_stab _) ?_
    refine V.persNew [] [] (rowP (rowT zeroI IA0)) kq kq (fun k hk => absurd hk ((row_none (R := rowT zeroI IA0) rfl rfl rfl).1 k)) (fun w _ => (row_none (R := rowT zeroI IA0) rfl rfl rfl).2 w) (rowP_stab _) ?_
    refine V.persNew [(3, true)] [blkP g [.int .i64 2] 3] (rowP (rowI sx4 (sA4 g))) kq kq (sx4_l g).1 (sx4_l g).2 (rowP_stab _) ?_
    refine V.iter ?_
    refine V.q ?_
    refine V.known 103 (decide ((0 : Int) < 4)) true kq (by decide) ?_
    refine V.runT [] [(0 : Int) ≤ 0 ∧ (0 : Int) < 4] kq kq ⟨by decide, by decide⟩ ?_
    refine V.callK [(6, false), (3, true), (2, true), (1, true)] (xEncode sx1 IA0 sx1_okL sx1_fine) kq kq kq (fun _ => kq) (fun qc0 _ => ?_)
    refine V.q ?_
    refine V.freeze 1 (rowL rlv (0, 0) [] qc0.1 qc0.2 62 2 true) kq kq ?_
    refine V.callK [(7, false), (0, true)] (xDecode [] ⟨[3, 8, 2], qc0.1, 0, qc0.2⟩ rfl (by decide) 0 ⟨by show 3 ≤ 1000000000; decide, Nat.zero_le _⟩ kq) kq kq kq (fun _ => kq) (fun yd0 hd0 => ?_)
    obtain ⟨d0, D0⟩ := yd0
    have ed0 : d0 = sx1 := hd0.trans (sx1_dec qc0.1 qc0.2)
    subst ed0
    refine V.q ?_
    refine V.callK [(10, false), (7, true), (6, true), (5, true)] (xText sx1 IA0 sx1_okL 3 kq kq kq sx1_fine) kq kq kq (fun _ => kq) (fun _ _ => ?_)
    refine V.q ?_
    refine V.callK [(10, false)] (xParse [77, 79, 86, 69, 32, 114, 51, 32, 114, 48] [[77, 79, 86, 69], [114, 51], [114, 48]] sx1 kq (by decide) kq (by decide) (pok_of sx1_find sx1_pok) sx1_read) kq kq kq (fun _ => kq) (fun yp0 hp0 => ?_)
    obtain ⟨p0, P0⟩ := yp0
    have ep0 : p0 = sx1 := hp0
    subst ep0
    refine V.persAs [(10, true)] [rowP (rowF sx1 IA0)] (rowP (rowF sx1 IA0)) kq (fun k hk => ⟨_, List.mem_singleton.2 rfl, hk⟩) (fun w hw => hw _ (List.mem_singleton.2 rfl)) (rowP_stab _) ?_
    refine V.persAs [(10, true)] [rowP (rowI sx1 IA0)] (rowP (rowI sx1 IA0)) kq (fun k hk => ⟨_, List.mem_singleton.2 rfl, hk⟩) (fun w hw => hw _ (List.mem_singleton.2 rfl)) (rowP_stab _) ?_
    refine V.persAs [(10, true)] [rowP (rowT sx1 IA0)] (rowP (rowT sx1 IA0)) kq (fun k hk => ⟨_, List.mem_singleton.2 rfl, hk⟩) (fun w hw => hw _ (List.mem_singleton.2 rfl)) (rowP_stab _) ?_
    refine V.persAs [(6, true)] [rowP (rowF sx1 D0)] (rowP (rowF sx1 D0)) kq (fun k hk => ⟨_, List.mem_singleton.2 rfl, hk⟩) (fun w hw => hw _ (List.mem_singleton.2 rfl)) (rowP_stab _) ?_
    refine V.persAs [(8, true)] [rowP (rowI sx1 D0)] (rowP (rowI sx1 D0)) kq (fun k hk => ⟨_, List.mem_singleton.2 rfl, hk⟩) (fun w hw => hw _ (List.mem_singleton.2 rfl)) (rowP_stab _) ?_
    refine V.persAs [(10, true)] [rowP (rowT sx1 D0)] (rowP (rowT sx1 D0)) kq (fun k hk => ⟨_, List.mem_singleton.2 rfl, hk⟩) (fun w hw => hw _ (List.mem_singleton.2 rfl)) (rowP_stab _) ?_
    refine V.persAs [(6, true)] [rowP (rowF sx1 P0)] (rowP (rowF sx1 P0)) kq (fun k hk => ⟨_, List.mem_singleton.2 rfl, hk⟩) (fun w hw => hw _ (List.mem_singleton.2 rfl)) (rowP_stab _) ?_
    refine V.persAs [(8, true)] [rowP (rowI sx1 P0)] (rowP (rowI sx1 P0)) kq (fun k hk => ⟨_, List.mem_singleton.2 rfl, hk⟩) (fun w hw => hw _ (List.mem_singleton.2 rfl)) (rowP_stab _) ?_
    refine V.persAs [(10, true)] [rowP (rowT sx1 P0)] (rowP (rowT sx1 P0)) kq (fun k hk => ⟨_, List.mem_singleton.2 rfl, hk⟩) (fun w hw => hw _ (List.mem_singleton.2 rfl)) (rowP_stab _) ?_
    refine V.runT [⟨sSame2 sx1 IA0 P0 D0 sx1_okL, [17, 18, 19, 20, 21, 22, 14, 15, 16]⟩] [((false = false) → (([.agg (inV sx1 D0), .agg (inV sx1 IA0)] : List CV) = [.agg (inV sx1 D0), .agg (inV sx1 IA0)] ∨ ([.agg (inV sx1 D0), .agg (inV sx1 IA0)] : List CV) = [.agg (inV sx1 P0), .agg (inV sx1 IA0)])), ((false = false) → (([.agg (inV sx1 P0), .agg (inV sx1 IA0)] : List CV) = [.agg (inV sx1 D0), .agg (inV sx1 IA0)] ∨ ([.agg (inV sx1 P0), .agg (inV sx1 IA0)] : List CV) = [.agg (inV sx1 P0), .agg (inV sx1 IA0)]))] kq kq ⟨fun _ => .inl rfl, fun _ => .inr rfl⟩ ?_
    refine V.known 176 false false kq rfl ?_
    refine V.q ?_
    refine V.iter ?_
    refine V.ungrd ?_
    refine V.q ?_
    refine V.known 103 (decide ((1 : Int) < 4)) true kq (by decide) ?_
    refine V.runT [] [(0 : Int) ≤ 1 ∧ (1 : Int) < 4] kq kq ⟨by decide, by decide⟩ ?_
    refine V.callK [(22, false), (19, true), (18, true), (17, true)] (xEncode sx2 IA0 sx2_okL sx2_fine) kq kq kq (fun _ => kq) (fun qc1 _ => ?_)
    refine V.q ?_
    refine V.freeze 2 (rowL rlv (0, 0) [] qc1.1 qc1.2 62 2 true) kq kq ?_
    refine V.callK [(23, false), (0, true)] (xDecode [] ⟨[14, 0, 0, 1, 2], qc1.1, 0, qc1.2⟩ rfl (by decide) 0 ⟨by show 5 ≤ 1000000000; decide, Nat.zero_le _⟩ kq) kq kq kq (fun _ => kq) (fun yd1 hd1 => ?_)
    obtain ⟨d1, D1⟩ := yd1
    have ed1 : d1 = sx2 := hd1.trans (sx2_dec qc1.1 qc1.2)
    subst ed1
    refine V.q ?_
    refine V.callK [(26, false), (23, true), (22, true), (21, true)] (xText sx2 IA0 sx2_okL 14 kq kq kq sx2_fine) kq kq kq (fun _ => kq) (fun _ _ => ?_)
    refine V.q ?_
    refine V.callK [(26, false)] (xParse [74, 85, 77, 80, 32, 64, 50, 53, 56] [[74, 85, 77, 80], [64, 50, 53, 56]] sx2 kq (by decide) kq (by decide) (pok_of sx2_find sx2_pok) sx2_read) kq kq kq (fun _ => kq) (fun yp1 hp1 => ?_)
    obtain ⟨p1, P1⟩ := yp1
    have ep1 : p1 = sx2 := hp1
    subst ep1
    refine V.persAs [(26, true)] [rowP (rowF sx2 IA0)] (rowP (rowF sx2 IA0)) kq (fun k hk => ⟨_, List.mem_singleton.2 rfl, hk⟩) (fun w hw => hw _ (List.mem_singleton.2 rfl)) (rowP_stab _) ?_
    refine V.persAs [(26, true)] [rowP (rowI sx2 IA0)] (rowP (rowI sx2 IA0)) kq (fun k hk => ⟨_, List.mem_singleton.2 rfl, hk⟩) (fun w hw => hw _ (List.mem_singleton.2 rfl)) (rowP_stab _) ?_
    refine V.persAs [(26, true)] [rowP (rowT sx2 IA0)] (rowP (rowT sx2 IA0)) kq (fun k hk => ⟨_, List.mem_singleton.2 rfl, hk⟩) (fun w hw => hw _ (List.mem_singleton.2 rfl)) (rowP_stab _) ?_
    refine V.persAs [(6, true)] [rowP (rowF sx2 D1)] (rowP (rowF sx2 D1)) kq (fun k hk => ⟨_, List.mem_singleton.2 rfl, hk⟩) (fun w hw => hw _ (List.mem_singleton.2 rfl)) (rowP_stab _) ?_
    refine V.persAs [(8, true)] [rowP (rowI sx2 D1)] (rowP (rowI sx2 D1)) kq (fun k hk => ⟨_, List.mem_singleton.2 rfl, hk⟩) (fun w hw => hw _ (List.mem_singleton.2 rfl)) (rowP_stab _) ?_
    refine V.persAs [(10, true)] [rowP (rowT sx2 D1)] (rowP (rowT sx2 D1)) kq (fun k hk => ⟨_, List.mem_singleton.2 rfl, hk⟩) (fun w hw => hw _ (List.mem_singleton.2 rfl)) (rowP_stab _) ?_
    refine V.persAs [(6, true)] [rowP (rowF sx2 P1)] (rowP (rowF sx2 P1)) kq (fun k hk => ⟨_, List.mem_singleton.2 rfl, hk⟩) (fun w hw => hw _ (List.mem_singleton.2 rfl)) (rowP_stab _) ?_
    refine V.persAs [(8, true)] [rowP (rowI sx2 P1)] (rowP (rowI sx2 P1)) kq (fun k hk => ⟨_, List.mem_singleton.2 rfl, hk⟩) (fun w hw => hw _ (List.mem_singleton.2 rfl)) (rowP_stab _) ?_
    refine V.persAs [(10, true)] [rowP (rowT sx2 P1)] (rowP (rowT sx2 P1)) kq (fun k hk => ⟨_, List.mem_singleton.2 rfl, hk⟩) (fun w hw => hw _ (List.mem_singleton.2 rfl)) (rowP_stab _) ?_
    refine V.runT [⟨sSame2 sx2 IA0 P1 D1 sx2_okL, [33, 34, 35, 36, 37, 38, 30, 31, 32]⟩] [((false = false) → (([.agg (inV sx2 D1), .agg (inV sx2 IA0)] : List CV) = [.agg (inV sx2 D1), .agg (inV sx2 IA0)] ∨ ([.agg (inV sx2 D1), .agg (inV sx2 IA0)] : List CV) = [.agg (inV sx2 P1), .agg (inV sx2 IA0)])), ((false = false) → (([.agg (inV sx2 P1), .agg (inV sx2 IA0)] : List CV) = [.agg (inV sx2 D1), .agg (inV sx2 IA0)] ∨ ([.agg (inV sx2 P1), .agg (inV sx2 IA0)] : List CV) = [.agg (inV sx2 P1), .agg (inV sx2 IA0)]))] kq kq ⟨fun _ => .inl rfl, fun _ => .inr rfl⟩ ?_
    refine V.known 176 false false kq rfl ?_
    refine V.q ?_
    refine V.iter ?_
    refine V.ungrd ?_
    refine V.q ?_
    refine V.known 103 (decide ((2 : Int) < 4)) true kq (by decide) ?_
    refine V.runT [] [(0 : Int) ≤ 2 ∧ (2 : Int) < 4] kq kq ⟨by decide, by decide⟩ ?_
    refine V.callK [(38, false), (35, true), (34, true), (33, true)] (xEncode sx3 IA0 sx3_okL sx3_fine) kq kq kq (fun _ => kq) (fun qc2 _ => ?_)
    refine V.q ?_
    refine V.freeze 3 (rowL rlv (0, 0) [] qc2.1 qc2.2 62 2 true) kq kq ?_
    refine V.callK [(39, false), (0, true)] (xDecode [] ⟨[8, 2, 4, 4, 30, 0, 0, 0], qc2.1, 0, qc2.2⟩ rfl (by decide) 0 ⟨by show 8 ≤ 1000000000; decide, Nat.zero_le _⟩ kq) kq kq kq (fun _ => kq) (fun yd2 hd2 => ?_)
    obtain ⟨d2, D2⟩ := yd2
    have ed2 : d2 = sx3 := hd2.trans (sx3_dec qc2.1 qc2.2)
    subst ed2
    refine V.q ?_
    refine V.callK [(42, false), (39, true), (38, true), (37, true)] (xText sx3 IA0 sx3_okL 8 kq kq kq sx3_fine) kq kq kq (fun _ => kq) (fun _ _ => ?_)
    refine V.q ?_
    refine V.callK [(42, false)] (xParse [76, 79, 65, 68, 32, 114, 48, 32, 114, 49, 32, 50, 44, 49, 53, 44, 48, 44, 48, 44, 61] [[76, 79, 65, 68], [114, 48], [114, 49], [50, 44, 49, 53, 44, 48, 44, 48, 44, 61]] sx3 kq (by decide) kq (by decide) (pok_of sx3_find sx3_pok) sx3_read) kq kq kq (fun _ => kq) (fun yp2 hp2 => ?_)
    obtain ⟨p2, P2⟩ := yp2
    have ep2 : p2 = sx3 := hp2
    subst ep2
    refine V.persAs [(42, true)] [rowP (rowF sx3 IA0)] (rowP (rowF sx3 IA0)) kq (fun k hk => ⟨_, List.mem_singleton.2 rfl, hk⟩) (fun w hw => hw _ (List.mem_singleton.2 rfl)) (rowP_stab _) ?_
    refine V.persAs [(42, true)] [rowP (rowI sx3 IA0)] (rowP (rowI sx3 IA0)) kq (fun k hk => ⟨_, List.mem_singleton.2 rfl, hk⟩) (fun w hw => hw _ (List.mem_singleton.2 rfl)) (rowP_stab _) ?_
    refine V.persAs [(42, true)] [rowP (rowT sx3 IA0)] (rowP (rowT sx3 IA0)) kq (fun k hk => ⟨_, List.mem_singleton.2 rfl, hk⟩) (fun w hw => hw _ (List.mem_singleton.2 rfl)) (rowP_stab _) ?_
    refine V.persAs [(6, true)] [rowP (rowF sx3 D2)] (rowP (rowF sx3 D2)) kq (fun k hk => ⟨_, List.mem_singleton.2 rfl, hk⟩) (fun w hw => hw _ (List.mem_singleton.2 rfl)) (rowP_stab _) ?_
    refine V.persAs [(8, true)] [rowP (rowI sx3 D2)] (rowP (rowI sx3 D2)) kq (fun k hk => ⟨_, List.mem_singleton.2 rfl, hk⟩) (fun w hw => hw _ (List.mem_singleton.2 rfl)) (rowP_stab _) ?_
    refine V.persAs [(10, true)] [rowP (rowT sx3 D2)] (rowP (rowT sx3 D2)) kq (fun k hk => ⟨_, List.mem_singleton.2 rfl, hk⟩) (fun w hw => hw _ (List.mem_singleton.2 rfl)) (rowP_stab _) ?_
    refine V.persAs [(6, true)] [rowP (rowF sx3 P2)] (rowP (rowF sx3 P2)) kq (fun k hk => ⟨_, List.mem_singleton.2 rfl, hk⟩) (fun w hw => hw _ (List.mem_singleton.2 rfl)) (rowP_stab _) ?_
    refine V.persAs [(8, true)] [rowP (rowI sx3 P2)] (rowP (rowI sx3 P2)) kq (fun k hk => ⟨_, List.mem_singleton.2 rfl, hk⟩) (fun w hw => hw _ (List.mem_singleton.2 rfl)) (rowP_stab _) ?_
    refine V.persAs [(10, true)] [rowP (rowT sx3 P2)] (rowP (rowT sx3 P2)) kq (fun k hk => ⟨_, List.mem_singleton.2 rfl, hk⟩) (fun w hw => hw _ (List.mem_singleton.2 rfl)) (rowP_stab _) ?_
    refine V.runT [⟨sSame2 sx3 IA0 P2 D2 sx3_okL, [49, 50, 51, 52, 53, 54, 46, 47, 48]⟩] [((false = false) → (([.agg (inV sx3 D2), .agg (inV sx3 IA0)] : List CV) = [.agg (inV sx3 D2), .agg (inV sx3 IA0)] ∨ ([.agg (inV sx3 D2), .agg (inV sx3 IA0)] : List CV) = [.agg (inV sx3 P2), .agg (inV sx3 IA0)])), ((false = false) → (([.agg (inV sx3 P2), .agg (inV sx3 IA0)] : List CV) = [.agg (inV sx3 D2), .agg (inV sx3 IA0)] ∨ ([.agg (inV sx3 P2), .agg (inV sx3 IA0)] : List CV) = [.agg (inV sx3 P2), .agg (inV sx3 IA0)]))] kq kq ⟨fun _ => .inl rfl, fun _ => .inr rfl⟩ ?_
    refine V.known 176 false false kq rfl ?_
    refine V.q ?_
    refine V.iter ?_
    refine V.ungrd ?_
    refine V.q ?_
    refine V.known 103 (decide ((3 : Int) < 4)) true kq (by decide) ?_
    refine V.runT [] [(0 : Int) ≤ 3 ∧ (3 : Int) < 4] kq kq ⟨by decide, by decide⟩ ?_
    refine V.callK [(54, false), (51, true), (48, true), (49, true)] (xEncode sx4 (sA4 g) sx4_okL sx4_fine) kq kq kq (fun _ => kq) (fun qc3 _ => ?_)
    refine V.q ?_
    refine V.freeze 4 (rowL rlv (0, 0) [(2, 5)] qc3.1 qc3.2 62 2 true) kq kq ?_
    refine V.callK [(55, false), (0, true)] (xDecode [(2, 5)] ⟨[17, 0, 0, 0, 0, 0, 2, 6], qc3.1, 1, qc3.2⟩ rfl (by decide) 0 ⟨by show 8 ≤ 1000000000; decide, Nat.zero_le _⟩ kq) kq kq kq (fun _ => kq) (fun yd3 hd3 => ?_)
    obtain ⟨d3, D3⟩ := yd3
    have ed3 : d3 = sx4 := hd3.trans (sx4_dec qc3.1 qc3.2)
    subst ed3
    refine V.q ?_
    refine V.callK [(58, false), (55, true), (52, true), (53, true)] (xText sx4 (sA4 g) sx4_okL 17 kq kq kq sx4_fine) kq kq kq (fun _ => kq) (fun _ _ => ?_)
    refine V.q ?_
    refine V.callK [(58, false)] (xParse [67, 65, 76, 76, 32, 45, 32, 33, 53, 32, 91, 114, 50, 93] [[67, 65, 76, 76], [45], [33, 53], [91, 114, 50, 93]] sx4 kq (by decide) kq (by decide) (pok_of sx4_find sx4_pok) sx4_read) kq kq kq (fun _ => kq) (fun yp3 hp3 => ?_)
    obtain ⟨p3, P3⟩ := yp3
    have ep3 : p3 = sx4 := hp3
    subst ep3
    refine V.persAs [(58, true)] [rowP (rowF sx4 (sA4 g))] (rowP (rowF sx4 (sA4 g))) kq (fun k hk => ⟨_, List.mem_singleton.2 rfl, hk⟩) (fun w hw => hw _ (List.mem_singleton.2 rfl)) (rowP_stab _) ?_
    refine V.persAs [(56, true)] [rowP (rowI sx4 (sA4 g))] (rowP (rowI sx4 (sA4 g))) kq (fun k hk => ⟨_, List.mem_singleton.2 rfl, hk⟩) (fun w hw => hw _ (List.mem_singleton.2 rfl)) (rowP_stab _) ?_
    refine V.persAs [(58, true)] [rowP (rowT sx4 (sA4 g))] (rowP (rowT sx4 (sA4 g))) kq (fun k hk => ⟨_, List.mem_singleton.2 rfl, hk⟩) (fun w hw => hw _ (List.mem_singleton.2 rfl)) (rowP_stab _) ?_
    refine V.persAs [(6, true)] [rowP (rowF sx4 D3)] (rowP (rowF sx4 D3)) kq (fun k hk => ⟨_, List.mem_singleton.2 rfl, hk⟩) (fun w hw => hw _ (List.mem_singleton.2 rfl)) (rowP_stab _) ?_
    refine V.persAs [(8, true)] [rowP (rowI sx4 D3)] (rowP (rowI sx4 D3)) kq (fun k hk => ⟨_, List.mem_singleton.2 rfl, hk⟩) (fun w hw => hw _ (List.mem_singleton.2 rfl)) (rowP_stab _) ?_
    refine V.persAs [(10, true)] [rowP (rowT sx4 D3)] (rowP (rowT sx4 D3)) kq (fun k hk => ⟨_, List.mem_singleton.2 rfl, hk⟩) (fun w hw => hw _ (List.mem_singleton.2 rfl)) (rowP_stab _) ?_
    refine V.persAs [(6, true)] [rowP (rowF sx4 P3)] (rowP (rowF sx4 P3)) kq (fun k hk => ⟨_, List.mem_singleton.2 rfl, hk⟩) (fun w hw => hw _ (List.mem_singleton.2 rfl)) (rowP_stab _) ?_
    refine V.persAs [(8, true)] [rowP (rowI sx4 P3)] (rowP (rowI sx4 P3)) kq (fun k hk => ⟨_, List.mem_singleton.2 rfl, hk⟩) (fun w hw => hw _ (List.mem_singleton.2 rfl)) (rowP_stab _) ?_
    refine V.persAs [(10, true)] [rowP (rowT sx4 P3)] (rowP (rowT sx4 P3)) kq (fun k hk => ⟨_, List.mem_singleton.2 rfl, hk⟩) (fun w hw => hw _ (List.mem_singleton.2 rfl)) (rowP_stab _) ?_
    refine V.runT [⟨sSame2 sx4 (sA4 g) P3 D3 sx4_okL, [65, 66, 67, 68, 69, 70, 62, 63, 64]⟩] [((false = false) → (([.agg (inV sx4 D3), .agg (inV sx4 (sA4 g))] : List CV) = [.agg (inV sx4 D3), .agg (inV sx4 (sA4 g))] ∨ ([.agg (inV sx4 D3), .agg (inV sx4 (sA4 g))] : List CV) = [.agg (inV sx4 P3), .agg (inV sx4 (sA4 g))])), ((false = false) → (([.agg (inV sx4 P3), .agg (inV sx4 (sA4 g))] : List CV) = [.agg (inV sx4 D3), .agg (inV sx4 (sA4 g))] ∨ ([.agg (inV sx4 P3), .agg (inV sx4 (sA4 g))] : List CV) = [.agg (inV sx4 P3), .agg (inV sx4 (sA4 g))]))] kq kq ⟨fun _ => .inl rfl, fun _ => .inr rfl⟩ ?_
    refine V.known 176 false false kq rfl ?_
    refine V.q ?_
    refine V.iter ?_
    exact V.backK [11, 101, 102] [false, false, false, false, false, false, false, false, false, false, false, false, false, false, false, false, false, false, false, false, false, false, false, false, false, false, false, false, false, false, false, false, false, false, false, false, false, false, false, false, false, false, false, false, false, false, false, false, false, false, false, false, false, false, false, false, false, false, false, false, false, false, false, false, true, true, true, true, false, false, true] (sane_rest ρ0 w0 g) kq kq
  · have hin := left_in' he
    have hlt := leftOf_push_lt he
    obtain ⟨p, hp, hkey, hval, hb⟩ := snL_mem hin
    obtain ⟨ek, ev, eb⟩ := e
    simp only at hkey hval hlt
    subst hkey hval
    refine V.q ?_
    refine V.entry it 0 gL 7 7 seen snEs _ kq kq (fun ρ a w hS => hS.objN (n0 := w0.heap.size) (S := touch ρ0 glbF) 0 kq) hin sn_nodup kq ?_
    refine V.q ?_
    refine V.slotAs 1 (.one (.val (.int .i64 p.1))) (.one (.int .i64 p.1)) kq kq (fun _ => rfl) ?_
    refine V.slotAs 46 (.one (.val (.int .i64 p.1))) (.one (.int .i64 p.1)) kq kq (fun _ => rfl) ?_
    refine V.slotAs 2 (.one (.val (.string ⟨p.2.toArray⟩))) (.one (.str p.2)) kq kq (fun _ => rfl) ?_
    refine V.q ?_
    refine V.callK [] (snN p hp) kq kq kq (fun _ => kq) (fun _ _ => ?_)
    refine V.q ?_
    refine V.callK [] (snR p hp) kq kq kq (fun _ => kq) (fun _ _ => ?_)
    refine V.q ?_
    refine V.known 77 (((((0 : Int) != 0 || !p.2 == p.2) || (0 : Int) != 0) || p.1 != p.1) || (p.2.length : Int) != (p.2.length : Int)) false kq (by simp) ?_
    refine V.q ?_
    refine V.iter ?_
    exact V.back [39] [] [0] [true, true] (ih (seen.push eb) trivial hlt) kq kq
end Go.Proofs
end
section
namespace Go.Proofs
open Go Go.SX
set_option maxRecDepth 10000
theorem groups_ne (k z : Nat) : groups k z ≠ [] := by
  cases k with
  | zero => simp [groups]
  | succ k =>
    by_cases h : z < 128
    · simp [groups_last h]
    · simp [groups_step h]
theorem takeB_in {b : List UInt8} {n : Nat} (h : n < b.length) : takeB (xIn b) ⟨n, false⟩ = (b.getD n 0, ⟨n + 1, false⟩) := by
  unfold takeB
  exact if_pos h
theorem rd_in {b : List UInt8} {k n z m i : Nat} (h : n < b.length) : rdNumL (xIn b) (k + 1) ⟨n, false⟩ z m i =
    if 128 ≤ (b.getD n 0).toNat ∧ i + 1 < 6 then rdNumL (xIn b) k ⟨n + 1, false⟩ (z + (b.getD n 0).toNat % 128 * m) (m * 128) (i + 1)
    else if 128 ≤ (b.getD n 0).toNat ∨ (1 < i + 1 ∧ (b.getD n 0).toNat = 0) ∨ ¬ isNum (unzz (z + (b.getD n 0).toNat % 128 * m)) = true then (0, ⟨n + 1, true⟩) else (unzz (z + (b.getD n 0).toNat % 128 * m), ⟨n + 1, false⟩) := by
  rw [rdNumL]
  simp only [takeB_in h]
end Go.Proofs
end
section
namespace Go.Proofs
open Go Go.SX
set_option maxRecDepth 10000
theorem unzz_zz (n : Int) : unzz (zz n) = n := by
  unfold zz unzz
  split <;> split <;> omega
theorem groups_fuel : ∀ (k k' z : Nat), k ≤ k' → z < 128 ^ (k + 1) → groups k' z = groups k z
  | k, k', z, hk, hz => by
    by_cases h : z < 128
    · rw [groups_last h, groups_last h]
    · match k, k', hk, hz with
      | 0, _, _, hz => simp at hz; omega
      | k + 1, 0, hk, _ => omega
      | k + 1, k' + 1, hk, hz =>
        rw [groups_step h, groups_step h, groups_fuel k k' (z / 128) (by omega) (by rw [Nat.div_lt_iff_lt_mul (by decide), ← Nat.pow_succ]; exact hz)]
theorem groups_pos (k z : Nat) : 0 < (groups k z).length := List.length_pos_iff.2 (groups_ne k z)
theorem groups_mono : ∀ (k a b : Nat), a ≤ b → (groups k a).length ≤ (groups k b).length
  | 0, a, b, _ => by simp [groups]
  | k + 1, a, b, h => by
    by_cases ha : a < 128
    · rw [groups_last ha]
      exact groups_pos _ _
    · have hb : ¬ b < 128 := by omega
      rw [groups_step ha, groups_step hb]
      have := groups_mono k (a / 128) (b / 128) (Nat.div_le_div_right h)
      simp only [List.length_cons]
      omega
theorem drop_cons {b : List UInt8} {a : Nat} {c : UInt8} {l : List UInt8} (h : b.drop a = c :: l) : a < b.length ∧ b.getD a 0 = c ∧ b.drop (a + 1) = l := by
  have hlt : a < b.length := by
    rcases Nat.lt_or_ge a b.length with h1 | h1
    · exact h1
    · rw [List.drop_eq_nil_of_le h1] at h
      cases h
  rw [List.drop_eq_getElem_cons hlt] at h
  injection h with h1 h2
  exact ⟨hlt, by rw [List.getD, List.getElem?_eq_getElem hlt, ← h1]; rfl, h2⟩
theorem rd_groups (b : List UInt8) : ∀ (k z n f acc a : Nat) (rest : List UInt8), n + k ≤ 4 → n + f = 5 → z < 128 ^ (k + 1) → (n = 0 ∨ z ≠ 0) → b.drop a = groups k z ++ rest → isNum (unzz (acc + z * 128 ^ n)) = true →
    rdNumL (xIn b) (f + 1) ⟨a, false⟩ acc (128 ^ n) n = (unzz (acc + z * 128 ^ n), ⟨a + (groups k z).length, false⟩)
  | k, z, n, f, acc, a, rest, hnk, hnf, hz, h0, hd, hnum => by
    by_cases h : z < 128
    · rw [groups_last h] at hd ⊢
      obtain ⟨h1, h2, _⟩ := drop_cons hd
      have hc : (UInt8.ofNat z).toNat = z := by simp; omega
      rw [rd_in h1, h2, hc, Nat.mod_eq_of_lt h, if_neg (by omega), if_neg]
      · rfl
      · rintro (h3 | h3 | h3)
        · omega
        · rcases h0 with h0 | h0
          · omega
          · exact h0 h3.2
        · exact h3 hnum
    · match k, f, hnk, hnf, hz with
      | 0, _, _, _, hz => simp at hz; omega
      | k + 1, 0, hnk, hnf, _ => omega
      | k + 1, f + 1, hnk, hnf, hz =>
        rw [groups_step h] at hd ⊢
        obtain ⟨h1, h2, h3⟩ := drop_cons hd
        have hc : (UInt8.ofNat (z % 128 + 128)).toNat = z % 128 + 128 := by simp; omega
        have hm : (z % 128 + 128) % 128 = z % 128 := by omega
        have hs : acc + z % 128 * 128 ^ n + z / 128 * 128 ^ (n + 1) = acc + z * 128 ^ n := by
          have e1 : z / 128 * 128 ^ (n + 1) = (128 * (z / 128)) * 128 ^ n := by rw [Nat.pow_succ, Nat.mul_comm (128 ^ n) 128, ← Nat.mul_assoc, Nat.mul_comm (z / 128) 128]
          rw [e1, Nat.add_assoc, ← Nat.add_mul, Nat.mod_add_div]
        have ih := rd_groups b k (z / 128) (n + 1) f (acc + z % 128 * 128 ^ n) (a + 1) rest (by omega) (by omega) (by rw [Nat.div_lt_iff_lt_mul (by decide), ← Nat.pow_succ]; exact hz) (.inr (by omega)) h3 (by rw [hs]; exact hnum)
        rw [hs] at ih
        rw [show rdNumL (xIn b) (f + 1 + 1) ⟨a, false⟩ acc (128 ^ n) n = rdNumL (xIn b) (f + 1) ⟨a + 1, false⟩ (acc + z % 128 * 128 ^ n) (128 ^ (n + 1)) (n + 1) by
          rw [rd_in h1, h2, hc, hm, if_pos (by omega), Nat.pow_succ]]
        rw [ih, List.length_cons, Nat.add_assoc, Nat.add_comm 1]
theorem zz_num {m : Int} (h : isNum m = true) : zz m < 4294967296 := by
  unfold isNum at h
  simp only [Bool.and_eq_true, decide_eq_true_eq] at h
  exact zz_lt (by omega) (by omega)
theorem encN_4 {m : Int} (h : isNum m = true) : encN m = groups 4 (zz m) := groups_fuel 4 9 (zz m) (by decide) (Nat.lt_trans (zz_num h) (by decide))
theorem read_enc {b : List UInt8} {a : Nat} {m : Int} {rest : List UInt8} (h : isNum m = true) (hd : b.drop a = encN m ++ rest) : rdNum (xIn b) ⟨a, false⟩ = (m, ⟨a + (encN m).length, false⟩) := by
  rw [encN_4 h] at hd ⊢
  have := rd_groups b 4 (zz m) 0 5 0 a rest (by omega) (by omega) (Nat.lt_trans (zz_num h) (by decide)) (.inl rfl) hd (by rw [Nat.pow_zero, Nat.mul_one, Nat.zero_add, unzz_zz]; exact h)
  rw [Nat.pow_zero, Nat.mul_one, Nat.zero_add, unzz_zz] at this
  exact this
theorem encN_len5 {m : Int} (h : isNum m = true) : 1 ≤ (encN m).length ∧ (encN m).length ≤ 5 := by
  rw [encN_4 h]
  exact ⟨groups_pos _ _, groups_len 4 _⟩
theorem enc_pre {m n : Int} (hm : isNum m = true) (hn : isNum n = true) {t : List UInt8} (h : encN m = encN n ++ t) : m = n := by
  have h1 := read_enc (b := encN m) (a := 0) (rest := []) hm (by simp)
  have h2 := read_enc (b := encN m) (a := 0) (rest := t) hn (by simpa using h)
  rw [h1] at h2
  exact congrArg Prod.fst h2
theorem pre_no {m n : Int} (hm : isNum m = true) (hn : isNum n = true) (hne : m ≠ n) : Lib.hasPrefix (encN m) (encN n) = false := by
  cases h : Lib.hasPrefix (encN m) (encN n) with
  | false => rfl
  | true =>
    rw [← Lib.hasPrefix_of_take] at h
    simp only [Bool.and_eq_true, decide_eq_true_eq, beq_iff_eq] at h
    refine absurd (enc_pre hm hn (t := (encN m).drop (encN n).length) ?_) hne
    have h2 := List.take_append_drop (encN n).length (encN m)
    rw [h.2] at h2
    exact h2.symm
theorem len_mono {m n : Int} (h : max m (-m) > max n (-n)) : (encN n).length ≤ (encN m).length :=
  groups_mono 9 _ _ (by unfold zz; split <;> split <;> omega)
theorem order_read {m : Int} (h : isNum m = true) (s t : List UInt8) : rnR (s ++ encN m ++ t) s.length = (m, ⟨s.length + (encN m).length, false⟩) := by
  unfold rnR
  rw [Int.toNat_natCast]
  exact read_enc h (rest := t) (by rw [List.append_assoc, List.drop_left])
end Go.Proofs
end
section
namespace Go.Proofs
open Go Go.SX
set_option maxRecDepth 10000
theorem xNumberOk (m : Int) (h : isNum m = true) : CallsK Tryz.prog 16 [.one (.int .i64 m)] noF (fun _ : Unit => True) (fun _ => .tup [.one (.str (encN m)), .one (.int .i64 0)]) (fun _ => noF) := by
  have := xNumber m
  rw [h] at this
  exact this
theorem xNumberNo (m : Int) (h : isNum m = false) : CallsK Tryz.prog 16 [.one (.int .i64 m)] noF (fun _ : Unit => True) (fun _ => .tup [.one (.str []), .one (.int .i64 1)]) (fun _ => noF) := by
  have := xNumber m
  rw [h] at this
  exact this
theorem xReadOrd (m : Int) (s : List UInt8) (h : isNum m = true) (hs : s.length ≤ 1000) : CallsK Tryz.prog 18 [.one (.str (s ++ encN m ++ s)), .one (.int .i64 (s.length : Int))] noF (fun _ : Unit => True)
    (fun _ => .tup [.one (.int .i64 m), .one (.int .i64 ((s.length + (encN m).length : Nat) : Int)), .one (.int .i64 0)]) (fun _ => noF) := by
  have h5 := encN_len5 h
  have hl : (s ++ encN m ++ s).length ≤ 1000000000 := by simp; omega
  have := xReadNumber (s ++ encN m ++ s) (s.length : Int) hl
  have e : rnV (s ++ encN m ++ s) (s.length : Int) = .tup [.one (.int .i64 m), .one (.int .i64 ((s.length + (encN m).length : Nat) : Int)), .one (.int .i64 0)] := by
    have hB : rnB (s ++ encN m ++ s) (s.length : Int) = false := by
      unfold rnB
      simp
      omega
    unfold rnV
    rw [hB, order_read h s s]
    rfl
  rw [e] at this
  exact this
theorem le_len {m n : Int} (hm : isNum m = true) (hn : isNum n = true) : (decide ((if IntKind.i64.wrap (0 - m) > m then IntKind.i64.wrap (0 - m) else m) ≤ (if IntKind.i64.wrap (0 - n) > n then IntKind.i64.wrap (0 - n) else n)) || decide (((encN m).length : Int) ≥ ((encN n).length : Int))) = true := by
  have w : ∀ k : Int, isNum k = true → IntKind.i64.wrap (0 - k) = 0 - k := fun k hk => by
    unfold isNum at hk
    simp only [Bool.and_eq_true, decide_eq_true_eq] at hk
    simp [IntKind.wrap, IntKind.bits, IntKind.signed]
    omega
  rw [w m hm, w n hn]
  by_cases h : max m (-m) > max n (-n)
  · have := len_mono h
    have h2 : decide (((encN m).length : Int) ≥ ((encN n).length : Int)) = true := decide_eq_true (by omega)
    rw [h2, Bool.or_true]
  · have h2 : decide ((if 0 - m > m then 0 - m else m) ≤ (if 0 - n > n then 0 - n else n)) = true := decide_eq_true (by split <;> split <;> omega)
    rw [h2, Bool.true_or]
set_option maxHeartbeats 1000000 in
theorem xOrder (m n : Int) (s : List UInt8) : CallsK Tryz.prog 5 [.one (.int .i64 m), .one (.int .i64 n), .one (.str s)] glbF (fun _ : Unit => True) (fun _ => .v (.one (.sb true))) (fun _ => noF) := by
  by_cases hm : isNum m = true
  case neg =>
    have hm : isNum m = false := by simpa using hm
    refine CallsK.mk true Tryz.func5 kq kq (fun ρ w => ?_)
    refine V.q ?_
    refine V.callK [(0, false)] sane_ kq kq kq (fun _ => kq) (fun _ _ => ?_)
    refine V.q ?_
    refine V.known 15 (!true) false kq rfl ?_
    refine V.q ?_
    refine V.callK [] (xNumberNo m hm) kq kq kq (fun _ => kq) (fun _ _ => ?_)
    refine V.q ?_
    refine V.callK [] (xNumber n) kq kq kq (fun _ => kq) (fun _ _ => ?_)
    refine V.q ?_
    refine V.known 36 true true kq rfl ?_
    refine V.q ?_
    refine V.slotAs 6 (.one (.sb true)) (.one (.sb true)) kq kq (fun _ => rfl) ?_
    exact V.z
  by_cases hn : isNum n = true
  case neg =>
    have hn : isNum n = false := by simpa using hn
    refine CallsK.mk true Tryz.func5 kq kq (fun ρ w => ?_)
    refine V.q ?_
    refine V.callK [(0, false)] sane_ kq kq kq (fun _ => kq) (fun _ _ => ?_)
    refine V.q ?_
    refine V.known 15 (!true) false kq rfl ?_
    refine V.q ?_
    refine V.callK [] (xNumberOk m hm) kq kq kq (fun _ => kq) (fun _ _ => ?_)
    refine V.q ?_
    refine V.callK [] (xNumberNo n hn) kq kq kq (fun _ => kq) (fun _ _ => ?_)
    refine V.q ?_
    refine V.known 36 true true kq rfl ?_
    refine V.q ?_
    refine V.slotAs 6 (.one (.sb true)) (.one (.sb true)) kq kq (fun _ => rfl) ?_
    exact V.z
  by_cases hs : s.length ≤ 1000
  case neg =>
    refine CallsK.mk true Tryz.func5 kq kq (fun ρ w => ?_)
    refine V.q ?_
    refine V.callK [(0, false)] sane_ kq kq kq (fun _ => kq) (fun _ _ => ?_)
    refine V.q ?_
    refine V.known 15 (!true) false kq rfl ?_
    refine V.q ?_
    refine V.callK [] (xNumberOk m hm) kq kq kq (fun _ => kq) (fun _ _ => ?_)
    refine V.q ?_
    refine V.callK [] (xNumberOk n hn) kq kq kq (fun _ => kq) (fun _ _ => ?_)
    refine V.q ?_
    refine V.known 36 (decide ((s.length : Int) > 1000)) true kq (decide_eq_true (by omega)) ?_
    refine V.q ?_
    refine V.slotAs 6 (.one (.sb true)) (.one (.sb true)) kq kq (fun _ => rfl) ?_
    exact V.z
  case pos =>
    have h5 := encN_len5 hm
    refine CallsK.mk true Tryz.func5 kq kq (fun ρ w => ?_)
    refine V.q ?_
    refine V.callK [(0, false)] sane_ kq kq kq (fun _ => kq) (fun _ _ => ?_)
    refine V.q ?_
    refine V.known 15 (!true) false kq rfl ?_
    refine V.q ?_
    refine V.callK [] (xNumberOk m hm) kq kq kq (fun _ => kq) (fun _ _ => ?_)
    refine V.q ?_
    refine V.callK [] (xNumberOk n hn) kq kq kq (fun _ => kq) (fun _ _ => ?_)
    refine V.q ?_
    refine V.known 36 (decide ((s.length : Int) > 1000)) false kq (decide_eq_false (by omega)) ?_
    refine V.runT [] [s.length + (encN m).length ≤ 9223372036854775807, (s ++ encN m).length + s.length ≤ 9223372036854775807] kq kq ⟨by omega, (show (s ++ encN m).length + s.length ≤ 9223372036854775807 by rw [List.length_append]; omega)⟩ ?_
    refine V.callK [] (xReadOrd m s hm hs) kq kq kq (fun _ => kq) (fun _ _ => ?_)
    refine V.q ?_
    refine V.branch 80 ((m != m) || (((s.length + (encN m).length : Nat) : Int) != IntKind.i64.wrap ((s.length : Int) + ((encN m).length : Int))) || decide (((encN m).length : Int) < 1) || decide (((encN m).length : Int) > 5)) kq (fun h => ?_) (fun _ => ?_)
    · exfalso
      have hw : IntKind.i64.wrap ((s.length : Int) + ((encN m).length : Int)) = ((s.length + (encN m).length : Nat) : Int) := by simp [IntKind.wrap, IntKind.bits, IntKind.signed]; omega
      rw [hw] at h
      simp only [bne_self_eq_false, Bool.false_or, Bool.or_eq_true, decide_eq_true_eq] at h
      omega
    refine V.q ?_
    refine V.branch 83 (m == n) kq (fun h => ?_) (fun h => ?_)
    · have e : m = n := by simpa using h
      subst e
      refine V.q ?_
      refine V.slotAs 6 (.one (.sb (encN m == encN m))) (.one (.sb true)) kq kq (fun _ => by rw [beq_self_eq_true]) ?_
      exact V.z
    · have e : m ≠ n := by simpa using h
      refine V.runT [sHasPrefix.e] [] kq kq trivial ?_
      refine V.settle 91 true (!(Lib.hasPrefix (encN m) (encN n))) kq (by rw [pre_no hm hn e]; rfl) ?_
      refine V.settle 97 true (!(Lib.hasPrefix (encN m) (encN n)) && !(Lib.hasPrefix (encN n) (encN m))) kq (by rw [pre_no hm hn e, pre_no hn hm (fun e' => e e'.symm)]; rfl) ?_
      refine V.runT [sHasPrefix.e] [] kq kq trivial ?_
      refine V.slotAs 6 (.one (.sb (decide ((if IntKind.i64.wrap (0 - m) > m then IntKind.i64.wrap (0 - m) else m) ≤ (if IntKind.i64.wrap (0 - n) > n then IntKind.i64.wrap (0 - n) else n)) || decide (((encN m).length : Int) ≥ ((encN n).length : Int))))) (.one (.sb true)) kq kq (fun _ => by rw [le_len hm hn]) ?_
      exact V.z
end Go.Proofs
end
section
namespace Go.Proofs.YteinbljapojcgaaGreatDoor
open Go
set_option maxRecDepth 100000
theorem codeOrder_k0 : (Rows.codeOrderRow.wf (OpenSpec.ofChange Rows.codeOrderSpec)) = true := kq
theorem codeOrder_k1 : (laidOutB Tryz.prog) = true := kq
theorem codeOrder_k2 : (mapsRowed Tryz.prog) = true := kq
theorem codeOrder_k3 : (Tryz.f5.params.all (Tryz.prog.readableRec ·)) = true := kq
theorem codeOrder_k4 : (namedTie Tryz.prog Rows.codeOrderRow.named Rows.codeOrderSpec.vars) = true := kq
theorem codeOrder_k5 : ((Rows.codeOrderRow.stops == [])) = true := kq
theorem codeOrder_k6 : ((Tryz.prog.stops == [])) = true := kq
theorem codeOrder_k7 : ((Rows.codeOrderRow.knobs == [])) = true := kq
theorem codeOrder_k8 : ((Tryz.prog.stopKnobs == [])) = true := kq
theorem codeOrder_k9 : ((Rows.codeOrderRow.inPlace == Tryz.prog.inPlace 5)) = true := kq
theorem codeOrder_k10 : ((Rows.codeOrderRow.unfollowed == Tryz.prog.unfollowed 5)) = true := kq
theorem codeOrder_k11 : ((Rows.codeOrderRow.recurses == Tryz.prog.recurses 5)) = true := kq
theorem codeOrder_k12 : ((Rows.codeOrderRow.named == Tryz.prog.varsNamed 5)) = true := kq
theorem codeOrder_k13 : ((Rows.codeOrderRow.maps == (Tryz.f5.params.toList ++ Rows.codeOrderSpec.plain.varTypes Tryz.prog).any (Tryz.prog.mapsRec ·))) = true := kq
theorem codeOrder_k14 : ((Rows.codeOrderRow.ifaces == (Tryz.f5.params.toList ++ Rows.codeOrderSpec.plain.varTypes Tryz.prog).any (Tryz.prog.ifacesRec ·))) = true := kq
theorem codeOrder_k15 : ((Rows.codeOrderRow.mapsOut == Tryz.prog.mapsAmong Tryz.f5.resultTypes.toList)) = true := kq
theorem codeOrder_k16 : ((Rows.codeOrderRow.loops == (Tryz.f5.params.toList ++ Rows.codeOrderSpec.plain.varTypes Tryz.prog).any (Tryz.prog.loopsFrom ·))) = true := kq
theorem codeOrder_k17 : ((Rows.codeOrderRow.wideKeys == (Tryz.f5.params.toList ++ Rows.codeOrderSpec.plain.varTypes Tryz.prog ++ Tryz.f5.resultTypes.toList).any (Tryz.prog.wideKeysFrom ·))) = true := kq
theorem codeOrder_k18 : (Rows.codeOrderSpec.vars.all (Tryz.prog.varReadable ·)) = true := kq
theorem codeOrder_k19 : (Tryz.f5.resultTypes.all (fun t => Tryz.prog.readableRec t && decide (t < Tryz.prog.types.size))) = true := kq
theorem codeOrder_k20 : ((Rows.codeOrderRow.ifacesOut == Tryz.f5.resultTypes.toList.any (Tryz.prog.ifacesRec ·))) = true := kq
theorem codeOrder_k21 : ((Rows.codeOrderRow.loopsOut == Tryz.f5.resultTypes.toList.any (Tryz.prog.loopsFrom ·))) = true := kq
theorem codeOrder_k22 : ((Rows.codeOrderRow.plainKeys == Tryz.prog.plainKeys)) = true := kq
theorem codeOrder_k23 : (Rows.codeOrderRow.shortTexts.isNone) = true := kq
theorem codeOrder_k24 : (Tryz.prog.stopsHeard) = true := kq
theorem codeOrder_k25 : (Tryz.prog.mayEnter) = true := kq
theorem codeOrder_k26 : ((Rows.codeOrderRow.lifted == Tryz.prog.liftsFinal)) = true := kq
theorem codeOrder_k27 : ((Tryz.prog.make == some Rows.codeOrderRow.make)) = true := kq
theorem codeOrder_k28 : ((Rows.codeOrderRow.kinds == (if Rows.codeOrderRow.domain.isEmpty then [] else Tryz.f5.params.toList.map fun t => match Tryz.prog.underlying t with | some (.int k) => some k | _ => none))) = true := kq
theorem codeOrder_k29 : ((Rows.codeOrderRow.pinned == Rows.codeOrderRow.pinnedBy)) = true := kq
theorem codeOrder_k30 : ((Rows.codeOrderRow.veiled == (Tryz.f5.params.toList ++ Rows.codeOrderSpec.plain.varTypes Tryz.prog ++ Tryz.f5.resultTypes.toList).any (Tryz.prog.veiledRec ·))) = true := kq
theorem codeOrder_k31 : (Rows.codeOrderRow.veiledFits Tryz.prog Tryz.f5.params.toList (Tryz.f5.params.toList ++ Rows.codeOrderSpec.plain.varTypes Tryz.prog ++ Tryz.f5.resultTypes.toList)) = true := kq
theorem codeOrder_and {a b : Bool} (ha : a = true) (hb : b = true) : (a && b) = true := by rw [ha, hb]; rfl
theorem codeOrder_joined : joinedFacts Tryz.prog 5 Tryz.f5 Rows.codeOrderSpec Rows.codeOrderRow = true := by
  unfold joinedFacts
  exact codeOrder_and (codeOrder_and (codeOrder_and (codeOrder_and (codeOrder_and (codeOrder_and (codeOrder_and (codeOrder_and (codeOrder_and (codeOrder_and (codeOrder_and (codeOrder_and (codeOrder_and (codeOrder_and (codeOrder_and (codeOrder_and (codeOrder_and (codeOrder_and (codeOrder_and (codeOrder_and (codeOrder_and (codeOrder_and (codeOrder_and (codeOrder_and (codeOrder_and (codeOrder_and (codeOrder_and (codeOrder_and (codeOrder_and (codeOrder_and (codeOrder_and (codeOrder_k0) codeOrder_k1) codeOrder_k2) codeOrder_k3) codeOrder_k4) codeOrder_k5) codeOrder_k6) codeOrder_k7) codeOrder_k8) codeOrder_k9) codeOrder_k10) codeOrder_k11) codeOrder_k12) codeOrder_k13) codeOrder_k14) codeOrder_k15) codeOrder_k16) codeOrder_k17) codeOrder_k18) codeOrder_k19) codeOrder_k20) codeOrder_k21) codeOrder_k22) codeOrder_k23) codeOrder_k24) codeOrder_k25) codeOrder_k26) codeOrder_k27) codeOrder_k28) codeOrder_k29) codeOrder_k30) codeOrder_k31
theorem codeOrder_fn : Tryz.prog.funcNamed "pliant/pliantlaw22.CodeOrder" = some 5 := kq
theorem codeOrder_inst : Tryz.f5.isInstance Tryz.prog Rows.codeOrderRow.origin Rows.codeOrderRow.targs := of_decide_eq_true kq
theorem codeOrder_wrap : Tryz.f5.isWrapper Tryz.prog Rows.codeOrderRow.wrapper Rows.codeOrderRow.mainSum := by
  unfold Func.isWrapper
  first | (rw [if_pos (by decide +kernel)]; kernel_rfl) | (rw [if_neg (by decide +kernel)]; exact ⟨rfl, rfl⟩)
theorem codeOrder_looks : true = Tryz.prog.looks [] := kq
theorem codeOrder_goes : false = Rows.codeOrderRow.goesBy Tryz.prog := kq
theorem codeOrder_wft : Rows.codeOrderRow.wfByText (OpenSpec.ofChange Rows.codeOrderSpec) = true := kq
theorem codeOrder_main : Tryz.prog.mainIs = some (true, "8a234a80a232a3bf12a1f1e0dffb9d9eab25744cd05c38bdd5c3d3d044cc81c8".toList) := kq
theorem codeOrder_stand : ([3, 3, 9].all fun u => !Tryz.prog.wantsStandIn u) = true := kq
theorem codeOrder_par : Tryz.f5.params = #[3, 3, 9] := kq
end Go.Proofs.YteinbljapojcgaaGreatDoor
end
section
namespace Go.Proofs.YteinbljapojcgaaGreatDoor
open Go
set_option maxRecDepth 100000
theorem codeOrder_holds (lifted : ∀ os : Os, os.Started → ∀ (H : Type) (enc : TypeId × Value → H), ReturnsInHanded {} Tryz.checked os 5 .any (fun w args => (Rows.codeOrderSpec.pre enc Tryz.prog Tryz.f5 [] false w args ∧ laidMetH Tryz.prog Rows.codeOrderRow.laid w) ∧ sizedMet enc Tryz.prog Tryz.f5 (OpenSpec.ofChange Rows.codeOrderSpec) false w args)
      (Rows.codeOrderSpec.post enc Tryz.prog Tryz.f5 false true false false)) : Rows.CodeOrderSaid :=
  OpenClaim.holds_of_wide 5 Tryz.f5 rfl rfl rfl rfl rfl rfl rfl ⟨rfl, rfl, rfl, rfl, rfl⟩ rfl rfl rfl rfl rfl codeOrder_fn Tryz.func5 codeOrder_joined codeOrder_inst codeOrder_wrap (fun os started H enc _ => lifted os started H enc)
theorem codeOrder_card (hh : Rows.CodeOrderSaid) : Rows.CodeOrderCardSaid :=
  Claim7.holds_tied_plain_at .later [] [.data, .data, .data, .data, .sentinel, .sentinel, .listed, .data, .pinned, .pinned] true (true, "8a234a80a232a3bf12a1f1e0dffb9d9eab25744cd05c38bdd5c3d3d044cc81c8") true hh (fun _ h => by cases h) codeOrder_wft (fun _ h => by cases h) codeOrder_row_tie rfl ⟨rfl, rfl⟩ codeOrder_main rfl
    (fun f fn hf hfn => by
      obtain rfl : f = 5 := Option.some.inj (codeOrder_fn.symm.trans hf) |>.symm
      obtain rfl : fn = Tryz.f5 := (Option.some.inj (Tryz.func5.symm.trans hfn)).symm
      exact ⟨codeOrder_looks, fun j t ht => by
        rw [codeOrder_par] at ht
        have hm : t ∈ [3, 3, 9] := by simpa using Array.mem_of_getElem? ht
        exact (show Tryz.prog.wantsStandIn t = false by simpa using List.all_eq_true.1 codeOrder_stand t hm)⟩)
    codeOrder_goes
end Go.Proofs.YteinbljapojcgaaGreatDoor
end
section
namespace Go.Proofs.YteinbljapojcgaaGreatDoor
open Go Go.SX Go.ChangeShapes Go.WideShapes Go.ChangeAt Go.RowKit Go.ChangeMaps
set_option maxRecDepth 100000
theorem ownK : ownKnob Tryz.prog.godebug = none := kq
theorem persOk_of {ps : List Pers} {w : World} (h : ∀ p ∈ ps, LastP p w ∧ Stab p) : PersOk ps w := fun p hp =>
  ⟨(h p hp).1.1, fun w' hk => (h p hp).2 w w' hk (h p hp).1.1, (h p hp).1.2⟩
theorem laid_shaped (os : Os) (args : Array Value) : ((World.laidAll Tryz.prog os laidL).forCall (fun _ _ => 0) ⟨#[], args, []⟩).Shaped Tryz.prog := World.shaped_of_ZipB kq kq
theorem laid_met (os : Os) (args : Array Value) : laidMetH Tryz.prog laidL ((World.laidAll Tryz.prog os laidL).forCall (fun _ _ => 0) ⟨#[], args, []⟩).memory := by
  rw [MakeChecks.laidMetH_plain _ _ _ kq]
  exact laidMet_laidAll _ kq kq
theorem order_lifted (os : Os) (started : os.Started) (H : Type) (enc : TypeId × Value → H) :
    ReturnsInHanded {} Tryz.checked os 5 .any (fun w args => (Rows.codeOrderSpec.pre enc Tryz.prog Tryz.f5 [] false w args ∧ laidMetH Tryz.prog laidL w) ∧ sizedMet enc Tryz.prog Tryz.f5 (OpenSpec.ofChange Rows.codeOrderSpec) false w args)
      (Rows.codeOrderSpec.post enc Tryz.prog Tryz.f5 false true false false) := by
  refine returns_wrap (C := Tryz.checked) (X := fun w _ => laidMetH Tryz.prog laidL w) (fun _ _ _ hh h => h.of_heap hh) ownK started kq Tryz.func5
    (ChangeSpec.witness_shaped (enc := enc) (C := Tryz.checked) (os := os) (X := fun w _ => laidMetH Tryz.prog laidL w) false (World.laidAll Tryz.prog os laidL) #[.int .i64 0, .int .i64 0, .string ⟨#[]⟩] 8 (World.laidAll_os _ _ _)
      (laid_shaped os _) kq kq kq (laid_met os _)) ?_
  intro W base args ds gs before hval0 hW hL hsh
  have hval : ∀ (j : Nat) t v, Tryz.f5.params[j]? = some t → args[j]? = some v → Value.okWide Tryz.prog W .any base t v := hval0
  have hW' := hW
  obtain ⟨p, q, hA0, hV, rfl, _, _⟩ := hW
  have hA : DataW.TrodAll enc Tryz.prog W 0 (fun _ => true) true Tryz.f5.params.toList args.toList ds p := hA0
  have hpar : Tryz.f5.params = #[3, 3, 9] := kq
  rw [hpar] at hA hval
  obtain ⟨v0, v1, v2, d0, d1, d2, p0, p1, p2, rfl, rfl, rfl, h0, h1, h2⟩ := trodAll_three hA
  obtain ⟨rfl, rfl⟩ := trodVars_none hV
  obtain ⟨m, rfl, _, _, _⟩ := open_int Tryz.underlying3 (hval 0 3 v0 rfl rfl) h0
  obtain ⟨n, rfl, _, _, _⟩ := open_int Tryz.underlying3 (hval 1 3 v1 rfl rfl) h1
  obtain ⟨s, rfl, _, _, _⟩ := open_string Tryz.underlying9 (hval 2 9 v2 rfl rfl) h2
  have hP : PersOk glbF.pers W := persOk_of (fun p hp => by rw [List.mem_singleton.1 hp]; exact ⟨glb_of_laid hL hsh, glbP_stab⟩)
  refine (CallsK.gives (xOrder m n s.data.toList) ⟨rfl, rfl, rfl⟩ (fun _ _ => rfl) (fun _ => 0) W hP).mono fun e W' ⟨he, hc⟩ => ?_
  subst he
  exact ⟨_, rfl, post_true rfl kq (by rw [hpar]; exact fun t ht => of_decide_eq_true (List.all_eq_true.1 (show ([3, 3, 9].all fun u => decide (u < Tryz.prog.types.size)) = true by kernel_rfl) t ht)) hW' rfl hc⟩
theorem order_card_holds : Rows.CodeOrderCardSaid := codeOrder_card (codeOrder_holds (fun os started H enc => order_lifted os started H enc))
end Go.Proofs.YteinbljapojcgaaGreatDoor
end
