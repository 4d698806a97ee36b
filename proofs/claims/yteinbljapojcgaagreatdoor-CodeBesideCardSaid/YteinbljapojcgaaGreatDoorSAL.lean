/- A symbolic run of the program that Lean checks, and what the functions of the program come to by it: part 12 of 12. -/
import Derived.Test.YteinbljapojcgaaGreatDoorRows
import Derived.Test.YteinbljapojcgaaGreatDoorTie
import Derived.Test.YteinbljapojcgaaGreatDoorCards
import Derived.JoinedOf
import Derived.KernelRfl
import Derived.SevenTiedAt
import Derived.ChangeMaps5
import Derived.ProofKit
import Derived.OpenShut
import Derived.Stop.Joined
import Derived.Test.YteinbljapojcgaaGreatDoorSAK
set_option linter.unusedVariables false
section
namespace Go.Proofs
open Go Go.SX
set_option maxRecDepth 10000
theorem cGrow0 : CallsK Tryz.prog 87 [.one (.val (.slice none 0 0)), .one (.int .i64 0)] noF (fun _ : Unit => True) (fun _ => .v (.one (.val (.slice none 0 0)))) (fun _ => noF) := by
 refine CallsK.mk true Tryz.func87 kq kq (fun ρ w => ?_)
 refine V.runC [] 6 [] kq kq trivial ?_
 exact V.z
theorem cGrow_1 : CallsK Tryz.prog 87 [.one (.val (.slice none 0 0)), .one (.int .i64 1)] noF (fun _ : Option Addr × Nat => True) (fun qc => .v (.one (.row 0 qc.1 0 qc.2))) (rsF []) := by
 refine CallsK.mk true Tryz.func87 kq kq (fun ρ w => ?_)
 refine V.runC [] 6 [(0 : Int) ≤ 0 ∧ (0 : Int) ≤ 0 ∧ (0 : Int) ≤ 0] kq kq ⟨by decide, by decide, by decide⟩ ?_
 refine V.appZ rlv (0, 0) (0, 0) 1 62 2 16 kq (by decide) (by decide) (by decide) (fun q cap => kq) (fun q cap => ?_)
 refine V.slotAs 22 (.one (.row 1 q 1 cap)) (.one (.val (.slice q 1 cap))) kq kq (fun _ => rfl) ?_
 refine V.runT [] [(0 : Int) ≤ 0 ∧ (0 : Int) ≤ 0 ∧ (0 : Int) ≤ (cap : Int)] kq kq ⟨by decide, by decide, by omega⟩ ?_
 refine V.slotAs 4 (.one (.val (.slice (movedA q (0 : Int).toNat 2 cap) ((0 : Int).toNat - (0 : Int).toNat) (cap - (0 : Int).toNat)))) (.one (.val (.slice q 0 cap))) kq kq (fun _ => by rw [show (0 : Int).toNat = 0 from rfl, movedA0, Nat.sub_zero, Nat.sub_zero]) ?_
 refine V.cutRow rlv (0, 0) (List.replicate 1 (0, 0)) 4 1 q cap 62 2 kq kq kq ?_
 exact V.retK ((q, cap) : Option Addr × Nat) [] kq kq kq trivial
theorem cGrow_2 : CallsK Tryz.prog 87 [.one (.val (.slice none 0 0)), .one (.int .i64 2)] noF (fun _ : Option Addr × Nat => True) (fun qc => .v (.one (.row 0 qc.1 0 qc.2))) (rsF []) := by
 refine CallsK.mk true Tryz.func87 kq kq (fun ρ w => ?_)
 refine V.runC [] 6 [(0 : Int) ≤ 0 ∧ (0 : Int) ≤ 0 ∧ (0 : Int) ≤ 0] kq kq ⟨by decide, by decide, by decide⟩ ?_
 refine V.appZ rlv (0, 0) (0, 0) 2 62 2 16 kq (by decide) (by decide) (by decide) (fun q cap => kq) (fun q cap => ?_)
 refine V.slotAs 22 (.one (.row 1 q 2 cap)) (.one (.val (.slice q 2 cap))) kq kq (fun _ => rfl) ?_
 refine V.runT [] [(0 : Int) ≤ 0 ∧ (0 : Int) ≤ 0 ∧ (0 : Int) ≤ (cap : Int)] kq kq ⟨by decide, by decide, by omega⟩ ?_
 refine V.slotAs 4 (.one (.val (.slice (movedA q (0 : Int).toNat 2 cap) ((0 : Int).toNat - (0 : Int).toNat) (cap - (0 : Int).toNat)))) (.one (.val (.slice q 0 cap))) kq kq (fun _ => by rw [show (0 : Int).toNat = 0 from rfl, movedA0, Nat.sub_zero, Nat.sub_zero]) ?_
 refine V.cutRow rlv (0, 0) (List.replicate 2 (0, 0)) 4 1 q cap 62 2 kq kq kq ?_
 exact V.retK ((q, cap) : Option Addr × Nat) [] kq kq kq trivial
def catF (l m : List (Int × Int)) (q1 : Option Addr) (c1 : Nat) (q2 : Option Addr) (c2 : Nat) (ps : List Pers) : St :=
 { n := 0, slots := [], gs := [], heap := [(0, ⟨[.val (.slice q1 l.length c1), .val (.slice q2 m.length c2)], 47, true⟩)], next := 1, rows := [], nr := 0, pers := ps, wr := false }
def catG (l m r : List (Int × Int)) (q1 : Option Addr) (c1 : Nat) (q2 : Option Addr) (c2 : Nat) (qc : Option Addr × Nat) : St :=
 { catF l m q1 c1 q2 c2 [] with rows := [(0, rowL rlv (0, 0) r qc.1 qc.2 62 2 true)], nr := 1 }
theorem cCat00  (q1 : Option Addr) (c1 : Nat) (q2 : Option Addr) (c2 : Nat) :
  CallsK Tryz.prog 48 [.one (.sli 0 2 2)] (catF [] [] q1 c1 q2 c2 [rowP (relRow [] q1 c1), rowP (relRow [] q2 c2)]) (fun _ : Option Addr × Nat => True) (fun qc => .v (.one (.row 0 qc.1 0 qc.2))) (catG [] [] [] q1 c1 q2 c2) := by
 refine CallsK.mk true Tryz.func48 kq kq (fun ρ w => ?_)
 refine V.runC [] 12 [(0 : Int) ≤ 0 ∧ (0 : Int) < ((2 : Nat) : Int), (0 : Int) ≤ IntKind.i64.wrap (0 + 1) ∧ IntKind.i64.wrap ((0 : Int) + 1) < ((2 : Nat) : Int)] kq kq ⟨⟨by decide, by decide⟩, by decide, by decide⟩ ?_
 refine V.callK [] cGrow0 kq kq kq (fun _ => kq) (fun qc _ => ?_)
 refine V.runC [] 3 [(0 : Int) ≤ 0 ∧ (0 : Int) < ((2 : Nat) : Int)] kq kq ⟨by decide, by decide⟩ ?_
 refine V.nilL rlv (0, 0) 31 62 2 kq kq ?_
 refine V.asRow 32 0 (relRow [] q1 c1) kq kq kq rfl ?_
 refine V.pushes rlv (0, 0) [] [] 0 none 0 62 2 0 (relRow [] q1 c1).get 16 kq rfl (by simp) (fun i _ => absurd ‹_› (Nat.not_lt_zero _)) (fun _ _ => kq) (fun q' cap' => ?_)
 refine V.runC [] 3 [(0 : Int) ≤ IntKind.i64.wrap (0 + 1) ∧ IntKind.i64.wrap ((0 : Int) + 1) < ((2 : Nat) : Int)] kq kq ⟨by decide, by decide⟩ ?_
 refine V.asRow 32 1 (relRow [] q2 c2) kq kq kq rfl ?_
 refine V.pushes rlv (0, 0) [] [] 2 q' cap' 62 2 0 (relRow [] q2 c2).get 16 kq rfl (by simp) (fun i _ => absurd ‹_› (Nat.not_lt_zero _)) (fun _ _ => kq) (fun q2 cap2 => ?_)
 refine V.runC [] 3 [] kq kq trivial ?_
 exact V.retK ((q2, cap2) : Option Addr × Nat) [] kq kq kq trivial
theorem cCat01 (d : Int × Int) (q1 : Option Addr) (c1 : Nat) (q2 : Option Addr) (c2 : Nat) :
  CallsK Tryz.prog 48 [.one (.sli 0 2 2)] (catF [] [d] q1 c1 q2 c2 [rowP (relRow [] q1 c1), rowP (relRow [d] q2 c2)]) (fun _ : Option Addr × Nat => True) (fun qc => .v (.one (.row 0 qc.1 1 qc.2))) (catG [] [d] [d] q1 c1 q2 c2) := by
 refine CallsK.mk true Tryz.func48 kq kq (fun ρ w => ?_)
 refine V.runC [] 12 [(0 : Int) ≤ 0 ∧ (0 : Int) < ((2 : Nat) : Int), (0 : Int) ≤ IntKind.i64.wrap (0 + 1) ∧ IntKind.i64.wrap ((0 : Int) + 1) < ((2 : Nat) : Int)] kq kq ⟨⟨by decide, by decide⟩, by decide, by decide⟩ ?_
 refine V.callK [] cGrow_1 kq kq kq (fun _ => kq) (fun qc _ => ?_)
 refine V.runC [] 3 [(0 : Int) ≤ 0 ∧ (0 : Int) < ((2 : Nat) : Int)] kq kq ⟨by decide, by decide⟩ ?_
 refine V.asRow 32 0 (relRow [] q1 c1) kq kq kq rfl ?_
 refine V.pushes rlv (0, 0) [] [] 0 qc.1 qc.2 62 2 0 (relRow [] q1 c1).get 16 kq rfl (by simp) (fun i _ => absurd ‹_› (Nat.not_lt_zero _)) (fun _ _ => kq) (fun q' cap' => ?_)
 refine V.runC [] 3 [(0 : Int) ≤ IntKind.i64.wrap (0 + 1) ∧ IntKind.i64.wrap ((0 : Int) + 1) < ((2 : Nat) : Int)] kq kq ⟨by decide, by decide⟩ ?_
 refine V.asRow 32 1 (relRow [d] q2 c2) kq kq kq rfl ?_
 refine V.pushes rlv (0, 0) [] [d] 2 q' cap' 62 2 1 (relRow [d] q2 c2).get 16 kq rfl (by simp) (fun i _ => rfl) (fun _ _ => kq) (fun q2 cap2 => ?_)
 refine V.runC [] 3 [] kq kq trivial ?_
 exact V.retK ((q2, cap2) : Option Addr × Nat) [] kq kq kq trivial
theorem cCat10 (e : Int × Int) (q1 : Option Addr) (c1 : Nat) (q2 : Option Addr) (c2 : Nat) :
  CallsK Tryz.prog 48 [.one (.sli 0 2 2)] (catF [e] [] q1 c1 q2 c2 [rowP (relRow [e] q1 c1), rowP (relRow [] q2 c2)]) (fun _ : Option Addr × Nat => True) (fun qc => .v (.one (.row 0 qc.1 1 qc.2))) (catG [e] [] [e] q1 c1 q2 c2) := by
 refine CallsK.mk true Tryz.func48 kq kq (fun ρ w => ?_)
 refine V.runC [] 12 [(0 : Int) ≤ 0 ∧ (0 : Int) < ((2 : Nat) : Int), (0 : Int) ≤ IntKind.i64.wrap (0 + 1) ∧ IntKind.i64.wrap ((0 : Int) + 1) < ((2 : Nat) : Int)] kq kq ⟨⟨by decide, by decide⟩, by decide, by decide⟩ ?_
 refine V.callK [] cGrow_1 kq kq kq (fun _ => kq) (fun qc _ => ?_)
 refine V.runC [] 3 [(0 : Int) ≤ 0 ∧ (0 : Int) < ((2 : Nat) : Int)] kq kq ⟨by decide, by decide⟩ ?_
 refine V.asRow 32 0 (relRow [e] q1 c1) kq kq kq rfl ?_
 refine V.pushes rlv (0, 0) [] [e] 0 qc.1 qc.2 62 2 1 (relRow [e] q1 c1).get 16 kq rfl (by simp) (fun i _ => rfl) (fun _ _ => kq) (fun q' cap' => ?_)
 refine V.runC [] 3 [(0 : Int) ≤ IntKind.i64.wrap (0 + 1) ∧ IntKind.i64.wrap ((0 : Int) + 1) < ((2 : Nat) : Int)] kq kq ⟨by decide, by decide⟩ ?_
 refine V.asRow 32 1 (relRow [] q2 c2) kq kq kq rfl ?_
 refine V.pushes rlv (0, 0) [e] [] 2 q' cap' 62 2 0 (relRow [] q2 c2).get 16 kq rfl (by simp) (fun i _ => absurd ‹_› (Nat.not_lt_zero _)) (fun _ _ => kq) (fun q2 cap2 => ?_)
 refine V.runC [] 3 [] kq kq trivial ?_
 exact V.retK ((q2, cap2) : Option Addr × Nat) [] kq kq kq trivial
theorem cCat11 (e : Int × Int) (d : Int × Int) (q1 : Option Addr) (c1 : Nat) (q2 : Option Addr) (c2 : Nat) :
  CallsK Tryz.prog 48 [.one (.sli 0 2 2)] (catF [e] [d] q1 c1 q2 c2 [rowP (relRow [e] q1 c1), rowP (relRow [d] q2 c2)]) (fun _ : Option Addr × Nat => True) (fun qc => .v (.one (.row 0 qc.1 2 qc.2))) (catG [e] [d] [e, d] q1 c1 q2 c2) := by
 refine CallsK.mk true Tryz.func48 kq kq (fun ρ w => ?_)
 refine V.runC [] 12 [(0 : Int) ≤ 0 ∧ (0 : Int) < ((2 : Nat) : Int), (0 : Int) ≤ IntKind.i64.wrap (0 + 1) ∧ IntKind.i64.wrap ((0 : Int) + 1) < ((2 : Nat) : Int)] kq kq ⟨⟨by decide, by decide⟩, by decide, by decide⟩ ?_
 refine V.callK [] cGrow_2 kq kq kq (fun _ => kq) (fun qc _ => ?_)
 refine V.runC [] 3 [(0 : Int) ≤ 0 ∧ (0 : Int) < ((2 : Nat) : Int)] kq kq ⟨by decide, by decide⟩ ?_
 refine V.asRow 32 0 (relRow [e] q1 c1) kq kq kq rfl ?_
 refine V.pushes rlv (0, 0) [] [e] 0 qc.1 qc.2 62 2 1 (relRow [e] q1 c1).get 16 kq rfl (by simp) (fun i _ => rfl) (fun _ _ => kq) (fun q' cap' => ?_)
 refine V.runC [] 3 [(0 : Int) ≤ IntKind.i64.wrap (0 + 1) ∧ IntKind.i64.wrap ((0 : Int) + 1) < ((2 : Nat) : Int)] kq kq ⟨by decide, by decide⟩ ?_
 refine V.asRow 32 1 (relRow [d] q2 c2) kq kq kq rfl ?_
 refine V.pushes rlv (0, 0) [e] [d] 2 q' cap' 62 2 1 (relRow [d] q2 c2).get 16 kq rfl (by simp) (fun i _ => rfl) (fun _ _ => kq) (fun q2 cap2 => ?_)
 refine V.runC [] 3 [] kq kq trivial ?_
 exact V.retK ((q2, cap2) : Option Addr × Nat) [] kq kq kq trivial
theorem cCat (l m : List (Int × Int)) (hl : l.length ≤ 1) (hm : m.length ≤ 1) (q1 : Option Addr) (c1 : Nat) (q2 : Option Addr) (c2 : Nat) :
  CallsK Tryz.prog 48 [.one (.sli 0 2 2)] (catF l m q1 c1 q2 c2 [rowP (relRow l q1 c1), rowP (relRow m q2 c2)]) (fun _ : Option Addr × Nat => True) (fun qc => .v (.one (.row 0 qc.1 (l ++ m).length qc.2))) (catG l m (l ++ m) q1 c1 q2 c2) := by
 match l, hl, m, hm with
 | [], _, [], _ => exact cCat00 q1 c1 q2 c2
 | [], _, [d], _ => exact cCat01 d q1 c1 q2 c2
 | [e], _, [], _ => exact cCat10 e q1 c1 q2 c2
 | [e], _, [d], _ => exact cCat11 e d q1 c1 q2 c2
theorem eqL_self {α : Type} {f : α → α → Bool} (h : ∀ a, f a a = true) : ∀ l, eqL f l l = true
 | [] => rfl
 | a :: l => by
  simp only [eqL, h, eqL_self h l, Bool.and_self]
theorem eqIn_self (x : In) : eqIn x x = true := by
 have hF : eqL eqF x.f x.f = true := eqL_self (fun a => by simp [eqF]) _
 have hI : eqL eqI x.l x.l = true := eqL_self (fun a => by simp [eqI]) _
 have hT : eqL eqT x.y x.y = true := eqL_self (fun a => by simp [eqT]) _
 unfold eqIn eqIn1
 rw [hF, hI, hT]
 simp [eqT]
theorem relAt_mv (n : Int) {rs : List (Int × Int)} (h : rs.length ≤ 1) : ∀ q ∈ rs, relAt (q.1 + n) (rs.map (mvS n)) = some q.2 := fun q hq => by
 rcases rs with _ | ⟨e, rs⟩
 ·cases hq
 ·rcases rs with _ | ⟨e', rs⟩
  ·rw [List.mem_singleton.1 hq]
   simp [relAt, mvS]
  ·simp at h
theorem relL_in (x : In) : ∀ (l : List Fl) (n : Nat), ∀ q ∈ relL x l n, (n : Int) ≤ q.1 ∧ q.1 + 4 ≤ ((n + (l.flatMap fun f => f.enc x).length : Nat) : Int)
 | [], _, q, hq => by cases hq
 | f :: l, n, q, hq => by
  rw [List.flatMap_cons, List.length_append]
  rcases List.mem_append.1 hq with hq | hq
  ·have h : q.1 = (n : Int) ∧ (f.enc x).length = 4 := by
    cases f <;> simp only [Fl.rel, List.not_mem_nil] at hq
    case pN =>
     unfold relP at hq
     split at hq
     ·cases hq
     ·rw [List.mem_singleton.1 hq]; exact ⟨rfl, encP_len _⟩
    case pM =>
     unfold relP at hq
     split at hq
     ·cases hq
     ·rw [List.mem_singleton.1 hq]; exact ⟨rfl, encP_len _⟩
    case far => rw [List.mem_singleton.1 hq]; exact ⟨rfl, rfl⟩
   omega
  ·have h := relL_in x l _ q hq
   omega
theorem cEnc_eq {x : In} (h : cFine x = true) : ∃ o, isOp o = true ∧ x.op = (o : Int) ∧ cEnc x = (UInt8.ofNat o :: (opFls o).flatMap (fun f => f.enc x), relL x (opFls o) 1) := by
 obtain ⟨o, ho, e⟩ : ∃ o, isOp o = true ∧ x.op = (o : Int) := by
  by_cases hop : 1 ≤ x.op ∧ x.op ≤ 38
  ·exact ⟨x.op.toNat, (isOp_iff _).2 (by omega), by omega⟩
  ·have : cFine x = false := by unfold cFine opFind; rw [if_neg hop]
   rw [this] at h; cases h
 have ho' := (isOp_iff o).1 ho
 have hfind : opFind x.op = some (opFls o) := by unfold opFind; rw [if_pos (by omega), e]; rfl
 refine ⟨o, ho, e, ?_⟩
 unfold cEnc
 rw [hfind, putL_eq, e]
 simp
theorem cEnc_lt {x : In} (h : cFine x = true) : ∀ q ∈ (cEnc x).2, 0 ≤ q.1 ∧ q.1 + 4 ≤ ((cEnc x).1.length : Int) := by
 obtain ⟨o, _, _, e⟩ := cEnc_eq h
 rw [e]
 intro q hq
 have := relL_in x _ _ q hq
 simp only [List.length_cons]
 omega
theorem relAt_app {v p : Int} {l : List (Int × Int)} (m : List (Int × Int)) (h : relAt v l = some p) : relAt v (l ++ m) = some p := by
 unfold relAt at h ⊢
 rw [List.find?_append]
 cases e : l.find? (fun x => x.1 == v) with
 | none => rw [e] at h; cases h
 | some q => rw [e] at h; exact h
theorem relAt_skip {v : Int} {l : List (Int × Int)} (m : List (Int × Int)) (h : ∀ q ∈ l, q.1 ≠ v) : relAt v (l ++ m) = relAt v m := by
 unfold relAt
 rw [List.find?_append]
 have : l.find? (fun x => x.1 == v) = none := List.find?_eq_none.2 (fun q hq => by simpa using h q hq)
 rw [this]
 rfl
theorem beside_law {x y : In} (hx : cFine x = true) (hy : cFine y = true) :
  (∀ q ∈ (cEnc x).2, relAt (q.1 + ((0 : Nat) : Int)) ((cEnc x).2 ++ (cEnc y).2.map (mvS (cEnc x).1.length)) = some q.2) ∧
  (∀ q ∈ (cEnc y).2, relAt (q.1 + ((cEnc x).1.length : Int)) ((cEnc x).2 ++ (cEnc y).2.map (mvS (cEnc x).1.length)) = some q.2) := by
 refine ⟨fun q hq => ?_, fun q hq => ?_⟩
 ·rw [show q.1 + ((0 : Nat) : Int) = q.1 by omega]
  exact relAt_app _ (cEnc_rel hx q hq)
 ·have h0 := (cEnc_lt hy q hq).1
  rw [relAt_skip _ (fun p hp => by have := (cEnc_lt hx p hp).2; omega)]
  exact relAt_mv _ (cEnc_rel1 hy) q hq
def slF2 (x y : In) (A B : IA) (ps : List Pers) : St := { n := 0, slots := [], gs := [], heap := [(0, ⟨inV x A ++ inV y B, 30, true⟩)], next := 1, rows := [], nr := 0, pers := ps, wr := false }
theorem cSlim288 (x y : In) (A B : IA) (hf : x.f.length ≤ maxLen) (hy : x.y.length ≤ maxLen) (hf' : y.f.length ≤ maxLen) (hy' : y.y.length ≤ maxLen) :
  CallsK Tryz.prog 88 [.one (.sli 0 2 2), .one (.fn 52 [])] (slF2 x y A B (lsP x A ++ lsP y B)) (fun k : Int => k < 0 → x.okL ∧ y.okL) (fun k => .v (.one (.int .i64 k))) (fun _ => slF2 x y A B []) := by
 refine CallsK.mk true Tryz.func88 kq kq (fun ρ0 w0 => ?_)
 refine V.runC [] 2 [] kq kq trivial ?_
 refine V.runT [] [(0 : Int) ≤ 0 ∧ (0 : Int) < ((2 : Nat) : Int)] kq kq ⟨by decide, by decide⟩ ?_
 refine V.callK [(0, false), (1, false), (2, false)] (cSlimF x A hf hy) kq kq kq (fun _ => kq) (fun b hb => ?_)
 refine V.q ?_
 refine V.branch 16 b kq (fun hh => ?_) (fun hh => ?_)
 ·subst hh
  refine V.q ?_
  exact V.retK (0 : Int) [] kq kq kq (fun h => absurd h (by decide))
 ·subst hh
  refine V.runC [] 2 [] kq kq trivial ?_
  refine V.runT [] [(0 : Int) ≤ IntKind.i64.wrap (0 + 1) ∧ IntKind.i64.wrap ((0 : Int) + 1) < ((2 : Nat) : Int)] kq kq ⟨by decide, by decide⟩ ?_
  refine V.callK [(3, false), (4, false), (5, false)] (cSlimF y B hf' hy') kq kq kq (fun _ => kq) (fun b hb' => ?_)
  refine V.q ?_
  refine V.branch 16 b kq (fun hh => ?_) (fun hh => ?_)
  ·subst hh
   refine V.q ?_
   exact V.retK (1 : Int) [] kq kq kq (fun h => absurd h (by decide))
  ·subst hh
   refine V.runC [] 5 [] kq kq trivial ?_
   exact V.retK (-1 : Int) [] kq kq kq (fun _ => ⟨hb rfl, hb' rfl⟩)
theorem cSlim251 (x y : In) (A B : IA) (hf : x.f.length ≤ maxLen) (hy : x.y.length ≤ maxLen) (hf' : y.f.length ≤ maxLen) (hy' : y.y.length ≤ maxLen) :
  CallsK Tryz.prog 51 [.one (.sli 0 2 2), .one (.fn 52 [])] (slF2 x y A B (lsP x A ++ lsP y B)) (fun k : Int => k < 0 → x.okL ∧ y.okL) (fun k => .v (.one (.sb (decide (k ≥ 0))))) (fun _ => slF2 x y A B []) := by
 refine CallsK.mk true Tryz.func51 kq kq (fun ρ0 w0 => ?_)
 refine V.q ?_
 refine V.callK [(0, false), (1, false), (2, false), (3, false), (4, false), (5, false)] (cSlim288 x y A B hf hy hf' hy') kq kq kq (fun _ => kq) (fun b hb => ?_)
 refine V.q ?_
 exact V.retK (b : Int) [] kq kq kq hb
theorem cSlim2 (x y : In) (A B : IA) (hf : x.f.length ≤ maxLen) (hy : x.y.length ≤ maxLen) (hf' : y.f.length ≤ maxLen) (hy' : y.y.length ≤ maxLen) :
  CallsK Tryz.prog 15 [.one (.sli 0 2 2)] (slF2 x y A B (lsP x A ++ lsP y B)) (fun k : Int => k < 0 → x.okL ∧ y.okL) (fun k => .v (.one (.sb (!(decide (k ≥ 0)))))) (fun _ => slF2 x y A B []) := by
 refine CallsK.mk true Tryz.func15 kq kq (fun ρ0 w0 => ?_)
 refine V.q ?_
 refine V.callK [(0, false), (1, false), (2, false), (3, false), (4, false), (5, false)] (cSlim251 x y A B hf hy hf' hy') kq kq kq (fun _ => kq) (fun b hb => ?_)
 refine V.q ?_
 exact V.retK (b : Int) [] kq kq kq hb
set_option maxHeartbeats 2000000 in
theorem xBeside (x y : In) (A B : IA) (hf : x.f.length ≤ maxLen) (hy : x.y.length ≤ maxLen) (hf' : y.f.length ≤ maxLen) (hy' : y.y.length ≤ maxLen) :
  CallsK Tryz.prog 13 [.agg (inV x A), .agg (inV y B)] (stP (glbP :: (lsP x A ++ lsP y B))) (fun _ : Unit => True) (fun _ => .v (.one (.sb true))) (fun _ => noF) := by
 refine CallsK.mk true Tryz.func13 kq kq (fun ρ w => ?_)
 refine V.q ?_
 refine V.callK [(0, false)] sane_ kq kq kq (fun _ => kq) (fun _ _ => ?_)
 refine V.q ?_
 refine V.known 19 (!true) false kq rfl ?_
 refine V.q ?_
 refine V.callK [(1, false), (2, false), (3, false), (4, false), (5, false), (6, false)] (cSlim2 x y A B hf hy hf' hy') kq kq kq (fun _ => kq) (fun sl hsl => ?_)
 refine V.q ?_
 refine V.branch 24 (!(!(decide (sl ≥ 0)))) kq (fun hh => ?_) (fun hh => ?_)
 ·refine V.q ?_
  refine V.slotAs 4 (.one (.bool true)) (.one (.sb true)) kq kq (fun _ => rfl) ?_
  exact V.z
 obtain ⟨hx, hyo⟩ := hsl (by simp at hh; omega)
 refine V.q ?_
 cases hfx : cFine x with
 | false =>
  refine V.callK [(0, false), (1, false), (2, false), (3, false)] (xEncodeNo x A hx hfx) kq kq kq (fun _ => kq) (fun _ _ => ?_)
  refine V.q ?_
  cases hfy : cFine y with
  | false =>
   refine V.callK [(0, false), (4, false), (5, false), (6, false)] (xEncodeNo y B hyo hfy) kq kq kq (fun _ => kq) (fun _ _ => ?_)
   refine V.q ?_
   refine V.known 42 ((170 : Int) != 0 || (170 : Int) != 0) true kq (by decide) ?_
   refine V.q ?_
   refine V.slotAs 4 (.one (.bool true)) (.one (.sb true)) kq kq (fun _ => rfl) ?_
   exact V.z
  | true =>
   refine V.callK [(0, false), (4, false), (5, false), (6, false)] (xEncode y B hyo hfy) kq kq kq (fun _ => kq) (fun _ _ => ?_)
   refine V.q ?_
   refine V.known 42 ((170 : Int) != 0 || (0 : Int) != 0) true kq (by decide) ?_
   refine V.q ?_
   refine V.slotAs 4 (.one (.bool true)) (.one (.sb true)) kq kq (fun _ => rfl) ?_
   exact V.z
 | true =>
  obtain ⟨k1, k2, k3⟩ := cEnc_ok hfx
  have hrx := cEnc_rel1 hfx
  refine V.callK [(0, false), (1, false), (2, false), (3, false)] (xEncode x A hx hfx) kq kq kq (fun _ => kq) (fun qc _ => ?_)
  refine V.q ?_
  cases hfy : cFine y with
  | false =>
   refine V.callK [(0, false), (4, false), (5, false), (6, false)] (xEncodeNo y B hyo hfy) kq kq kq (fun _ => kq) (fun _ _ => ?_)
   refine V.q ?_
   refine V.known 42 ((0 : Int) != 0 || (170 : Int) != 0) true kq (by decide) ?_
   refine V.q ?_
   refine V.slotAs 4 (.one (.bool true)) (.one (.sb true)) kq kq (fun _ => rfl) ?_
   exact V.z
  | true =>
   obtain ⟨m1, m2, m3⟩ := cEnc_ok hfy
   have hry := cEnc_rel1 hfy
   refine V.callK [(0, false), (4, false), (5, false), (6, false)] (xEncode y B hyo hfy) kq kq kq (fun _ => kq) (fun qd _ => ?_)
   refine V.q ?_
   refine V.known 42 ((0 : Int) != 0 || (0 : Int) != 0) false kq (by decide) ?_
   refine V.q ?_
   refine V.freeze 0 (rowL rlv (0, 0) (cEnc x).2 qc.1 qc.2 62 2 true) kq kq ?_
   refine V.freeze 1 (rowL rlv (0, 0) (cEnc y).2 qd.1 qd.2 62 2 true) kq kq ?_
   refine V.callK [(0, true)] (cMoved (cEnc y).2 hry qd.1 qd.2 ((cEnc x).1.length : Int) (fun e he => by have := m3 e he; simp [IntKind.wrap, IntKind.bits, IntKind.signed]; omega)) kq kq kq (fun _ => kq) (fun qe _ => ?_)
   refine V.freeze 2 (rowL rlv (0, 0) ((cEnc y).2.map (mvS (cEnc x).1.length)) qe.1 qe.2 62 2 true) kq kq ?_
   refine V.q ?_
   refine V.callK [(2, true), (0, true)] (cCat (cEnc x).2 ((cEnc y).2.map (mvS (cEnc x).1.length)) hrx (by rw [List.length_map]; exact hry) qc.1 qc.2 qe.1 qe.2) kq kq kq (fun _ => kq) (fun qg _ => ?_)
   refine V.runT [] [(cEnc x).1.length + (cEnc y).1.length ≤ 9223372036854775807] kq kq (show (cEnc x).1.length + (cEnc y).1.length ≤ 9223372036854775807 by omega) ?_
   obtain ⟨b1, b2⟩ := beside_law hfx hfy
   obtain ⟨rs, hrs⟩ : ∃ rs, (cEnc x).2 ++ (cEnc y).2.map (mvS (cEnc x).1.length) = rs := ⟨_, rfl⟩
   have hrl : rs.length ≤ 2 := by rw [← hrs, List.length_append, List.length_map]; omega
   refine V.freeze 3 (rowL rlv (0, 0) ((cEnc x).2 ++ (cEnc y).2.map (mvS (cEnc x).1.length)) qg.1 qg.2 62 2 true) kq kq ?_
   obtain ⟨d1, d2⟩ := rt_ins rs ⟨(cEnc x).1 ++ (cEnc y).1, qg.1, rs.length, qg.2⟩ x 0 (cEnc y).1 hfx rfl (by rw [← hrs]; exact b1)
   obtain ⟨d3, d4⟩ := rt_ins rs ⟨(cEnc x).1 ++ (cEnc y).1, qg.1, rs.length, qg.2⟩ y (cEnc x).1.length [] hfy (by show ((cEnc x).1 ++ (cEnc y).1).drop _ = _; rw [List.drop_left, List.append_nil]) (by rw [← hrs]; exact b2)
   rw [← hrs] at d1 d2 d3 d4 hrl
   refine V.callK [(4, false), (0, true)] (xDecode ((cEnc x).2 ++ (cEnc y).2.map (mvS (cEnc x).1.length)) ⟨(cEnc x).1 ++ (cEnc y).1, qg.1, ((cEnc x).2 ++ (cEnc y).2.map (mvS (cEnc x).1.length)).length, qg.2⟩ rfl (by omega) 0 ⟨by show ((cEnc x).1 ++ (cEnc y).1).length ≤ 1000000000; rw [List.length_append]; omega, Nat.zero_le _⟩ d2)
    kq kq kq (fun _ => kq) (fun uB hu => ?_)
   obtain ⟨u, Cu⟩ := uB
   simp only at hu
   rw [d1] at hu
   simp only at hu
   subst hu
   refine V.q ?_
   refine V.settle 67 false ((0 : Int) != 0 || ((cDecR ((cEnc u).2 ++ (cEnc y).2.map (mvS (cEnc u).1.length)) ⟨(cEnc u).1 ++ (cEnc y).1, qg.1, ((cEnc u).2 ++ (cEnc y).2.map (mvS (cEnc u).1.length)).length, qg.2⟩ 0).1.at_ : Int) != ((cEnc u).1.length : Int)) kq (by rw [d1]; simp) ?_
   refine V.slotAs 13 (.one (.int .i64 ((cDecR ((cEnc u).2 ++ (cEnc y).2.map (mvS (cEnc u).1.length)) ⟨(cEnc u).1 ++ (cEnc y).1, qg.1, ((cEnc u).2 ++ (cEnc y).2.map (mvS (cEnc u).1.length)).length, qg.2⟩ 0).1.at_ : Int))) (.one (.int .i64 ((cEnc u).1.length : Int))) kq kq (fun _ => by rw [d1]; simp) ?_
   refine V.callK [(0, true), (1, true), (2, true), (8, false), (9, false), (10, false)] (cSame26 u u Cu A hx) kq kq kq (fun _ => kq) (fun _ _ => ?_)
   refine V.q ?_
   refine V.known 72 (!(eqIn u u)) false kq (by rw [eqIn_self]; rfl) ?_
   refine V.runT [] [(cEnc u).1.length + (cEnc y).1.length ≤ 9223372036854775807] kq kq (show (cEnc u).1.length + (cEnc y).1.length ≤ 9223372036854775807 by omega) ?_
   refine V.callK [(7, false), (3, true)] (xDecode ((cEnc u).2 ++ (cEnc y).2.map (mvS (cEnc u).1.length)) ⟨(cEnc u).1 ++ (cEnc y).1, qg.1, ((cEnc u).2 ++ (cEnc y).2.map (mvS (cEnc u).1.length)).length, qg.2⟩ rfl (by omega) (cEnc u).1.length ⟨by show ((cEnc u).1 ++ (cEnc y).1).length ≤ 1000000000; rw [List.length_append]; omega, by show (cEnc u).1.length ≤ ((cEnc u).1 ++ (cEnc y).1).length; rw [List.length_append]; omega⟩ d4)
    kq kq kq (fun _ => kq) (fun vB hv => ?_)
   obtain ⟨v, Cv⟩ := vB
   simp only at hv
   rw [d3] at hv
   simp only at hv
   subst hv
   refine V.q ?_
   have hN : ((0 : Int) == 0 && ((cDecR ((cEnc u).2 ++ (cEnc v).2.map (mvS (cEnc u).1.length)) ⟨(cEnc u).1 ++ (cEnc v).1, qg.1, ((cEnc u).2 ++ (cEnc v).2.map (mvS (cEnc u).1.length)).length, qg.2⟩ (cEnc u).1.length).1.at_ : Int) == IntKind.i64.wrap (((cEnc u).1.length : Int) + ((cEnc v).1.length : Int))) = true := by
    have e : IntKind.i64.wrap (((cEnc u).1.length : Int) + ((cEnc v).1.length : Int)) = (((cEnc u).1.length + (cEnc v).1.length : Nat) : Int) := by simp [IntKind.wrap, IntKind.bits, IntKind.signed]; omega
    rw [e, d3]
    simp
   refine V.settle 94 true ((0 : Int) == 0 && ((cDecR ((cEnc u).2 ++ (cEnc v).2.map (mvS (cEnc u).1.length)) ⟨(cEnc u).1 ++ (cEnc v).1, qg.1, ((cEnc u).2 ++ (cEnc v).2.map (mvS (cEnc u).1.length)).length, qg.2⟩ (cEnc u).1.length).1.at_ : Int) == IntKind.i64.wrap (((cEnc u).1.length : Int) + ((cEnc v).1.length : Int))) kq hN ?_
   refine V.callK [(0, true), (1, true), (2, true), (14, false), (15, false), (16, false)] (cSame26 v v Cv B hyo) kq kq kq (fun _ => kq) (fun _ _ => ?_)
   refine V.q ?_
   refine V.slotAs 4 (.one (.sb (eqIn v v))) (.one (.sb true)) kq kq (fun _ => by rw [eqIn_self]) ?_
   exact V.z
end Go.Proofs
end
section
namespace Go.Proofs.YteinbljapojcgaaGreatDoor
open Go
set_option maxRecDepth 100000
theorem kn0 : (Rows.codeBesideRow.wf (OpenSpec.ofChange Rows.codeBesideSpec)) = true := kq
theorem kn1 : (laidOutB Tryz.prog) = true := kq
theorem kn2 : (mapsRowed Tryz.prog) = true := kq
theorem kn3 : (Tryz.f13.params.all (Tryz.prog.readableRec ·)) = true := kq
theorem kn4 : (namedTie Tryz.prog Rows.codeBesideRow.named Rows.codeBesideSpec.vars) = true := kq
theorem kn5 : ((Rows.codeBesideRow.stops == [])) = true := kq
theorem kn6 : ((Tryz.prog.stops == [])) = true := kq
theorem kn7 : ((Rows.codeBesideRow.knobs == [])) = true := kq
theorem kn8 : ((Tryz.prog.stopKnobs == [])) = true := kq
theorem kn9 : ((Rows.codeBesideRow.inPlace == Tryz.prog.inPlace 13)) = true := kq
theorem kn10 : ((Rows.codeBesideRow.unfollowed == Tryz.prog.unfollowed 13)) = true := kq
theorem kn11 : ((Rows.codeBesideRow.recurses == Tryz.prog.recurses 13)) = true := kq
theorem kn12 : ((Rows.codeBesideRow.named == Tryz.prog.varsNamed 13)) = true := kq
theorem kn13 : ((Rows.codeBesideRow.maps == (Tryz.f13.params.toList ++ Rows.codeBesideSpec.plain.varTypes Tryz.prog).any (Tryz.prog.mapsRec ·))) = true := kq
theorem kn14 : ((Rows.codeBesideRow.ifaces == (Tryz.f13.params.toList ++ Rows.codeBesideSpec.plain.varTypes Tryz.prog).any (Tryz.prog.ifacesRec ·))) = true := kq
theorem kn15 : ((Rows.codeBesideRow.mapsOut == Tryz.prog.mapsAmong Tryz.f13.resultTypes.toList)) = true := kq
theorem kn16 : ((Rows.codeBesideRow.loops == (Tryz.f13.params.toList ++ Rows.codeBesideSpec.plain.varTypes Tryz.prog).any (Tryz.prog.loopsFrom ·))) = true := kq
theorem kn17 : ((Rows.codeBesideRow.wideKeys == (Tryz.f13.params.toList ++ Rows.codeBesideSpec.plain.varTypes Tryz.prog ++ Tryz.f13.resultTypes.toList).any (Tryz.prog.wideKeysFrom ·))) = true := kq
theorem kn18 : (Rows.codeBesideSpec.vars.all (Tryz.prog.varReadable ·)) = true := kq
theorem kn19 : (Tryz.f13.resultTypes.all (fun t => Tryz.prog.readableRec t && decide (t < Tryz.prog.types.size))) = true := kq
theorem kn20 : ((Rows.codeBesideRow.ifacesOut == Tryz.f13.resultTypes.toList.any (Tryz.prog.ifacesRec ·))) = true := kq
theorem kn21 : ((Rows.codeBesideRow.loopsOut == Tryz.f13.resultTypes.toList.any (Tryz.prog.loopsFrom ·))) = true := kq
theorem kn22 : ((Rows.codeBesideRow.plainKeys == Tryz.prog.plainKeys)) = true := kq
theorem kn23 : (Rows.codeBesideRow.shortTexts.isNone) = true := kq
theorem kn24 : (Tryz.prog.stopsHeard) = true := kq
theorem kn25 : (Tryz.prog.mayEnter) = true := kq
theorem kn26 : ((Rows.codeBesideRow.lifted == Tryz.prog.liftsFinal)) = true := kq
theorem kn27 : ((Tryz.prog.make == some Rows.codeBesideRow.make)) = true := kq
theorem kn28 : ((Rows.codeBesideRow.kinds == (if Rows.codeBesideRow.domain.isEmpty then [] else Tryz.f13.params.toList.map fun t => match Tryz.prog.underlying t with | some (.int k) => some k | _ => none))) = true := kq
theorem kn29 : ((Rows.codeBesideRow.pinned == Rows.codeBesideRow.pinnedBy)) = true := kq
theorem kn30 : ((Rows.codeBesideRow.veiled == (Tryz.f13.params.toList ++ Rows.codeBesideSpec.plain.varTypes Tryz.prog ++ Tryz.f13.resultTypes.toList).any (Tryz.prog.veiledRec ·))) = true := kq
theorem kn31 : (Rows.codeBesideRow.veiledFits Tryz.prog Tryz.f13.params.toList (Tryz.f13.params.toList ++ Rows.codeBesideSpec.plain.varTypes Tryz.prog ++ Tryz.f13.resultTypes.toList)) = true := kq
theorem kand {a b : Bool} (ha : a = true) (hb : b = true) : (a && b) = true := by rw [ha, hb]; rfl
theorem codeBeside_joined : joinedFacts Tryz.prog 13 Tryz.f13 Rows.codeBesideSpec Rows.codeBesideRow = true := by
 unfold joinedFacts
 exact kand (kand (kand (kand (kand (kand (kand (kand (kand (kand (kand (kand (kand (kand (kand (kand (kand (kand (kand (kand (kand (kand (kand (kand (kand (kand (kand (kand (kand (kand (kand (kn0) kn1) kn2) kn3) kn4) kn5) kn6) kn7) kn8) kn9) kn10) kn11) kn12) kn13) kn14) kn15) kn16) kn17) kn18) kn19) kn20) kn21) kn22) kn23) kn24) kn25) kn26) kn27) kn28) kn29) kn30) kn31
theorem codeBeside_fn : Tryz.prog.funcNamed "pliant/pliantlaw22.CodeBeside" = some 13 := kq
theorem codeBeside_inst : Tryz.f13.isInstance Tryz.prog Rows.codeBesideRow.origin Rows.codeBesideRow.targs := of_decide_eq_true kq
theorem codeBeside_wrap : Tryz.f13.isWrapper Tryz.prog Rows.codeBesideRow.wrapper Rows.codeBesideRow.mainSum := by
 unfold Func.isWrapper
 first | (rw [if_pos (by decide +kernel)]; kernel_rfl) | (rw [if_neg (by decide +kernel)]; exact ⟨rfl, rfl⟩)
theorem codeBeside_looks : true = Tryz.prog.looks [] := kq
theorem codeBeside_goes : false = Rows.codeBesideRow.goesBy Tryz.prog := kq
theorem codeBeside_wft : Rows.codeBesideRow.wfByText (OpenSpec.ofChange Rows.codeBesideSpec) = true := kq
theorem codeBeside_main : Tryz.prog.mainIs = some (true, "8a234a80a232a3bf12a1f1e0dffb9d9eab25744cd05c38bdd5c3d3d044cc81c8".toList) := kq
theorem codeBeside_stand : ([30, 30].all fun u => !Tryz.prog.wantsStandIn u) = true := kq
theorem codeBeside_par : Tryz.f13.params = #[30, 30] := kq
end Go.Proofs.YteinbljapojcgaaGreatDoor
end
section
namespace Go.Proofs.YteinbljapojcgaaGreatDoor
open Go
set_option maxRecDepth 100000
theorem codeBeside_holds (lifted : ∀ os : Os, os.Started → ∀ (H : Type) (enc : TypeId × Value → H), ReturnsInHanded {} Tryz.checked os 13 .any (fun w args => (Rows.codeBesideSpec.pre enc Tryz.prog Tryz.f13 [] false w args ∧ laidMetH Tryz.prog Rows.codeBesideRow.laid w) ∧ sizedMet enc Tryz.prog Tryz.f13 (OpenSpec.ofChange Rows.codeBesideSpec) false w args)
   (Rows.codeBesideSpec.post enc Tryz.prog Tryz.f13 false true false false)) : Rows.CodeBesideSaid :=
 OpenClaim.holds_of_wide 13 Tryz.f13 rfl rfl rfl rfl rfl rfl rfl ⟨rfl, rfl, rfl, rfl, rfl⟩ rfl rfl rfl rfl rfl codeBeside_fn Tryz.func13 codeBeside_joined codeBeside_inst codeBeside_wrap (fun os started H enc _ => lifted os started H enc)
theorem codeBeside_card (hh : Rows.CodeBesideSaid) : Rows.CodeBesideCardSaid :=
 Claim7.holds_tied_plain_at .later [] [.data, .data, .data, .data, .sentinel, .sentinel, .listed, .data, .pinned, .pinned] true (true, "8a234a80a232a3bf12a1f1e0dffb9d9eab25744cd05c38bdd5c3d3d044cc81c8") true hh (fun _ h => by cases h) codeBeside_wft (fun _ h => by cases h) codeBeside_row_tie rfl ⟨rfl, rfl⟩ codeBeside_main rfl
  (fun f fn hf hfn => by
   obtain rfl : f = 13 := Option.some.inj (codeBeside_fn.symm.trans hf) |>.symm
   obtain rfl : fn = Tryz.f13 := (Option.some.inj (Tryz.func13.symm.trans hfn)).symm
   exact ⟨codeBeside_looks, fun j t ht => by
    rw [codeBeside_par] at ht
    have hm : t ∈ [30, 30] := by simpa using Array.mem_of_getElem? ht
    exact (show Tryz.prog.wantsStandIn t = false by simpa using List.all_eq_true.1 codeBeside_stand t hm)⟩)
  codeBeside_goes
end Go.Proofs.YteinbljapojcgaaGreatDoor
end
section
namespace Go.Proofs.YteinbljapojcgaaGreatDoor
open Go Go.SX Go.ChangeShapes Go.WideShapes Go.ChangeAt Go.RowKit Go.ChangeMaps
set_option maxRecDepth 100000
theorem ownK : ownKnob Tryz.prog.godebug = none := kq
theorem persOk_of {ps : List Pers} {w : World} (h : ∀ p ∈ ps, LastP p w ∧ Stab p) : PersOk ps w := fun p hp =>
 ⟨(h p hp).1.1, fun w' hk => (h p hp).2 w w' hk (h p hp).1.1, (h p hp).1.2⟩
theorem laid_shaped (os : Os) (args : Array Value) : ((World.laidAll Tryz.prog os laidL).forCall (fun _ _ => 0) ⟨#[], args, []⟩).Shaped Tryz.prog := World.shaped_of_ZipB kq kq
theorem laid_met (os : Os) (args : Array Value) : laidMetH Tryz.prog laidL ((World.laidAll Tryz.prog os laidL).forCall (fun _ _ => 0) ⟨#[], args, []⟩).memory := by
 rw [MakeChecks.laidMetH_plain _ _ _ kq]
 exact laidMet_laidAll _ kq kq
theorem ls_stab (x : In) (A : IA) : ∀ p ∈ lsP x A, Stab p := fun p hp => by
 simp only [lsP, List.mem_cons, List.not_mem_nil, or_false] at hp
 rcases hp with rfl | rfl | rfl <;> exact rowP_stab _
def insZ : Value := .agg #[.int .i64 0, .int .i64 0, .int .i64 0, .int .i64 0, .int .i64 0, .int .i64 0, .int .i64 0, .bool false, .string ⟨#[]⟩, .int .i64 0, .int .i64 0, .int .i64 0, .bool false, .string ⟨#[]⟩, .int .i64 0, .int .i64 0, .int .i64 0, .bool false, .string ⟨#[]⟩,
  .int .i64 0, .int .i64 0, .int .i64 0, .int .i64 0, .string ⟨#[]⟩, .slice none 0 0, .slice none 0 0, .slice none 0 0, .bool false, .bool false]
theorem beside_lifted (os : Os) (started : os.Started) (H : Type) (enc : TypeId × Value → H) :
  ReturnsInHanded {} Tryz.checked os 13 .any (fun w args => (Rows.codeBesideSpec.pre enc Tryz.prog Tryz.f13 [] false w args ∧ laidMetH Tryz.prog laidL w) ∧ sizedMet enc Tryz.prog Tryz.f13 (OpenSpec.ofChange Rows.codeBesideSpec) false w args)
   (Rows.codeBesideSpec.post enc Tryz.prog Tryz.f13 false true false false) := by
 refine returns_wrap (C := Tryz.checked) (X := fun w _ => laidMetH Tryz.prog laidL w) (fun _ _ _ hh h => h.of_heap hh) ownK started kq Tryz.func13
  (ChangeSpec.witness_shaped (enc := enc) (C := Tryz.checked) (os := os) (X := fun w _ => laidMetH Tryz.prog laidL w) false (World.laidAll Tryz.prog os laidL) #[insZ, insZ] 8 (World.laidAll_os _ _ _)
   (laid_shaped os _) kq kq kq (laid_met os _)) ?_
 intro W base args ds gs before hval0 hW hL hsh
 have hval : ∀ (j : Nat) t v, Tryz.f13.params[j]? = some t → args[j]? = some v → Value.okWide Tryz.prog W .any base t v := hval0
 have hW' := hW
 obtain ⟨p, q, hA0, hV, rfl, _, _⟩ := hW
 have hA : DataW.TrodAll enc Tryz.prog W 0 (fun _ => true) true Tryz.f13.params.toList args.toList ds p := hA0
 have hpar : Tryz.f13.params = #[30, 30] := kq
 rw [hpar] at hA hval
 obtain ⟨v0, v1, d0, d1, p0, p1, rfl, rfl, rfl, h0, h1⟩ := trodAll_two hA
 obtain ⟨rfl, rfl⟩ := trodVars_none hV
 obtain ⟨x, A, rfl, hf, _, hy, hls⟩ := open_in (hval 0 30 v0 rfl rfl) h0
 obtain ⟨y, B, rfl, hf', _, hy', hls'⟩ := open_in (hval 1 30 v1 rfl rfl) h1
 have hP : PersOk (glbP :: (lsP x A ++ lsP y B)) W := persOk_of (fun p hp => by
  rcases List.mem_cons.1 hp with rfl | hp
  ·exact ⟨glb_of_laid hL hsh, glbP_stab⟩
  ·rcases List.mem_append.1 hp with hp | hp
   ·exact ⟨hls p hp, ls_stab x A p hp⟩
   ·exact ⟨hls' p hp, ls_stab y B p hp⟩)
 refine (CallsK.gives (xBeside x y A B hf hy hf' hy') ⟨rfl, rfl, rfl⟩ (fun _ _ => rfl) (fun _ => 0) W hP).mono fun e W' ⟨he, hc⟩ => ?_
 subst he
 exact ⟨_, rfl, post_true rfl kq (by rw [hpar]; exact fun t ht => of_decide_eq_true (List.all_eq_true.1 (show ([30, 30].all fun u => decide (u < Tryz.prog.types.size)) = true by kernel_rfl) t ht)) hW' rfl hc⟩
theorem beside_card_holds : Rows.CodeBesideCardSaid := codeBeside_card (codeBeside_holds (fun os started H enc => beside_lifted os started H enc))
end Go.Proofs.YteinbljapojcgaaGreatDoor
end
