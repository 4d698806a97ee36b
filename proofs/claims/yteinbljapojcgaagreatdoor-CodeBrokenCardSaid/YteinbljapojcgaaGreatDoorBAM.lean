/- A symbolic run of the program that Lean checks, and what the functions of the program come to by it: part 13 of 13. -/
import Derived.Test.YteinbljapojcgaaGreatDoorRows
import Derived.Test.YteinbljapojcgaaGreatDoorTie
import Derived.Test.YteinbljapojcgaaGreatDoorCards
import Derived.JoinedOf
import Derived.KernelRfl
import Derived.SevenTiedAt
import Derived.ChangeMaps5
import Derived.ProofKit
import Derived.OpenShut
import Derived.Stop.Joined
import Derived.Test.YteinbljapojcgaaGreatDoorBAL
set_option linter.unusedVariables false
section
namespace Go.Proofs
open Go Go.SX
set_option maxRecDepth 10000
def skipC : Nat → Nat → List Item → List Item
 | 0, _, k => k
 | _, 0, k => k
 | n + 1, m + 1, k => match k with
  | .code (.seq a b) :: k => skipC n (m + 1) (.code a :: .code b :: k)
  | .code (.block id body) :: k => skipC n (m + 1) (.code body :: .inBlock id :: k)
  | .code (.scope body) :: k => skipC n (m + 1) (.code body :: .inScope body :: k)
  | .code (.region _ _ _) :: k => skipC n (m + 1) k
  | .code (.cond _ _ _) :: k => skipC n m k
  | .code .skip :: k => skipC n (m + 1) k
  | .code (.label _) :: k => skipC n (m + 1) k
  | k => k
def modL (pr rg : Int) (X : RIn) : List SV := [.int .i64 pr, .int .i64 rg, .str X.s, .val (.slice X.q X.n X.c)]
noncomputable def brSt0 (rl : List (Int × Int)) (X : RIn) (pr rg : Int) : St :=
 { n := 137, slots := [(5, .v (.one (.ptr 0 0)))], gs := [], heap := [(0, ⟨modL pr rg X, 49, true⟩)], next := 1, rows := [], nr := 0, pers := [glbP, rowP (relRow rl X.q X.c)], wr := true, fx := 0 }
noncomputable def brC (rl : List (Int × Int)) (X : RIn) (pr rg : Int) : Cfg := (SX.runT Tryz.prog [] 1000 ⟨skipC 100 3 [.code (bodyOf Tryz.f6)], brSt0 rl X pr rg⟩).1
noncomputable def brSt1 (rl : List (Int × Int)) (X : RIn) (pr rg : Int) : St :=
 { n := 137, slots := [(5, .v (.one (.ptr 0 0))), (61, .v (.agg (modL pr rg X)))], gs := [], heap := [(0, ⟨modL pr rg X, 49, true⟩)], next := 1, rows := [], nr := 0, pers := [glbP, rowP (relRow rl X.q X.c)], wr := true, fx := 0 }
noncomputable def brF (rl : List (Int × Int)) (X : RIn) (x : In) (A : IA) : St := stP (glbP :: rowP (relRow rl X.q X.c) :: lsP x A)
theorem movedA0 (q : Option Addr) (sz c : Nat) : movedA q 0 sz c = q := by
 unfold movedA
 split
 ·rfl
 ·cases q <;> simp [Addr.add]
noncomputable def brSt2 (rl : List (Int × Int)) (X : RIn) (pr rg : Int) (ps lt : List Int) (q : Option Addr) (c : Nat) (i : Nat) : St :=
 { n := 137, slots := [(5, .v (.one (.ptr 0 0))), (13, .v (.one (.row 0 q ps.length c))), (103, .v (.one (.row 1 q lt.length c))), (104, .v (.one (.int .i64 (lt.length : Int)))), (105, .v (.one (.int .i64 (i : Int))))], gs := [], heap := [(0, ⟨modL pr rg X, 49, true⟩)], next := 1,
    rows := [(0, rowL intv 0 ps q c 3 1 false), (1, rowL intv 0 lt q c 3 1 false)], nr := 2, pers := [glbP, rowP (relRow rl X.q X.c)], wr := true, fx := 0 }
set_option maxHeartbeats 2000000 in
theorem broken_rest (x : In) (A : IA) (rl : List (Int × Int)) (X : RIn) (pr rg : Int) (hX : X.n = rl.length) (hl : rl.length ≤ 4000) (hs : X.s.length ≤ 20000) (ρ : Nat → Nat) (w : World) :
  V ⟨Tryz.prog, 6, GivesK ρ (brF rl X x A) (fun _ : Unit => True) (fun _ => .v (.one (.sb true))) (fun _ => noF) w, touch ρ (brF rl X x A), w, ρ, none⟩ ⟨(brC rl X pr rg).todo, brSt1 rl X pr rg⟩ := by
 cases hv : vdS rl X pr rg with
 | none =>
  refine V.callK [(0, false), (1, false)] (xPlacesNo rl X hX (by omega) (by omega) pr rg hv) kq kq kq (fun _ => kq) (fun _ _ => ?_)
  refine V.q ?_
  refine V.known 66 ((221 : Int) != 0) true kq (by decide) ?_
  refine V.q ?_
  refine V.slotAs 6 (.one (.sb ((221 : Int) == 221))) (.one (.sb true)) kq kq (fun _ => rfl) ?_
  exact V.z
 | some s =>
  obtain ⟨p, hp, hP⟩ := vd_places (by omega) hv
  obtain ⟨l, ps⟩ := s
  simp only at hp hP
  have hpl : ps.length = l.length + 1 := by rw [hp, List.length_cons, hP.len]
  have hle := hP.le
  refine V.callK [(0, false), (1, false)] (xPlaces rl X hX (by omega) (by omega) pr rg (l, ps) hv) kq kq kq (fun _ => kq) (fun qc hqc => ?_)
  obtain ⟨q, c⟩ := qc
  have hcap : ps.length ≤ c := hqc
  refine V.q ?_
  refine V.persAs [(0, true)] [rowP (rowL intv 0 ps q c 3 1 false)] (rowP (rowL intv 0 ps q c 3 1 false)) kq (fun k hk => ⟨_, List.mem_singleton.2 rfl, hk⟩) (fun w hw => hw _ (List.mem_singleton.2 rfl)) (rowP_stab _) ?_
  refine V.asRow 13 0 (rowL intv 0 ps q c 3 1 false) kq kq kq rfl ?_
  refine V.known 66 ((0 : Int) != 0) false kq (by decide) ?_
  have hw1 : IntKind.i64.wrap ((X.s.length : Int) + 1) = (X.s.length : Int) + 1 := by simp [IntKind.wrap, IntKind.bits, IntKind.signed]; omega
  have hw2 : IntKind.i64.wrap ((ps.length : Int) - 1) = (l.length : Int) := by rw [hpl]; simp [IntKind.wrap, IntKind.bits, IntKind.signed]; omega
  refine V.runT [] [(decide ((ps.length : Int) < 1) || decide ((ps.length : Int) > IntKind.i64.wrap ((X.s.length : Int) + 1))) = false → (0 : Int) ≤ 0 ∧ (0 : Int) < (ps.length : Int), (decide ((ps.length : Int) < 1) || decide ((ps.length : Int) > IntKind.i64.wrap ((X.s.length : Int) + 1)) || ps.getD (Int.toNat 0) 0 != 0) = false → (0 : Int) ≤ IntKind.i64.wrap ((ps.length : Int) - 1) ∧ IntKind.i64.wrap ((ps.length : Int) - 1) < (ps.length : Int)] kq kq ⟨fun _ => ⟨by omega, by omega⟩, fun _ => (show (0 : Int) ≤ IntKind.i64.wrap ((ps.length : Int) - 1) ∧ IntKind.i64.wrap ((ps.length : Int) - 1) < (ps.length : Int) by rw [hw2]; omega)⟩ ?_
  refine V.branch 98 (decide ((ps.length : Int) < 1) || decide ((ps.length : Int) > IntKind.i64.wrap ((X.s.length : Int) + 1)) || ps.getD (Int.toNat 0) 0 != 0 || ps.getD (IntKind.i64.wrap ((ps.length : Int) - 1)).toNat 0 != (X.s.length : Int)) kq (fun hc => ?_) (fun _ => ?_)
  ·exfalso
   have e0 : ps.getD (Int.toNat 0) 0 = 0 := by rw [hp]; rfl
   have e1 : ps.getD l.length 0 = (X.s.length : Int) := by rw [hp]; have := hP.last; simpa using this
   rw [hw1, hw2, e0, Int.toNat_natCast, e1] at hc
   simp only [bne_self_eq_false, Bool.or_false, Bool.or_eq_true, decide_eq_true_eq] at hc
   omega
  refine V.slotAs 13 (.one (.row 0 q ps.length c)) (.one (.val (.slice q ps.length c))) kq kq (fun _ => rfl) ?_
  refine V.runT [] [(0 : Int) ≤ 0 ∧ (0 : Int) ≤ IntKind.i64.wrap ((ps.length : Int) - 1) ∧ IntKind.i64.wrap ((ps.length : Int) - 1) ≤ (c : Int)] kq kq (by show _ ∧ _ ∧ _; rw [hw2]; omega) ?_
  obtain ⟨lt, hlt⟩ : ∃ lt, ps.take l.length = lt := ⟨_, rfl⟩
  have hltl : lt.length = l.length := by rw [← hlt, List.length_take]; omega
  obtain ⟨r1, r2⟩ := row_take intv 0 ps q c 3 1 l.length
  rw [hlt] at r1 r2
  refine V.slotAs 103 (.one (.val (.slice (movedA q (0 : Int).toNat 1 c) ((IntKind.i64.wrap ((ps.length : Int) - 1)).toNat - (0 : Int).toNat) (c - (0 : Int).toNat)))) (.one (.val (.slice q lt.length c))) kq kq (fun _ => by
   rw [hw2, Int.toNat_natCast, hltl, show (0 : Int).toNat = 0 from rfl, movedA0, Nat.sub_zero, Nat.sub_zero]) ?_
  refine V.slotAs 104 (.one (.int .i64 (((IntKind.i64.wrap ((ps.length : Int) - 1)).toNat - (0 : Int).toNat : Nat) : Int))) (.one (.int .i64 (lt.length : Int))) kq kq (fun _ => by
   rw [hw2, Int.toNat_natCast, hltl, show (0 : Int).toNat = 0 from rfl, Nat.sub_zero]) ?_
  refine V.persAs [(0, false)] [rowP (rowL intv 0 ps q c 3 1 false)] (rowP (rowL intv 0 lt q c 3 1 false)) kq r1 r2 (rowP_stab _) ?_
  refine V.asRow 13 1 (rowL intv 0 ps q c 3 1 false) kq kq kq rfl ?_
  refine V.asRow 103 0 (rowL intv 0 lt q c 3 1 false) kq kq kq rfl ?_
  refine V.iter ?_
  refine V.loopTo [5, 13, 103, 104, 105] [0] [1, 2] [false, false, false, true, true] (fun i : Nat => lt.length - i) (brSt2 rl X pr rg ps lt q c) (fun i => i ≤ lt.length) 0 kq (Nat.zero_le _) (fun i hi ih => ?_)
  refine V.q ?_
  refine V.branch 106 (decide ((i : Int) < (lt.length : Int))) kq (fun hc => ?_) (fun hc => ?_)
  ·have hil : i < lt.length := by simpa using hc
   obtain ⟨a, ha1, ha2, ha3, ha4⟩ := hP.step i (by omega)
   have hp' : (((0 : Nat) : Int) :: p) = ps := hp.symm
   rw [hp'] at ha1 ha4
   have ha0 : lt.getD i 0 = (a : Int) := by
    rw [← hlt, List.getD, List.getElem?_take_of_lt (by omega), ← ha1]
    rfl
   have hok : okIn X ⟨a, false⟩ := ⟨by omega, by show a ≤ X.s.length; omega⟩
   refine V.runT [] [(0 : Int) ≤ i ∧ (i : Int) < lt.length] kq kq ⟨by omega, by omega⟩ ?_
   refine V.slotAs 115 (.one (.int .i64 (lt.getD i 0))) (.one (.int .i64 (a : Int))) kq kq (fun _ => by rw [ha0]) ?_
   refine V.callK [(0, false), (1, false)] (xDecode rl X hX (by omega) a hok ha3) kq kq kq (fun _ => kq) (fun y hy => ?_)
   obtain ⟨y, B⟩ := y
   simp only at hy
   have hwi : IntKind.i64.wrap ((i : Int) + 1) = ((i + 1 : Nat) : Int) := by simp [IntKind.wrap, IntKind.bits, IntKind.signed]; omega
   refine V.runT [] [((0 : Int) != 0) = false → (0 : Int) ≤ IntKind.i64.wrap ((i : Int) + 1) ∧ IntKind.i64.wrap ((i : Int) + 1) < (ps.length : Int)] kq kq (fun _ => (show (0 : Int) ≤ IntKind.i64.wrap ((i : Int) + 1) ∧ IntKind.i64.wrap ((i : Int) + 1) < (ps.length : Int) by rw [hwi]; omega)) ?_
   refine V.known 131 ((0 : Int) != 0 || ((cDecR rl X a).1.at_ : Int) != ps.getD (IntKind.i64.wrap ((i : Int) + 1)).toNat 0) false kq (by rw [hwi, Int.toNat_natCast, ha4]; simp) ?_
   refine V.callK [(3, false), (0, true), (1, true), (2, true)] (xCheck y B (by rw [hy]; exact cDecR_okL rl X a hok)) kq kq kq (fun _ => kq) (fun _ _ => ?_)
   have hfine : cFine y = true := by rw [hy]; exact cDecOk_fine ha3
   refine V.q ?_
   refine V.known 135 ((bif cFine y then (0 : Int) else 170) != 0) false kq (by rw [hfine]; rfl) ?_
   refine V.q ?_
   refine V.slotAs 105 (.one (.int .i64 (IntKind.i64.wrap ((i : Int) + 1)))) (.one (.int .i64 ((i + 1 : Nat) : Int))) kq kq (fun _ => by rw [hwi]) ?_
   refine V.iter ?_
   exact V.back [5, 13, 103, 104, 105] [0] [0, 1] [false, false, false, true, true] (ih (i + 1) (by omega) (by omega)) kq kq
  ·refine V.q ?_
   refine V.slotAs 6 (.one (.bool true)) (.one (.sb true)) kq kq (fun _ => rfl) ?_
   exact V.z
set_option maxHeartbeats 2000000 in
theorem xBroken (x : In) (A : IA) (n : Int) (rl : List (Int × Int)) (X : RIn) (pr rg : Int) (hX : X.n = rl.length) (hf : x.f.length ≤ maxLen) (hy : x.y.length ≤ maxLen) :
  CallsK Tryz.prog 6 [.agg (inV x A), .one (.int .i64 n), .agg (modL pr rg X)] (brF rl X x A) (fun _ : Unit => True) (fun _ => .v (.one (.sb true))) (fun _ => noF) := by
 refine CallsK.mk true Tryz.func6 kq kq (fun ρ w => ?_)
 refine V.q ?_
 refine V.callK [(0, false)] sane_ kq kq kq (fun _ => kq) (fun _ _ => ?_)
 refine V.q ?_
 refine V.known 21 (!true) false kq rfl ?_
 refine V.q ?_
 refine V.callK [(2, false), (3, false), (4, false)] (cSlim x A hf hy) kq kq kq (fun _ => kq) (fun sl hsl => ?_)
 refine V.runT [(⟨aShort, []⟩ : Ent Tryz.prog)] [] kq kq trivial ?_
 refine V.branch 30 (!sl || !(decide ((X.s.length : Int) ≤ 20000) && decide ((X.n : Int) ≤ 4000))) kq (fun hh => ?_) (fun hh => ?_)
 ·refine V.q ?_
  refine V.slotAs 6 (.one (.bool true)) (.one (.sb true)) kq kq (fun _ => rfl) ?_
  exact V.z
 simp only [Bool.or_eq_false_iff, Bool.not_eq_false', Bool.and_eq_true, decide_eq_true_eq] at hh
 have hx : x.okL := hsl hh.1
 have hs : X.s.length ≤ 20000 := by omega
 have hl : rl.length ≤ 4000 := by omega
 refine V.q ?_
 cases hfine : cFine x with
 | false =>
  refine V.callK [(0, false), (2, false), (3, false), (4, false)] (xEncodeNo x A hx hfine) kq kq kq (fun _ => kq) (fun _ _ => ?_)
  refine V.q ?_
  refine V.known 48 (((170 : Int) == 0) && decide (n ≥ 0) && decide (n < (([] : List UInt8).length : Int))) false kq (by simp) ?_
  refine V.q ?_
  exact V.back [5, 61] [1] [] [true, true, false, false, false] (broken_rest x A rl X pr rg hX hl hs ρ w) kq kq
 | true =>
  refine V.callK [(0, false), (2, false), (3, false), (4, false)] (xEncode x A hx hfine) kq kq kq (fun _ => kq) (fun qc _ => ?_)
  refine V.q ?_
  have hL : (cEnc x).1.length ≤ 1000000000 := by have := (cEnc_ok hfine).1; omega
  refine V.branch 48 ((0 : Int) == 0 && decide (n ≥ 0) && decide (n < ((cEnc x).1.length : Int))) kq (fun hc => ?_) (fun _ => ?_)
  ·simp only [Bool.and_eq_true, decide_eq_true_eq] at hc
   obtain ⟨k, rfl⟩ : ∃ k : Nat, n = (k : Int) := ⟨n.toNat, by omega⟩
   have hk : k < (cEnc x).1.length := by omega
   refine V.runT [] [(0 : Int) ≤ 0 ∧ (0 : Int) ≤ k ∧ (k : Int) ≤ (cEnc x).1.length] kq kq (by show _ ∧ _ ∧ _; omega) ?_
   refine V.slotAs 52 (.one (.str (List.drop (0 : Int).toNat (List.take (k : Int).toNat (cEnc x).1)))) (.one (.str ((cEnc x).1.take k))) kq kq (fun _ => by rw [Int.toNat_natCast]; rfl) ?_
   refine V.freeze 0 (rowL rlv (0, 0) (cEnc x).2 qc.1 qc.2 62 2 true) kq kq ?_
   refine V.callK [(1, false), (0, true)] (xDecodeNo (cEnc x).2 ⟨(cEnc x).1.take k, qc.1, (cEnc x).2.length, qc.2⟩ rfl (by have := cEnc_rel1 hfine; omega) 0 ⟨by show (List.take k (cEnc x).1).length ≤ 1000000000; rw [List.length_take]; omega, Nat.zero_le _⟩
    (cut_no hfine _ k hL hk rfl)) kq kq kq (fun _ => kq) (fun _ _ => ?_)
   refine V.q ?_
   refine V.known 59 ((220 : Int) != 220) false kq (by decide) ?_
   refine V.q ?_
   exact V.back [5, 61] [1] [] [false, true, true, false, false, false] (broken_rest x A rl X pr rg hX hl hs ρ w) kq kq
  ·refine V.q ?_
   exact V.back [5, 61] [1] [] [true, true, false, false, false] (broken_rest x A rl X pr rg hX hl hs ρ w) kq kq
end Go.Proofs
end
section
namespace Go.Proofs.YteinbljapojcgaaGreatDoor
open Go
set_option maxRecDepth 100000
theorem kn0 : (Rows.codeBrokenRow.wf (OpenSpec.ofChange Rows.codeBrokenSpec)) = true := kq
theorem kn1 : (laidOutB Tryz.prog) = true := kq
theorem kn2 : (mapsRowed Tryz.prog) = true := kq
theorem kn3 : (Tryz.f6.params.all (Tryz.prog.readableRec ·)) = true := kq
theorem kn4 : (namedTie Tryz.prog Rows.codeBrokenRow.named Rows.codeBrokenSpec.vars) = true := kq
theorem kn5 : ((Rows.codeBrokenRow.stops == [])) = true := kq
theorem kn6 : ((Tryz.prog.stops == [])) = true := kq
theorem kn7 : ((Rows.codeBrokenRow.knobs == [])) = true := kq
theorem kn8 : ((Tryz.prog.stopKnobs == [])) = true := kq
theorem kn9 : ((Rows.codeBrokenRow.inPlace == Tryz.prog.inPlace 6)) = true := kq
theorem kn10 : ((Rows.codeBrokenRow.unfollowed == Tryz.prog.unfollowed 6)) = true := kq
theorem kn11 : ((Rows.codeBrokenRow.recurses == Tryz.prog.recurses 6)) = true := kq
theorem kn12 : ((Rows.codeBrokenRow.named == Tryz.prog.varsNamed 6)) = true := kq
theorem kn13 : ((Rows.codeBrokenRow.maps == (Tryz.f6.params.toList ++ Rows.codeBrokenSpec.plain.varTypes Tryz.prog).any (Tryz.prog.mapsRec ·))) = true := kq
theorem kn14 : ((Rows.codeBrokenRow.ifaces == (Tryz.f6.params.toList ++ Rows.codeBrokenSpec.plain.varTypes Tryz.prog).any (Tryz.prog.ifacesRec ·))) = true := kq
theorem kn15 : ((Rows.codeBrokenRow.mapsOut == Tryz.prog.mapsAmong Tryz.f6.resultTypes.toList)) = true := kq
theorem kn16 : ((Rows.codeBrokenRow.loops == (Tryz.f6.params.toList ++ Rows.codeBrokenSpec.plain.varTypes Tryz.prog).any (Tryz.prog.loopsFrom ·))) = true := kq
theorem kn17 : ((Rows.codeBrokenRow.wideKeys == (Tryz.f6.params.toList ++ Rows.codeBrokenSpec.plain.varTypes Tryz.prog ++ Tryz.f6.resultTypes.toList).any (Tryz.prog.wideKeysFrom ·))) = true := kq
theorem kn18 : (Rows.codeBrokenSpec.vars.all (Tryz.prog.varReadable ·)) = true := kq
theorem kn19 : (Tryz.f6.resultTypes.all (fun t => Tryz.prog.readableRec t && decide (t < Tryz.prog.types.size))) = true := kq
theorem kn20 : ((Rows.codeBrokenRow.ifacesOut == Tryz.f6.resultTypes.toList.any (Tryz.prog.ifacesRec ·))) = true := kq
theorem kn21 : ((Rows.codeBrokenRow.loopsOut == Tryz.f6.resultTypes.toList.any (Tryz.prog.loopsFrom ·))) = true := kq
theorem kn22 : ((Rows.codeBrokenRow.plainKeys == Tryz.prog.plainKeys)) = true := kq
theorem kn23 : (Rows.codeBrokenRow.shortTexts.isNone) = true := kq
theorem kn24 : (Tryz.prog.stopsHeard) = true := kq
theorem kn25 : (Tryz.prog.mayEnter) = true := kq
theorem kn26 : ((Rows.codeBrokenRow.lifted == Tryz.prog.liftsFinal)) = true := kq
theorem kn27 : ((Tryz.prog.make == some Rows.codeBrokenRow.make)) = true := kq
theorem kn28 : ((Rows.codeBrokenRow.kinds == (if Rows.codeBrokenRow.domain.isEmpty then [] else Tryz.f6.params.toList.map fun t => match Tryz.prog.underlying t with | some (.int k) => some k | _ => none))) = true := kq
theorem kn29 : ((Rows.codeBrokenRow.pinned == Rows.codeBrokenRow.pinnedBy)) = true := kq
theorem kn30 : ((Rows.codeBrokenRow.veiled == (Tryz.f6.params.toList ++ Rows.codeBrokenSpec.plain.varTypes Tryz.prog ++ Tryz.f6.resultTypes.toList).any (Tryz.prog.veiledRec ·))) = true := kq
theorem kn31 : (Rows.codeBrokenRow.veiledFits Tryz.prog Tryz.f6.params.toList (Tryz.f6.params.toList ++ Rows.codeBrokenSpec.plain.varTypes Tryz.prog ++ Tryz.f6.resultTypes.toList)) = true := kq
theorem kand {a b : Bool} (ha : a = true) (hb : b = true) : (a && b) = true := by rw [ha, hb]; rfl
theorem codeBroken_joined : joinedFacts Tryz.prog 6 Tryz.f6 Rows.codeBrokenSpec Rows.codeBrokenRow = true := by
 unfold joinedFacts
 exact kand (kand (kand (kand (kand (kand (kand (kand (kand (kand (kand (kand (kand (kand (kand (kand (kand (kand (kand (kand (kand (kand (kand (kand (kand (kand (kand (kand (kand (kand (kand (kn0) kn1) kn2) kn3) kn4) kn5) kn6) kn7) kn8) kn9) kn10) kn11) kn12) kn13) kn14) kn15) kn16) kn17) kn18) kn19) kn20) kn21) kn22) kn23) kn24) kn25) kn26) kn27) kn28) kn29) kn30) kn31
theorem codeBroken_fn : Tryz.prog.funcNamed "pliant/pliantlaw22.CodeBroken" = some 6 := kq
theorem codeBroken_inst : Tryz.f6.isInstance Tryz.prog Rows.codeBrokenRow.origin Rows.codeBrokenRow.targs := of_decide_eq_true kq
theorem codeBroken_wrap : Tryz.f6.isWrapper Tryz.prog Rows.codeBrokenRow.wrapper Rows.codeBrokenRow.mainSum := by
 unfold Func.isWrapper
 first | (rw [if_pos (by decide +kernel)]; kernel_rfl) | (rw [if_neg (by decide +kernel)]; exact ⟨rfl, rfl⟩)
theorem codeBroken_looks : true = Tryz.prog.looks [] := kq
theorem codeBroken_goes : false = Rows.codeBrokenRow.goesBy Tryz.prog := kq
theorem codeBroken_wft : Rows.codeBrokenRow.wfByText (OpenSpec.ofChange Rows.codeBrokenSpec) = true := kq
theorem codeBroken_main : Tryz.prog.mainIs = some (true, "8a234a80a232a3bf12a1f1e0dffb9d9eab25744cd05c38bdd5c3d3d044cc81c8".toList) := kq
theorem codeBroken_stand : ([30, 3, 49].all fun u => !Tryz.prog.wantsStandIn u) = true := kq
theorem codeBroken_par : Tryz.f6.params = #[30, 3, 49] := kq
end Go.Proofs.YteinbljapojcgaaGreatDoor
end
section
namespace Go.Proofs.YteinbljapojcgaaGreatDoor
open Go
set_option maxRecDepth 100000
theorem codeBroken_holds (lifted : ∀ os : Os, os.Started → ∀ (H : Type) (enc : TypeId × Value → H), ReturnsInHanded {} Tryz.checked os 6 .any (fun w args => (Rows.codeBrokenSpec.pre enc Tryz.prog Tryz.f6 [] false w args ∧ laidMetH Tryz.prog Rows.codeBrokenRow.laid w) ∧ sizedMet enc Tryz.prog Tryz.f6 (OpenSpec.ofChange Rows.codeBrokenSpec) false w args)
   (Rows.codeBrokenSpec.post enc Tryz.prog Tryz.f6 false true false false)) : Rows.CodeBrokenSaid :=
 OpenClaim.holds_of_wide 6 Tryz.f6 rfl rfl rfl rfl rfl rfl rfl ⟨rfl, rfl, rfl, rfl, rfl⟩ rfl rfl rfl rfl rfl codeBroken_fn Tryz.func6 codeBroken_joined codeBroken_inst codeBroken_wrap (fun os started H enc _ => lifted os started H enc)
theorem codeBroken_card (hh : Rows.CodeBrokenSaid) : Rows.CodeBrokenCardSaid :=
 Claim7.holds_tied_plain_at .later [] [.data, .data, .data, .data, .sentinel, .sentinel, .listed, .data, .pinned, .pinned] true (true, "8a234a80a232a3bf12a1f1e0dffb9d9eab25744cd05c38bdd5c3d3d044cc81c8") true hh (fun _ h => by cases h) codeBroken_wft (fun _ h => by cases h) codeBroken_row_tie rfl ⟨rfl, rfl⟩ codeBroken_main rfl
  (fun f fn hf hfn => by
   obtain rfl : f = 6 := Option.some.inj (codeBroken_fn.symm.trans hf) |>.symm
   obtain rfl : fn = Tryz.f6 := (Option.some.inj (Tryz.func6.symm.trans hfn)).symm
   exact ⟨codeBroken_looks, fun j t ht => by
    rw [codeBroken_par] at ht
    have hm : t ∈ [30, 3, 49] := by simpa using Array.mem_of_getElem? ht
    exact (show Tryz.prog.wantsStandIn t = false by simpa using List.all_eq_true.1 codeBroken_stand t hm)⟩)
  codeBroken_goes
end Go.Proofs.YteinbljapojcgaaGreatDoor
end
section
namespace Go.Proofs.YteinbljapojcgaaGreatDoor
open Go Go.SX Go.ChangeShapes Go.WideShapes Go.ChangeAt Go.RowKit Go.ChangeMaps
set_option maxRecDepth 100000
theorem ownK : ownKnob Tryz.prog.godebug = none := kq
theorem persOk_of {ps : List Pers} {w : World} (h : ∀ p ∈ ps, LastP p w ∧ Stab p) : PersOk ps w := fun p hp =>
 ⟨(h p hp).1.1, fun w' hk => (h p hp).2 w w' hk (h p hp).1.1, (h p hp).1.2⟩
theorem laid_shaped (os : Os) (args : Array Value) : ((World.laidAll Tryz.prog os laidL).forCall (fun _ _ => 0) ⟨#[], args, []⟩).Shaped Tryz.prog := World.shaped_of_ZipB kq kq
theorem laid_met (os : Os) (args : Array Value) : laidMetH Tryz.prog laidL ((World.laidAll Tryz.prog os laidL).forCall (fun _ _ => 0) ⟨#[], args, []⟩).memory := by
 rw [MakeChecks.laidMetH_plain _ _ _ kq]
 exact laidMet_laidAll _ kq kq
theorem ls_stab (x : In) (A : IA) : ∀ p ∈ lsP x A, Stab p := fun p hp => by
 simp only [lsP, List.mem_cons, List.not_mem_nil, or_false] at hp
 rcases hp with rfl | rfl | rfl <;> exact rowP_stab _
def insZ : Value := .agg #[.int .i64 0, .int .i64 0, .int .i64 0, .int .i64 0, .int .i64 0, .int .i64 0, .int .i64 0, .bool false, .string ⟨#[]⟩, .int .i64 0, .int .i64 0, .int .i64 0, .bool false, .string ⟨#[]⟩, .int .i64 0, .int .i64 0, .int .i64 0, .bool false, .string ⟨#[]⟩,
 .int .i64 0, .int .i64 0, .int .i64 0, .int .i64 0, .string ⟨#[]⟩, .slice none 0 0, .slice none 0 0, .slice none 0 0, .bool false, .bool false]
theorem broken_lifted (os : Os) (started : os.Started) (H : Type) (enc : TypeId × Value → H) :
  ReturnsInHanded {} Tryz.checked os 6 .any (fun w args => (Rows.codeBrokenSpec.pre enc Tryz.prog Tryz.f6 [] false w args ∧ laidMetH Tryz.prog laidL w) ∧ sizedMet enc Tryz.prog Tryz.f6 (OpenSpec.ofChange Rows.codeBrokenSpec) false w args)
   (Rows.codeBrokenSpec.post enc Tryz.prog Tryz.f6 false true false false) := by
 refine returns_wrap (C := Tryz.checked) (X := fun w _ => laidMetH Tryz.prog laidL w) (fun _ _ _ hh h => h.of_heap hh) ownK started kq Tryz.func6
  (ChangeSpec.witness_shaped (enc := enc) (C := Tryz.checked) (os := os) (X := fun w _ => laidMetH Tryz.prog laidL w) false (World.laidAll Tryz.prog os laidL) #[insZ, .int .i64 0, .agg #[.int .i64 0, .int .i64 0, .string ⟨#[]⟩, .slice none 0 0]] 8 (World.laidAll_os _ _ _)
   (laid_shaped os _) kq kq kq (laid_met os _)) ?_
 intro W base args ds gs before hval0 hW hL hsh
 have hval : ∀ (j : Nat) t v, Tryz.f6.params[j]? = some t → args[j]? = some v → Value.okWide Tryz.prog W .any base t v := hval0
 have hW' := hW
 obtain ⟨p, q, hA0, hV, rfl, _, _⟩ := hW
 have hA : DataW.TrodAll enc Tryz.prog W 0 (fun _ => true) true Tryz.f6.params.toList args.toList ds p := hA0
 have hpar : Tryz.f6.params = #[30, 3, 49] := kq
 rw [hpar] at hA hval
 obtain ⟨v0, v1, v2, d0, d1, d2, p0, p1, p2, rfl, rfl, rfl, h0, h1, h2⟩ := trodAll_three hA
 obtain ⟨rfl, rfl⟩ := trodVars_none hV
 obtain ⟨x, A, rfl, hf, _, hy, hls⟩ := open_in (hval 0 30 v0 rfl rfl) h0
 obtain ⟨n, rfl, _, _, _⟩ := open_int Tryz.underlying3 (hval 1 3 v1 rfl rfl) h1
 obtain ⟨rl, X, pr, rg, rfl, hX, _, _, hrl⟩ := open_mod (hval 2 49 v2 rfl rfl) h2
 have hP : PersOk (glbP :: rowP (relRow rl X.q X.c) :: lsP x A) W := persOk_of (fun p hp => by
  rcases List.mem_cons.1 hp with rfl | hp
  ·exact ⟨glb_of_laid hL hsh, glbP_stab⟩
  ·rcases List.mem_cons.1 hp with rfl | hp
   ·exact ⟨hrl, rowP_stab _⟩
   ·exact ⟨hls p hp, ls_stab x A p hp⟩)
 refine (CallsK.gives (xBroken x A n rl X pr rg hX hf hy) ⟨rfl, rfl, rfl⟩ (fun _ _ => rfl) (fun _ => 0) W hP).mono fun e W' ⟨he, hc⟩ => ?_
 subst he
 exact ⟨_, rfl, post_true rfl kq (by rw [hpar]; exact fun t ht => of_decide_eq_true (List.all_eq_true.1 (show ([30, 3, 49].all fun u => decide (u < Tryz.prog.types.size)) = true by kernel_rfl) t ht)) hW' rfl hc⟩
theorem broken_card_holds : Rows.CodeBrokenCardSaid := codeBroken_card (codeBroken_holds (fun os started H enc => broken_lifted os started H enc))
end Go.Proofs.YteinbljapojcgaaGreatDoor
end
