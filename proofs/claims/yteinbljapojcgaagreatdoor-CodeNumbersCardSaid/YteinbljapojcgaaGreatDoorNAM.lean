/- A symbolic run of the program that Lean checks, and what the functions of the program come to by it: part 13 of 13. -/
import Derived.Test.YteinbljapojcgaaGreatDoorRows
import Derived.Test.YteinbljapojcgaaGreatDoorTie
import Derived.Test.YteinbljapojcgaaGreatDoorCards
import Derived.JoinedOf
import Derived.KernelRfl
import Derived.SevenTiedAt
import Derived.ChangeMaps5
import Derived.ProofKit
import Derived.OpenShut
import Derived.Stop.Joined
import Derived.Test.YteinbljapojcgaaGreatDoorNAL
set_option linter.unusedVariables false
section
namespace Go.Proofs
open Go Go.SX
set_option maxRecDepth 10000
def snT : List (Int × List UInt8) := [(0, [0]), (-1, [1]), (1, [2]), (63, [126]), (64, [128, 1]), (-64, [127]), (-65, [129, 1])]
def snL : Nat → List (Int × List UInt8) → List MapEntry
 | _, [] => []
 | i, p :: l => { key := .int .i64 p.1, val := .string ⟨p.2.toArray⟩, born := i } :: snL (i + 1) l
def snEs : Array MapEntry := (snL 0 snT).toArray
theorem snL_mem : ∀ {l : List (Int × List UInt8)} {i : Nat} {e : MapEntry}, e ∈ snL i l → ∃ p ∈ l, e.key = .int .i64 p.1 ∧ e.val = .string ⟨p.2.toArray⟩ ∧ e.born < i + l.length
 | [], i, e, h => by simp [snL] at h
 | p :: l, i, e, h => by
  simp only [snL, List.mem_cons] at h
  rcases h with rfl | h
  ·exact ⟨p, List.mem_cons_self .., rfl, rfl, by simp⟩
  ·obtain ⟨p', h1, h2, h3, h4⟩ := snL_mem h
   exact ⟨p', List.mem_cons_of_mem _ h1, h2, h3, by simp only [List.length_cons]; omega⟩
theorem snT_num (p : Int × List UInt8) (h : p ∈ snT) : isNum p.1 = true ∧ encN p.1 = p.2 ∧ rnV p.2 0 = .tup [.one (.int .i64 p.1), .one (.int .i64 (p.2.length : Int)), .one (.int .i64 0)] ∧ p.2.length ≤ 1000000000 := by
 unfold snT at h
 simp only [List.mem_cons, List.not_mem_nil, or_false] at h
 rcases h with rfl | rfl | rfl | rfl | rfl | rfl | rfl <;> exact ⟨by decide, by decide, kq, by decide⟩
theorem snN (p : Int × List UInt8) (h : p ∈ snT) : CallsK Tryz.prog 16 [.one (.int .i64 p.1)] noF (fun _ : Unit => True) (fun _ => .tup [.one (.str p.2), .one (.int .i64 0)]) (fun _ => noF) := by
 have h1 := xNumber p.1
 rw [(snT_num p h).1, (snT_num p h).2.1] at h1
 exact h1
theorem snR (p : Int × List UInt8) (h : p ∈ snT) : CallsK Tryz.prog 18 [.one (.str p.2), .one (.int .i64 0)] noF (fun _ : Unit => True) (fun _ => .tup [.one (.int .i64 p.1), .one (.int .i64 (p.2.length : Int)), .one (.int .i64 0)]) (fun _ => noF) := by
 have h1 := xReadNumber p.2 0 (snT_num p h).2.2.2
 rw [(snT_num p h).2.2.1] at h1
 exact h1
def snSt (n0 : Nat) (S : Nat → Prop) (gL it : Nat) (seen : Array Nat) : St :=
 { n := 242, slots := [(39, .v (.one (.val (.pointer (some ⟨it, 0, none⟩)))))], gs := [], heap := [], next := 0,
    rows := [(0, objRow it (.mapIter (some gL) 7 seen 7))], nr := 1, pers := [newP n0 S (objP gL (.map snEs 7)), glbP], wr := true, fx := 0 }
theorem sn_born : ∀ x ∈ snEs.toList, x.born < 7 := fun e he => by
 obtain ⟨p, _, _, _, h⟩ := snL_mem (l := snT) (i := 0) he
 simpa [snT] using h
theorem sn_nodup : (snEs.toList.map (·.born)).Nodup := by
 show [0, 1, 2, 3, 4, 5, 6].Nodup
 decide
noncomputable def aBlank : Con Tryz.prog := Con.auto Tryz.func49 true [] [] kq kq
theorem sx4_l (g : Nat) : (∀ k, (rowP (rowI sx4 (sA4 g))).D k → ∃ q ∈ [blkP g [.int .i64 2] 3], q.D k) ∧ (∀ w, (∀ q ∈ [blkP g [.int .i64 2] 3], q.φ w) → (rowP (rowI sx4 (sA4 g))).φ w) :=
 ⟨fun k hk => ⟨_, List.mem_singleton.2 rfl, by
  obtain ⟨a, h1, h2, _⟩ := hk
  have h1' : (some ⟨g, 0, none⟩ : Option Addr) = some a := h1
  cases h1'
  exact h2.symm⟩, fun w hw => rowP_of_blk (f := intv) (d := 0) (l := [2]) (e := 3) (sz := 1) (fun _ => rfl) (fun x y hy => by rw [List.mem_singleton.1 hy]; trivial) (by decide) w (hw _ (List.mem_singleton.2 rfl))⟩
set_option maxHeartbeats 4000000 in
theorem sane_ : CallsK Tryz.prog 14 [] glbF (fun _ : Unit => True) (fun _ => .v (.one (.sb true))) (fun _ => noF) := by
 refine CallsK.mk true Tryz.func14 kq kq (fun ρ0 w0 => ?_)
 refine V.q ?_
 refine V.mkMap 86 kq (fun _ => kq) (fun gL => ?_)
 refine V.runM [] 0 7 [] (List.replicate 7 (gL, gL)) kq kq trivial (fun p hp => by rw [List.eq_of_mem_replicate hp]) ?_
 refine V.q ?_
 refine V.freezeObj 0 gL (.map snEs 7) kq ?_
 refine V.range 86 3 9 gL snEs 7 kq kq (fun ρ a w hS => hS.objN (n0 := w0.heap.size) (S := touch ρ0 glbF) 0 kq) (fun _ => kq) (fun it => ?_)
 refine V.q ?_
 refine V.iter ?_
 refine V.loopTo [39] [] [1] [true, true] (fun seen : Array Nat => (leftOf snEs seen).size) (snSt w0.heap.size (touch ρ0 glbF) gL it) (fun _ => True) #[] kq trivial (fun seen _ ih => ?_)
 refine V.q ?_
 refine V.next it 0 gL 7 7 7 seen snEs kq kq (fun ρ a w hS => hS.objN (n0 := w0.heap.size) (S := touch ρ0 glbF) 0 kq) sn_born (Nat.le_refl _) kq (fun e he => kq) (fun hsz => ?_) (fun e he => ?_)
 ·refine V.runT [⟨aBlank, []⟩] [] kq kq trivial ?_
  refine V.soft 5 ?_
  refine V.soft 3 ?_
  refine V.absB 4 ⟨[.int .i64 2], 3, true⟩ kq kq (fun _ => kq) (fun g => ?_)
  refine V.persNew [] [] (rowP (rowF zeroI IA0)) kq kq (fun k hk => absurd hk ((row_none (R := rowF zeroI IA0) rfl rfl rfl).1 k)) (fun w _ => (row_none (R := rowF zeroI IA0) rfl rfl rfl).2 w) (rowP_stab _) ?_
  refine V.persNew [] [] (rowP (rowI zeroI IA0)) kq kq (fun k hk => absurd hk ((row_none (R := rowI zeroI IA0) rfl rfl rfl).1 k)) (fun w _ => (row_none (R := rowI zeroI IA0) rfl rfl rfl).2 w) (rowP_stab _) ?_
  refine V.persNew [] [] (rowP (rowT zeroI IA0)) kq kq (fun k hk => absurd hk ((row_none (R := rowT zeroI IA0) rfl rfl rfl).1 k)) (fun w _ => (row_none (R := rowT zeroI IA0) rfl rfl rfl).2 w) (rowP_stab _) ?_
  refine V.persNew [(3, true)] [blkP g [.int .i64 2] 3] (rowP (rowI sx4 (sA4 g))) kq kq (sx4_l g).1 (sx4_l g).2 (rowP_stab _) ?_
  refine V.iter ?_
  refine V.q ?_
  refine V.known 103 (decide ((0 : Int) < 4)) true kq (by decide) ?_
  refine V.runT [] [(0 : Int) ≤ 0 ∧ (0 : Int) < 4] kq kq ⟨by decide, by decide⟩ ?_
  refine V.callK [(6, false), (3, true), (2, true), (1, true)] (xEncode sx1 IA0 sx1_okL sx1_fine) kq kq kq (fun _ => kq) (fun qc0 _ => ?_)
  refine V.q ?_
  refine V.freeze 1 (rowL rlv (0, 0) [] qc0.1 qc0.2 62 2 true) kq kq ?_
  refine V.callK [(7, false), (0, true)] (xDecode [] ⟨[3, 8, 2], qc0.1, 0, qc0.2⟩ rfl (by decide) 0 ⟨by show 3 ≤ 1000000000; decide, Nat.zero_le _⟩ kq) kq kq kq (fun _ => kq) (fun yd0 hd0 => ?_)
  obtain ⟨d0, D0⟩ := yd0
  have ed0 : d0 = sx1 := hd0.trans (sx1_dec qc0.1 qc0.2)
  subst ed0
  refine V.q ?_
  refine V.callK [(10, false), (7, true), (6, true), (5, true)] (xText sx1 IA0 sx1_okL 3 kq kq kq sx1_fine) kq kq kq (fun _ => kq) (fun _ _ => ?_)
  refine V.q ?_
  refine V.callK [(10, false)] (xParse [77, 79, 86, 69, 32, 114, 51, 32, 114, 48] [[77, 79, 86, 69], [114, 51], [114, 48]] sx1 kq (by decide) kq (by decide) (pok_of sx1_find sx1_pok) sx1_read) kq kq kq (fun _ => kq) (fun yp0 hp0 => ?_)
  obtain ⟨p0, P0⟩ := yp0
  have ep0 : p0 = sx1 := hp0
  subst ep0
  refine V.persAs [(10, true)] [rowP (rowF sx1 IA0)] (rowP (rowF sx1 IA0)) kq (fun k hk => ⟨_, List.mem_singleton.2 rfl, hk⟩) (fun w hw => hw _ (List.mem_singleton.2 rfl)) (rowP_stab _) ?_
  refine V.persAs [(10, true)] [rowP (rowI sx1 IA0)] (rowP (rowI sx1 IA0)) kq (fun k hk => ⟨_, List.mem_singleton.2 rfl, hk⟩) (fun w hw => hw _ (List.mem_singleton.2 rfl)) (rowP_stab _) ?_
  refine V.persAs [(10, true)] [rowP (rowT sx1 IA0)] (rowP (rowT sx1 IA0)) kq (fun k hk => ⟨_, List.mem_singleton.2 rfl, hk⟩) (fun w hw => hw _ (List.mem_singleton.2 rfl)) (rowP_stab _) ?_
  refine V.persAs [(6, true)] [rowP (rowF sx1 D0)] (rowP (rowF sx1 D0)) kq (fun k hk => ⟨_, List.mem_singleton.2 rfl, hk⟩) (fun w hw => hw _ (List.mem_singleton.2 rfl)) (rowP_stab _) ?_
  refine V.persAs [(8, true)] [rowP (rowI sx1 D0)] (rowP (rowI sx1 D0)) kq (fun k hk => ⟨_, List.mem_singleton.2 rfl, hk⟩) (fun w hw => hw _ (List.mem_singleton.2 rfl)) (rowP_stab _) ?_
  refine V.persAs [(10, true)] [rowP (rowT sx1 D0)] (rowP (rowT sx1 D0)) kq (fun k hk => ⟨_, List.mem_singleton.2 rfl, hk⟩) (fun w hw => hw _ (List.mem_singleton.2 rfl)) (rowP_stab _) ?_
  refine V.persAs [(6, true)] [rowP (rowF sx1 P0)] (rowP (rowF sx1 P0)) kq (fun k hk => ⟨_, List.mem_singleton.2 rfl, hk⟩) (fun w hw => hw _ (List.mem_singleton.2 rfl)) (rowP_stab _) ?_
  refine V.persAs [(8, true)] [rowP (rowI sx1 P0)] (rowP (rowI sx1 P0)) kq (fun k hk => ⟨_, List.mem_singleton.2 rfl, hk⟩) (fun w hw => hw _ (List.mem_singleton.2 rfl)) (rowP_stab _) ?_
  refine V.persAs [(10, true)] [rowP (rowT sx1 P0)] (rowP (rowT sx1 P0)) kq (fun k hk => ⟨_, List.mem_singleton.2 rfl, hk⟩) (fun w hw => hw _ (List.mem_singleton.2 rfl)) (rowP_stab _) ?_
  refine V.runT [⟨sSame2 sx1 IA0 P0 D0 sx1_okL, [17, 18, 19, 20, 21, 22, 14, 15, 16]⟩] [((false = false) → (([.agg (inV sx1 D0), .agg (inV sx1 IA0)] : List CV) = [.agg (inV sx1 D0), .agg (inV sx1 IA0)] ∨ ([.agg (inV sx1 D0), .agg (inV sx1 IA0)] : List CV) = [.agg (inV sx1 P0), .agg (inV sx1 IA0)])), ((false = false) → (([.agg (inV sx1 P0), .agg (inV sx1 IA0)] : List CV) = [.agg (inV sx1 D0), .agg (inV sx1 IA0)] ∨ ([.agg (inV sx1 P0), .agg (inV sx1 IA0)] : List CV) = [.agg (inV sx1 P0), .agg (inV sx1 IA0)]))] kq kq ⟨fun _ => .inl rfl, fun _ => .inr rfl⟩ ?_
  refine V.known 176 false false kq rfl ?_
  refine V.q ?_
  refine V.iter ?_
  refine V.ungrd ?_
  refine V.q ?_
  refine V.known 103 (decide ((1 : Int) < 4)) true kq (by decide) ?_
  refine V.runT [] [(0 : Int) ≤ 1 ∧ (1 : Int) < 4] kq kq ⟨by decide, by decide⟩ ?_
  refine V.callK [(22, false), (19, true), (18, true), (17, true)] (xEncode sx2 IA0 sx2_okL sx2_fine) kq kq kq (fun _ => kq) (fun qc1 _ => ?_)
  refine V.q ?_
  refine V.freeze 2 (rowL rlv (0, 0) [] qc1.1 qc1.2 62 2 true) kq kq ?_
  refine V.callK [(23, false), (0, true)] (xDecode [] ⟨[14, 0, 0, 1, 2], qc1.1, 0, qc1.2⟩ rfl (by decide) 0 ⟨by show 5 ≤ 1000000000; decide, Nat.zero_le _⟩ kq) kq kq kq (fun _ => kq) (fun yd1 hd1 => ?_)
  obtain ⟨d1, D1⟩ := yd1
  have ed1 : d1 = sx2 := hd1.trans (sx2_dec qc1.1 qc1.2)
  subst ed1
  refine V.q ?_
  refine V.callK [(26, false), (23, true), (22, true), (21, true)] (xText sx2 IA0 sx2_okL 14 kq kq kq sx2_fine) kq kq kq (fun _ => kq) (fun _ _ => ?_)
  refine V.q ?_
  refine V.callK [(26, false)] (xParse [74, 85, 77, 80, 32, 64, 50, 53, 56] [[74, 85, 77, 80], [64, 50, 53, 56]] sx2 kq (by decide) kq (by decide) (pok_of sx2_find sx2_pok) sx2_read) kq kq kq (fun _ => kq) (fun yp1 hp1 => ?_)
  obtain ⟨p1, P1⟩ := yp1
  have ep1 : p1 = sx2 := hp1
  subst ep1
  refine V.persAs [(26, true)] [rowP (rowF sx2 IA0)] (rowP (rowF sx2 IA0)) kq (fun k hk => ⟨_, List.mem_singleton.2 rfl, hk⟩) (fun w hw => hw _ (List.mem_singleton.2 rfl)) (rowP_stab _) ?_
  refine V.persAs [(26, true)] [rowP (rowI sx2 IA0)] (rowP (rowI sx2 IA0)) kq (fun k hk => ⟨_, List.mem_singleton.2 rfl, hk⟩) (fun w hw => hw _ (List.mem_singleton.2 rfl)) (rowP_stab _) ?_
  refine V.persAs [(26, true)] [rowP (rowT sx2 IA0)] (rowP (rowT sx2 IA0)) kq (fun k hk => ⟨_, List.mem_singleton.2 rfl, hk⟩) (fun w hw => hw _ (List.mem_singleton.2 rfl)) (rowP_stab _) ?_
  refine V.persAs [(6, true)] [rowP (rowF sx2 D1)] (rowP (rowF sx2 D1)) kq (fun k hk => ⟨_, List.mem_singleton.2 rfl, hk⟩) (fun w hw => hw _ (List.mem_singleton.2 rfl)) (rowP_stab _) ?_
  refine V.persAs [(8, true)] [rowP (rowI sx2 D1)] (rowP (rowI sx2 D1)) kq (fun k hk => ⟨_, List.mem_singleton.2 rfl, hk⟩) (fun w hw => hw _ (List.mem_singleton.2 rfl)) (rowP_stab _) ?_
  refine V.persAs [(10, true)] [rowP (rowT sx2 D1)] (rowP (rowT sx2 D1)) kq (fun k hk => ⟨_, List.mem_singleton.2 rfl, hk⟩) (fun w hw => hw _ (List.mem_singleton.2 rfl)) (rowP_stab _) ?_
  refine V.persAs [(6, true)] [rowP (rowF sx2 P1)] (rowP (rowF sx2 P1)) kq (fun k hk => ⟨_, List.mem_singleton.2 rfl, hk⟩) (fun w hw => hw _ (List.mem_singleton.2 rfl)) (rowP_stab _) ?_
  refine V.persAs [(8, true)] [rowP (rowI sx2 P1)] (rowP (rowI sx2 P1)) kq (fun k hk => ⟨_, List.mem_singleton.2 rfl, hk⟩) (fun w hw => hw _ (List.mem_singleton.2 rfl)) (rowP_stab _) ?_
  refine V.persAs [(10, true)] [rowP (rowT sx2 P1)] (rowP (rowT sx2 P1)) kq (fun k hk => ⟨_, List.mem_singleton.2 rfl, hk⟩) (fun w hw => hw _ (List.mem_singleton.2 rfl)) (rowP_stab _) ?_
  refine V.runT [⟨sSame2 sx2 IA0 P1 D1 sx2_okL, [33, 34, 35, 36, 37, 38, 30, 31, 32]⟩] [((false = false) → (([.agg (inV sx2 D1), .agg (inV sx2 IA0)] : List CV) = [.agg (inV sx2 D1), .agg (inV sx2 IA0)] ∨ ([.agg (inV sx2 D1), .agg (inV sx2 IA0)] : List CV) = [.agg (inV sx2 P1), .agg (inV sx2 IA0)])), ((false = false) → (([.agg (inV sx2 P1), .agg (inV sx2 IA0)] : List CV) = [.agg (inV sx2 D1), .agg (inV sx2 IA0)] ∨ ([.agg (inV sx2 P1), .agg (inV sx2 IA0)] : List CV) = [.agg (inV sx2 P1), .agg (inV sx2 IA0)]))] kq kq ⟨fun _ => .inl rfl, fun _ => .inr rfl⟩ ?_
  refine V.known 176 false false kq rfl ?_
  refine V.q ?_
  refine V.iter ?_
  refine V.ungrd ?_
  refine V.q ?_
  refine V.known 103 (decide ((2 : Int) < 4)) true kq (by decide) ?_
  refine V.runT [] [(0 : Int) ≤ 2 ∧ (2 : Int) < 4] kq kq ⟨by decide, by decide⟩ ?_
  refine V.callK [(38, false), (35, true), (34, true), (33, true)] (xEncode sx3 IA0 sx3_okL sx3_fine) kq kq kq (fun _ => kq) (fun qc2 _ => ?_)
  refine V.q ?_
  refine V.freeze 3 (rowL rlv (0, 0) [] qc2.1 qc2.2 62 2 true) kq kq ?_
  refine V.callK [(39, false), (0, true)] (xDecode [] ⟨[8, 2, 4, 4, 30, 0, 0, 0], qc2.1, 0, qc2.2⟩ rfl (by decide) 0 ⟨by show 8 ≤ 1000000000; decide, Nat.zero_le _⟩ kq) kq kq kq (fun _ => kq) (fun yd2 hd2 => ?_)
  obtain ⟨d2, D2⟩ := yd2
  have ed2 : d2 = sx3 := hd2.trans (sx3_dec qc2.1 qc2.2)
  subst ed2
  refine V.q ?_
  refine V.callK [(42, false), (39, true), (38, true), (37, true)] (xText sx3 IA0 sx3_okL 8 kq kq kq sx3_fine) kq kq kq (fun _ => kq) (fun _ _ => ?_)
  refine V.q ?_
  refine V.callK [(42, false)] (xParse [76, 79, 65, 68, 32, 114, 48, 32, 114, 49, 32, 50, 44, 49, 53, 44, 48, 44, 48, 44, 61] [[76, 79, 65, 68], [114, 48], [114, 49], [50, 44, 49, 53, 44, 48, 44, 48, 44, 61]] sx3 kq (by decide) kq (by decide) (pok_of sx3_find sx3_pok) sx3_read) kq kq kq (fun _ => kq) (fun yp2 hp2 => ?_)
  obtain ⟨p2, P2⟩ := yp2
  have ep2 : p2 = sx3 := hp2
  subst ep2
  refine V.persAs [(42, true)] [rowP (rowF sx3 IA0)] (rowP (rowF sx3 IA0)) kq (fun k hk => ⟨_, List.mem_singleton.2 rfl, hk⟩) (fun w hw => hw _ (List.mem_singleton.2 rfl)) (rowP_stab _) ?_
  refine V.persAs [(42, true)] [rowP (rowI sx3 IA0)] (rowP (rowI sx3 IA0)) kq (fun k hk => ⟨_, List.mem_singleton.2 rfl, hk⟩) (fun w hw => hw _ (List.mem_singleton.2 rfl)) (rowP_stab _) ?_
  refine V.persAs [(42, true)] [rowP (rowT sx3 IA0)] (rowP (rowT sx3 IA0)) kq (fun k hk => ⟨_, List.mem_singleton.2 rfl, hk⟩) (fun w hw => hw _ (List.mem_singleton.2 rfl)) (rowP_stab _) ?_
  refine V.persAs [(6, true)] [rowP (rowF sx3 D2)] (rowP (rowF sx3 D2)) kq (fun k hk => ⟨_, List.mem_singleton.2 rfl, hk⟩) (fun w hw => hw _ (List.mem_singleton.2 rfl)) (rowP_stab _) ?_
  refine V.persAs [(8, true)] [rowP (rowI sx3 D2)] (rowP (rowI sx3 D2)) kq (fun k hk => ⟨_, List.mem_singleton.2 rfl, hk⟩) (fun w hw => hw _ (List.mem_singleton.2 rfl)) (rowP_stab _) ?_
  refine V.persAs [(10, true)] [rowP (rowT sx3 D2)] (rowP (rowT sx3 D2)) kq (fun k hk => ⟨_, List.mem_singleton.2 rfl, hk⟩) (fun w hw => hw _ (List.mem_singleton.2 rfl)) (rowP_stab _) ?_
  refine V.persAs [(6, true)] [rowP (rowF sx3 P2)] (rowP (rowF sx3 P2)) kq (fun k hk => ⟨_, List.mem_singleton.2 rfl, hk⟩) (fun w hw => hw _ (List.mem_singleton.2 rfl)) (rowP_stab _) ?_
  refine V.persAs [(8, true)] [rowP (rowI sx3 P2)] (rowP (rowI sx3 P2)) kq (fun k hk => ⟨_, List.mem_singleton.2 rfl, hk⟩) (fun w hw => hw _ (List.mem_singleton.2 rfl)) (rowP_stab _) ?_
  refine V.persAs [(10, true)] [rowP (rowT sx3 P2)] (rowP (rowT sx3 P2)) kq (fun k hk => ⟨_, List.mem_singleton.2 rfl, hk⟩) (fun w hw => hw _ (List.mem_singleton.2 rfl)) (rowP_stab _) ?_
  refine V.runT [⟨sSame2 sx3 IA0 P2 D2 sx3_okL, [49, 50, 51, 52, 53, 54, 46, 47, 48]⟩] [((false = false) → (([.agg (inV sx3 D2), .agg (inV sx3 IA0)] : List CV) = [.agg (inV sx3 D2), .agg (inV sx3 IA0)] ∨ ([.agg (inV sx3 D2), .agg (inV sx3 IA0)] : List CV) = [.agg (inV sx3 P2), .agg (inV sx3 IA0)])), ((false = false) → (([.agg (inV sx3 P2), .agg (inV sx3 IA0)] : List CV) = [.agg (inV sx3 D2), .agg (inV sx3 IA0)] ∨ ([.agg (inV sx3 P2), .agg (inV sx3 IA0)] : List CV) = [.agg (inV sx3 P2), .agg (inV sx3 IA0)]))] kq kq ⟨fun _ => .inl rfl, fun _ => .inr rfl⟩ ?_
  refine V.known 176 false false kq rfl ?_
  refine V.q ?_
  refine V.iter ?_
  refine V.ungrd ?_
  refine V.q ?_
  refine V.known 103 (decide ((3 : Int) < 4)) true kq (by decide) ?_
  refine V.runT [] [(0 : Int) ≤ 3 ∧ (3 : Int) < 4] kq kq ⟨by decide, by decide⟩ ?_
  refine V.callK [(54, false), (51, true), (48, true), (49, true)] (xEncode sx4 (sA4 g) sx4_okL sx4_fine) kq kq kq (fun _ => kq) (fun qc3 _ => ?_)
  refine V.q ?_
  refine V.freeze 4 (rowL rlv (0, 0) [(2, 5)] qc3.1 qc3.2 62 2 true) kq kq ?_
  refine V.callK [(55, false), (0, true)] (xDecode [(2, 5)] ⟨[17, 0, 0, 0, 0, 0, 2, 6], qc3.1, 1, qc3.2⟩ rfl (by decide) 0 ⟨by show 8 ≤ 1000000000; decide, Nat.zero_le _⟩ kq) kq kq kq (fun _ => kq) (fun yd3 hd3 => ?_)
  obtain ⟨d3, D3⟩ := yd3
  have ed3 : d3 = sx4 := hd3.trans (sx4_dec qc3.1 qc3.2)
  subst ed3
  refine V.q ?_
  refine V.callK [(58, false), (55, true), (52, true), (53, true)] (xText sx4 (sA4 g) sx4_okL 17 kq kq kq sx4_fine) kq kq kq (fun _ => kq) (fun _ _ => ?_)
  refine V.q ?_
  refine V.callK [(58, false)] (xParse [67, 65, 76, 76, 32, 45, 32, 33, 53, 32, 91, 114, 50, 93] [[67, 65, 76, 76], [45], [33, 53], [91, 114, 50, 93]] sx4 kq (by decide) kq (by decide) (pok_of sx4_find sx4_pok) sx4_read) kq kq kq (fun _ => kq) (fun yp3 hp3 => ?_)
  obtain ⟨p3, P3⟩ := yp3
  have ep3 : p3 = sx4 := hp3
  subst ep3
  refine V.persAs [(58, true)] [rowP (rowF sx4 (sA4 g))] (rowP (rowF sx4 (sA4 g))) kq (fun k hk => ⟨_, List.mem_singleton.2 rfl, hk⟩) (fun w hw => hw _ (List.mem_singleton.2 rfl)) (rowP_stab _) ?_
  refine V.persAs [(56, true)] [rowP (rowI sx4 (sA4 g))] (rowP (rowI sx4 (sA4 g))) kq (fun k hk => ⟨_, List.mem_singleton.2 rfl, hk⟩) (fun w hw => hw _ (List.mem_singleton.2 rfl)) (rowP_stab _) ?_
  refine V.persAs [(58, true)] [rowP (rowT sx4 (sA4 g))] (rowP (rowT sx4 (sA4 g))) kq (fun k hk => ⟨_, List.mem_singleton.2 rfl, hk⟩) (fun w hw => hw _ (List.mem_singleton.2 rfl)) (rowP_stab _) ?_
  refine V.persAs [(6, true)] [rowP (rowF sx4 D3)] (rowP (rowF sx4 D3)) kq (fun k hk => ⟨_, List.mem_singleton.2 rfl, hk⟩) (fun w hw => hw _ (List.mem_singleton.2 rfl)) (rowP_stab _) ?_
  refine V.persAs [(8, true)] [rowP (rowI sx4 D3)] (rowP (rowI sx4 D3)) kq (fun k hk => ⟨_, List.mem_singleton.2 rfl, hk⟩) (fun w hw => hw _ (List.mem_singleton.2 rfl)) (rowP_stab _) ?_
  refine V.persAs [(10, true)] [rowP (rowT sx4 D3)] (rowP (rowT sx4 D3)) kq (fun k hk => ⟨_, List.mem_singleton.2 rfl, hk⟩) (fun w hw => hw _ (List.mem_singleton.2 rfl)) (rowP_stab _) ?_
  refine V.persAs [(6, true)] [rowP (rowF sx4 P3)] (rowP (rowF sx4 P3)) kq (fun k hk => ⟨_, List.mem_singleton.2 rfl, hk⟩) (fun w hw => hw _ (List.mem_singleton.2 rfl)) (rowP_stab _) ?_
  refine V.persAs [(8, true)] [rowP (rowI sx4 P3)] (rowP (rowI sx4 P3)) kq (fun k hk => ⟨_, List.mem_singleton.2 rfl, hk⟩) (fun w hw => hw _ (List.mem_singleton.2 rfl)) (rowP_stab _) ?_
  refine V.persAs [(10, true)] [rowP (rowT sx4 P3)] (rowP (rowT sx4 P3)) kq (fun k hk => ⟨_, List.mem_singleton.2 rfl, hk⟩) (fun w hw => hw _ (List.mem_singleton.2 rfl)) (rowP_stab _) ?_
  refine V.runT [⟨sSame2 sx4 (sA4 g) P3 D3 sx4_okL, [65, 66, 67, 68, 69, 70, 62, 63, 64]⟩] [((false = false) → (([.agg (inV sx4 D3), .agg (inV sx4 (sA4 g))] : List CV) = [.agg (inV sx4 D3), .agg (inV sx4 (sA4 g))] ∨ ([.agg (inV sx4 D3), .agg (inV sx4 (sA4 g))] : List CV) = [.agg (inV sx4 P3), .agg (inV sx4 (sA4 g))])), ((false = false) → (([.agg (inV sx4 P3), .agg (inV sx4 (sA4 g))] : List CV) = [.agg (inV sx4 D3), .agg (inV sx4 (sA4 g))] ∨ ([.agg (inV sx4 P3), .agg (inV sx4 (sA4 g))] : List CV) = [.agg (inV sx4 P3), .agg (inV sx4 (sA4 g))]))] kq kq ⟨fun _ => .inl rfl, fun _ => .inr rfl⟩ ?_
  refine V.known 176 false false kq rfl ?_
  refine V.q ?_
  refine V.iter ?_
  exact V.backK [11, 101, 102] [false, false, false, false, false, false, false, false, false, false, false, false, false, false, false, false, false, false, false, false, false, false, false, false, false, false, false, false, false, false, false, false, false, false, false, false, false, false, false, false, false, false, false, false, false, false, false, false, false, false, false, false, false, false, false, false, false, false, false, false, false, false, false, false, true, true, true, true, false, false, true] (sane_rest ρ0 w0 g) kq kq
 ·have hin := left_in' he
  have hlt := leftOf_push_lt he
  obtain ⟨p, hp, hkey, hval, hb⟩ := snL_mem hin
  obtain ⟨ek, ev, eb⟩ := e
  simp only at hkey hval hlt
  subst hkey hval
  refine V.q ?_
  refine V.entry it 0 gL 7 7 seen snEs _ kq kq (fun ρ a w hS => hS.objN (n0 := w0.heap.size) (S := touch ρ0 glbF) 0 kq) hin sn_nodup kq ?_
  refine V.q ?_
  refine V.slotAs 1 (.one (.val (.int .i64 p.1))) (.one (.int .i64 p.1)) kq kq (fun _ => rfl) ?_
  refine V.slotAs 46 (.one (.val (.int .i64 p.1))) (.one (.int .i64 p.1)) kq kq (fun _ => rfl) ?_
  refine V.slotAs 2 (.one (.val (.string ⟨p.2.toArray⟩))) (.one (.str p.2)) kq kq (fun _ => rfl) ?_
  refine V.q ?_
  refine V.callK [] (snN p hp) kq kq kq (fun _ => kq) (fun _ _ => ?_)
  refine V.q ?_
  refine V.callK [] (snR p hp) kq kq kq (fun _ => kq) (fun _ _ => ?_)
  refine V.q ?_
  refine V.known 77 (((((0 : Int) != 0 || !p.2 == p.2) || (0 : Int) != 0) || p.1 != p.1) || (p.2.length : Int) != (p.2.length : Int)) false kq (by simp) ?_
  refine V.q ?_
  refine V.iter ?_
  exact V.back [39] [] [0] [true, true] (ih (seen.push eb) trivial hlt) kq kq
noncomputable def sCheck (x : In) (A : IA) (hx : x.okL) : Con Tryz.prog := Con.inst 20 (glbP :: lsP x A) [.agg (inV x A)] (.v (.one (.int .i64 (bif cFine x then 0 else 170)))) (CallsK.gives (xCheck x A hx) ⟨rfl, rfl, rfl⟩ (fun _ _ => rfl))
noncomputable def sCheckR (x : In) (A : IA) (hx : x.okL) : Con Tryz.prog := Con.inst 21 (lsP x A) [.agg (inV x A)] (.v (.one (.int .i64 (bif cFine x then 0 else 170)))) (CallsK.gives (xCheckR x A hx) ⟨rfl, rfl, rfl⟩ (fun _ _ => rfl))
noncomputable def TN (x : In) (A : IA) (hx : x.okL) : List (Ent Tryz.prog) := [⟨sCheck x A hx, [3, 2, 1, 0]⟩, ⟨sCheckR x A hx, [2, 1, 0]⟩]
def nuE (n : Int) (b : List UInt8) (at_ : Int) : Bool := ((((bif isNum n then encN n else []) == (bif isNum n then encN n else [])) && ((bif isNum n then (0 : Int) else 1) == (bif isNum n then (0 : Int) else 1)) &&
 ((bif rnB b at_ || (rnR b at_).2.bad then (0 : Int) else (rnR b at_).1) == (bif rnB b at_ || (rnR b at_).2.bad then (0 : Int) else (rnR b at_).1))) &&
 ((bif rnB b at_ || (rnR b at_).2.bad then (0 : Int) else ((rnR b at_).2.at_ : Int)) == (bif rnB b at_ || (rnR b at_).2.bad then (0 : Int) else ((rnR b at_).2.at_ : Int)))) &&
 ((bif rnB b at_ then (1 : Int) else bif (rnR b at_).2.bad then 220 else 0) == (bif rnB b at_ then (1 : Int) else bif (rnR b at_).2.bad then 220 else 0))
theorem nuE_true (n : Int) (b : List UInt8) (at_ : Int) : nuE n b at_ = true := by
 unfold nuE
 simp only [beq_self_eq_true, Bool.and_true]
set_option maxHeartbeats 1000000 in
theorem xNumbers (n : Int) (b : List UInt8) (at_ : Int) (x : In) (A : IA) (hf : x.f.length ≤ maxLen) (hy : x.y.length ≤ maxLen) :
  CallsK Tryz.prog 3 [.one (.int .i64 n), .one (.str b), .one (.int .i64 at_), .agg (inV x A)] (stP (glbP :: lsP x A)) (fun _ : Unit => True) (fun _ => .v (.one (.sb true))) (fun _ => noF) := by
 refine CallsK.mk true Tryz.func3 kq kq (fun ρ w => ?_)
 refine V.q ?_
 refine V.callK [(0, false)] sane_ kq kq kq (fun _ => kq) (fun _ _ => ?_)
 refine V.q ?_
 refine V.known 20 (!true) false kq rfl ?_
 refine V.q ?_
 by_cases hb : b.length ≤ 20000
 case neg =>
  refine V.known 24 (decide ((b.length : Int) > 20000)) true kq (decide_eq_true (by omega)) ?_
  refine V.q ?_
  refine V.slotAs 8 (.one (.bool true)) (.one (.sb true)) kq kq (fun _ => rfl) ?_
  exact V.z
 case pos =>
  refine V.known 24 (decide ((b.length : Int) > 20000)) false kq (decide_eq_false (by omega)) ?_
  refine V.q ?_
  refine V.callK [(1, false), (2, false), (3, false)] (cSlim x A hf hy) kq kq kq (fun _ => kq) (fun sl hsl => ?_)
  refine V.q ?_
  refine V.branch 29 (!sl) kq (fun hh => ?_) (fun hh => ?_)
  ·refine V.q ?_
   refine V.slotAs 8 (.one (.bool true)) (.one (.sb true)) kq kq (fun _ => rfl) ?_
   exact V.z
  have hx : x.okL := hsl (by simpa using hh)
  refine V.q ?_
  refine V.callK [] (xNumber n) kq kq kq (fun _ => kq) (fun _ _ => ?_)
  refine V.q ?_
  refine V.callK [] (xNumberR n) kq kq kq (fun _ => kq) (fun _ _ => ?_)
  refine V.q ?_
  refine V.callK [] (xReadNumber b at_ (by omega)) kq kq kq (fun _ => kq) (fun _ _ => ?_)
  refine V.q ?_
  refine V.callK [] (xReadNumberR b at_ (by omega) (rnV b at_) (rnF_eq b at_).symm) kq kq kq (fun _ => kq) (fun _ _ => ?_)
  refine V.runT (TN x A hx) [nuE n b at_ = true → ([.agg (inV x A)] : List CV) = [.agg (inV x A)], nuE n b at_ = true → ([.agg (inV x A)] : List CV) = [.agg (inV x A)]] kq kq ⟨fun _ => rfl, fun _ => rfl⟩ ?_
  refine V.slotAs 8 (.one (.sb (nuE n b at_ && ((bif cFine x then (0 : Int) else 170) == (bif cFine x then (0 : Int) else 170))))) (.one (.sb true)) kq kq (fun _ => by rw [nuE_true, beq_self_eq_true]; rfl) ?_
  exact V.z
end Go.Proofs
end
section
namespace Go.Proofs.YteinbljapojcgaaGreatDoor
open Go
set_option maxRecDepth 100000
theorem kn0 : (Rows.codeNumbersRow.wf (OpenSpec.ofChange Rows.codeNumbersSpec)) = true := kq
theorem kn1 : (laidOutB Tryz.prog) = true := kq
theorem kn2 : (mapsRowed Tryz.prog) = true := kq
theorem kn3 : (Tryz.f3.params.all (Tryz.prog.readableRec ·)) = true := kq
theorem kn4 : (namedTie Tryz.prog Rows.codeNumbersRow.named Rows.codeNumbersSpec.vars) = true := kq
theorem kn5 : ((Rows.codeNumbersRow.stops == [])) = true := kq
theorem kn6 : ((Tryz.prog.stops == [])) = true := kq
theorem kn7 : ((Rows.codeNumbersRow.knobs == [])) = true := kq
theorem kn8 : ((Tryz.prog.stopKnobs == [])) = true := kq
theorem kn9 : ((Rows.codeNumbersRow.inPlace == Tryz.prog.inPlace 3)) = true := kq
theorem kn10 : ((Rows.codeNumbersRow.unfollowed == Tryz.prog.unfollowed 3)) = true := kq
theorem kn11 : ((Rows.codeNumbersRow.recurses == Tryz.prog.recurses 3)) = true := kq
theorem kn12 : ((Rows.codeNumbersRow.named == Tryz.prog.varsNamed 3)) = true := kq
theorem kn13 : ((Rows.codeNumbersRow.maps == (Tryz.f3.params.toList ++ Rows.codeNumbersSpec.plain.varTypes Tryz.prog).any (Tryz.prog.mapsRec ·))) = true := kq
theorem kn14 : ((Rows.codeNumbersRow.ifaces == (Tryz.f3.params.toList ++ Rows.codeNumbersSpec.plain.varTypes Tryz.prog).any (Tryz.prog.ifacesRec ·))) = true := kq
theorem kn15 : ((Rows.codeNumbersRow.mapsOut == Tryz.prog.mapsAmong Tryz.f3.resultTypes.toList)) = true := kq
theorem kn16 : ((Rows.codeNumbersRow.loops == (Tryz.f3.params.toList ++ Rows.codeNumbersSpec.plain.varTypes Tryz.prog).any (Tryz.prog.loopsFrom ·))) = true := kq
theorem kn17 : ((Rows.codeNumbersRow.wideKeys == (Tryz.f3.params.toList ++ Rows.codeNumbersSpec.plain.varTypes Tryz.prog ++ Tryz.f3.resultTypes.toList).any (Tryz.prog.wideKeysFrom ·))) = true := kq
theorem kn18 : (Rows.codeNumbersSpec.vars.all (Tryz.prog.varReadable ·)) = true := kq
theorem kn19 : (Tryz.f3.resultTypes.all (fun t => Tryz.prog.readableRec t && decide (t < Tryz.prog.types.size))) = true := kq
theorem kn20 : ((Rows.codeNumbersRow.ifacesOut == Tryz.f3.resultTypes.toList.any (Tryz.prog.ifacesRec ·))) = true := kq
theorem kn21 : ((Rows.codeNumbersRow.loopsOut == Tryz.f3.resultTypes.toList.any (Tryz.prog.loopsFrom ·))) = true := kq
theorem kn22 : ((Rows.codeNumbersRow.plainKeys == Tryz.prog.plainKeys)) = true := kq
theorem kn23 : (Rows.codeNumbersRow.shortTexts.isNone) = true := kq
theorem kn24 : (Tryz.prog.stopsHeard) = true := kq
theorem kn25 : (Tryz.prog.mayEnter) = true := kq
theorem kn26 : ((Rows.codeNumbersRow.lifted == Tryz.prog.liftsFinal)) = true := kq
theorem kn27 : ((Tryz.prog.make == some Rows.codeNumbersRow.make)) = true := kq
theorem kn28 : ((Rows.codeNumbersRow.kinds == (if Rows.codeNumbersRow.domain.isEmpty then [] else Tryz.f3.params.toList.map fun t => match Tryz.prog.underlying t with | some (.int k) => some k | _ => none))) = true := kq
theorem kn29 : ((Rows.codeNumbersRow.pinned == Rows.codeNumbersRow.pinnedBy)) = true := kq
theorem kn30 : ((Rows.codeNumbersRow.veiled == (Tryz.f3.params.toList ++ Rows.codeNumbersSpec.plain.varTypes Tryz.prog ++ Tryz.f3.resultTypes.toList).any (Tryz.prog.veiledRec ·))) = true := kq
theorem kn31 : (Rows.codeNumbersRow.veiledFits Tryz.prog Tryz.f3.params.toList (Tryz.f3.params.toList ++ Rows.codeNumbersSpec.plain.varTypes Tryz.prog ++ Tryz.f3.resultTypes.toList)) = true := kq
theorem kand {a b : Bool} (ha : a = true) (hb : b = true) : (a && b) = true := by rw [ha, hb]; rfl
theorem codeNumbers_joined : joinedFacts Tryz.prog 3 Tryz.f3 Rows.codeNumbersSpec Rows.codeNumbersRow = true := by
 unfold joinedFacts
 exact kand (kand (kand (kand (kand (kand (kand (kand (kand (kand (kand (kand (kand (kand (kand (kand (kand (kand (kand (kand (kand (kand (kand (kand (kand (kand (kand (kand (kand (kand (kand (kn0) kn1) kn2) kn3) kn4) kn5) kn6) kn7) kn8) kn9) kn10) kn11) kn12) kn13) kn14) kn15) kn16) kn17) kn18) kn19) kn20) kn21) kn22) kn23) kn24) kn25) kn26) kn27) kn28) kn29) kn30) kn31
theorem codeNumbers_fn : Tryz.prog.funcNamed "pliant/pliantlaw22.CodeNumbers" = some 3 := kq
theorem codeNumbers_inst : Tryz.f3.isInstance Tryz.prog Rows.codeNumbersRow.origin Rows.codeNumbersRow.targs := of_decide_eq_true kq
theorem codeNumbers_wrap : Tryz.f3.isWrapper Tryz.prog Rows.codeNumbersRow.wrapper Rows.codeNumbersRow.mainSum := by
 unfold Func.isWrapper
 first | (rw [if_pos (by decide +kernel)]; kernel_rfl) | (rw [if_neg (by decide +kernel)]; exact ⟨rfl, rfl⟩)
theorem codeNumbers_looks : true = Tryz.prog.looks [] := kq
theorem codeNumbers_goes : false = Rows.codeNumbersRow.goesBy Tryz.prog := kq
theorem codeNumbers_wft : Rows.codeNumbersRow.wfByText (OpenSpec.ofChange Rows.codeNumbersSpec) = true := kq
theorem codeNumbers_main : Tryz.prog.mainIs = some (true, "8a234a80a232a3bf12a1f1e0dffb9d9eab25744cd05c38bdd5c3d3d044cc81c8".toList) := kq
theorem codeNumbers_stand : ([3, 9, 3, 30].all fun u => !Tryz.prog.wantsStandIn u) = true := kq
theorem codeNumbers_par : Tryz.f3.params = #[3, 9, 3, 30] := kq
end Go.Proofs.YteinbljapojcgaaGreatDoor
end
section
namespace Go.Proofs.YteinbljapojcgaaGreatDoor
open Go
set_option maxRecDepth 100000
theorem codeNumbers_holds (lifted : ∀ os : Os, os.Started → ∀ (H : Type) (enc : TypeId × Value → H), ReturnsInHanded {} Tryz.checked os 3 .any (fun w args => (Rows.codeNumbersSpec.pre enc Tryz.prog Tryz.f3 [] false w args ∧ laidMetH Tryz.prog Rows.codeNumbersRow.laid w) ∧ sizedMet enc Tryz.prog Tryz.f3 (OpenSpec.ofChange Rows.codeNumbersSpec) false w args)
   (Rows.codeNumbersSpec.post enc Tryz.prog Tryz.f3 false true false false)) : Rows.CodeNumbersSaid :=
 OpenClaim.holds_of_wide 3 Tryz.f3 rfl rfl rfl rfl rfl rfl rfl ⟨rfl, rfl, rfl, rfl, rfl⟩ rfl rfl rfl rfl rfl codeNumbers_fn Tryz.func3 codeNumbers_joined codeNumbers_inst codeNumbers_wrap (fun os started H enc _ => lifted os started H enc)
theorem codeNumbers_card (hh : Rows.CodeNumbersSaid) : Rows.CodeNumbersCardSaid :=
 Claim7.holds_tied_plain_at .later [] [.data, .data, .data, .data, .sentinel, .sentinel, .listed, .data, .pinned, .pinned] true (true, "8a234a80a232a3bf12a1f1e0dffb9d9eab25744cd05c38bdd5c3d3d044cc81c8") true hh (fun _ h => by cases h) codeNumbers_wft (fun _ h => by cases h) codeNumbers_row_tie rfl ⟨rfl, rfl⟩ codeNumbers_main rfl
  (fun f fn hf hfn => by
   obtain rfl : f = 3 := Option.some.inj (codeNumbers_fn.symm.trans hf) |>.symm
   obtain rfl : fn = Tryz.f3 := (Option.some.inj (Tryz.func3.symm.trans hfn)).symm
   exact ⟨codeNumbers_looks, fun j t ht => by
    rw [codeNumbers_par] at ht
    have hm : t ∈ [3, 9, 3, 30] := by simpa using Array.mem_of_getElem? ht
    exact (show Tryz.prog.wantsStandIn t = false by simpa using List.all_eq_true.1 codeNumbers_stand t hm)⟩)
  codeNumbers_goes
end Go.Proofs.YteinbljapojcgaaGreatDoor
end
section
namespace Go.Proofs.YteinbljapojcgaaGreatDoor
open Go Go.SX Go.ChangeShapes Go.WideShapes Go.ChangeAt Go.RowKit Go.ChangeMaps
set_option maxRecDepth 100000
theorem ownK : ownKnob Tryz.prog.godebug = none := kq
theorem persOk_of {ps : List Pers} {w : World} (h : ∀ p ∈ ps, LastP p w ∧ Stab p) : PersOk ps w := fun p hp =>
 ⟨(h p hp).1.1, fun w' hk => (h p hp).2 w w' hk (h p hp).1.1, (h p hp).1.2⟩
theorem laid_shaped (os : Os) (args : Array Value) : ((World.laidAll Tryz.prog os laidL).forCall (fun _ _ => 0) ⟨#[], args, []⟩).Shaped Tryz.prog := World.shaped_of_ZipB kq kq
theorem laid_met (os : Os) (args : Array Value) : laidMetH Tryz.prog laidL ((World.laidAll Tryz.prog os laidL).forCall (fun _ _ => 0) ⟨#[], args, []⟩).memory := by
 rw [MakeChecks.laidMetH_plain _ _ _ kq]
 exact laidMet_laidAll _ kq kq
theorem ls_stab (x : In) (A : IA) : ∀ p ∈ lsP x A, Stab p := fun p hp => by
 simp only [lsP, List.mem_cons, List.not_mem_nil, or_false] at hp
 rcases hp with rfl | rfl | rfl <;> exact rowP_stab _
def insZ : Value := .agg #[.int .i64 0, .int .i64 0, .int .i64 0, .int .i64 0, .int .i64 0, .int .i64 0, .int .i64 0, .bool false, .string ⟨#[]⟩, .int .i64 0, .int .i64 0, .int .i64 0, .bool false, .string ⟨#[]⟩, .int .i64 0, .int .i64 0, .int .i64 0, .bool false, .string ⟨#[]⟩,
 .int .i64 0, .int .i64 0, .int .i64 0, .int .i64 0, .string ⟨#[]⟩, .slice none 0 0, .slice none 0 0, .slice none 0 0, .bool false, .bool false]
theorem numbers_lifted (os : Os) (started : os.Started) (H : Type) (enc : TypeId × Value → H) :
  ReturnsInHanded {} Tryz.checked os 3 .any (fun w args => (Rows.codeNumbersSpec.pre enc Tryz.prog Tryz.f3 [] false w args ∧ laidMetH Tryz.prog laidL w) ∧ sizedMet enc Tryz.prog Tryz.f3 (OpenSpec.ofChange Rows.codeNumbersSpec) false w args)
   (Rows.codeNumbersSpec.post enc Tryz.prog Tryz.f3 false true false false) := by
 refine returns_wrap (C := Tryz.checked) (X := fun w _ => laidMetH Tryz.prog laidL w) (fun _ _ _ hh h => h.of_heap hh) ownK started kq Tryz.func3
  (ChangeSpec.witness_shaped (enc := enc) (C := Tryz.checked) (os := os) (X := fun w _ => laidMetH Tryz.prog laidL w) false (World.laidAll Tryz.prog os laidL) #[.int .i64 0, .string ⟨#[]⟩, .int .i64 0, insZ] 8 (World.laidAll_os _ _ _)
   (laid_shaped os _) kq kq kq (laid_met os _)) ?_
 intro W base args ds gs before hval0 hW hL hsh
 have hval : ∀ (j : Nat) t v, Tryz.f3.params[j]? = some t → args[j]? = some v → Value.okWide Tryz.prog W .any base t v := hval0
 have hW' := hW
 obtain ⟨p, q, hA0, hV, rfl, _, _⟩ := hW
 have hA : DataW.TrodAll enc Tryz.prog W 0 (fun _ => true) true Tryz.f3.params.toList args.toList ds p := hA0
 have hpar : Tryz.f3.params = #[3, 9, 3, 30] := kq
 rw [hpar] at hA hval
 obtain ⟨v0, v1, v2, v3, d0, d1, d2, d3, p0, p1, p2, p3, rfl, rfl, rfl, h0, h1, h2, h3⟩ := trodAll_four hA
 obtain ⟨rfl, rfl⟩ := trodVars_none hV
 obtain ⟨n, rfl, _, _, _⟩ := open_int Tryz.underlying3 (hval 0 3 v0 rfl rfl) h0
 obtain ⟨s, rfl, _, _, _⟩ := open_string Tryz.underlying9 (hval 1 9 v1 rfl rfl) h1
 obtain ⟨m, rfl, _, _, _⟩ := open_int Tryz.underlying3 (hval 2 3 v2 rfl rfl) h2
 obtain ⟨x, A, rfl, hf, _, hy, hls⟩ := open_in (hval 3 30 v3 rfl rfl) h3
 have hP : PersOk (glbP :: lsP x A) W := persOk_of (fun p hp => by
  rcases List.mem_cons.1 hp with rfl | hp
  ·exact ⟨glb_of_laid hL hsh, glbP_stab⟩
  ·exact ⟨hls p hp, ls_stab x A p hp⟩)
 refine (CallsK.gives (xNumbers n s.data.toList m x A hf hy) ⟨rfl, rfl, rfl⟩ (fun _ _ => rfl) (fun _ => 0) W hP).mono fun e W' ⟨he, hc⟩ => ?_
 subst he
 exact ⟨_, rfl, post_true rfl kq (by rw [hpar]; exact fun t ht => of_decide_eq_true (List.all_eq_true.1 (show ([3, 9, 3, 30].all fun u => decide (u < Tryz.prog.types.size)) = true by kernel_rfl) t ht)) hW' rfl hc⟩
theorem numbers_card_holds : Rows.CodeNumbersCardSaid := codeNumbers_card (codeNumbers_holds (fun os started H enc => numbers_lifted os started H enc))
end Go.Proofs.YteinbljapojcgaaGreatDoor
end
