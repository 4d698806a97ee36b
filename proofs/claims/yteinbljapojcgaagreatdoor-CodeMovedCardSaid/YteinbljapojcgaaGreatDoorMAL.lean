/- A symbolic run of the program that Lean checks, and what the functions of the program come to by it: part 12 of 12. -/
import Derived.ChangeMaps5
import Derived.ProofKit
import Derived.OpenShut
import Derived.SevenTiedAt
import Derived.Stop.Joined
import Derived.Test.YteinbljapojcgaaGreatDoorMAK
set_option linter.unusedVariables false
section
namespace Go.Proofs.YteinbljapojcgaaGreatDoor
open Go Go.SX Go.ChangeShapes Go.WideShapes Go.ChangeAt Go.RowKit Go.ChangeMaps
set_option maxRecDepth 100000
theorem ownK : ownKnob Tryz.prog.godebug = none := kq
theorem persOk_of {ps : List Pers} {w : World} (h : ∀ p ∈ ps, LastP p w ∧ Stab p) : PersOk ps w := fun p hp =>
 ⟨(h p hp).1.1, fun w' hk => (h p hp).2 w w' hk (h p hp).1.1, (h p hp).1.2⟩
theorem laid_shaped (os : Os) (args : Array Value) : ((World.laidAll Tryz.prog os laidL).forCall (fun _ _ => 0) ⟨#[], args, []⟩).Shaped Tryz.prog := World.shaped_of_ZipB kq kq
theorem laid_met (os : Os) (args : Array Value) : laidMetH Tryz.prog laidL ((World.laidAll Tryz.prog os laidL).forCall (fun _ _ => 0) ⟨#[], args, []⟩).memory := by
 rw [MakeChecks.laidMetH_plain _ _ _ kq]
 exact laidMet_laidAll _ kq kq
theorem ls_stab (x : In) (A : IA) : ∀ p ∈ lsP x A, Stab p := fun p hp => by
 simp only [lsP, List.mem_cons, List.not_mem_nil, or_false] at hp
 rcases hp with rfl | rfl | rfl <;> exact rowP_stab _
def insZ : Value := .agg #[.int .i64 0, .int .i64 0, .int .i64 0, .int .i64 0, .int .i64 0, .int .i64 0, .int .i64 0, .bool false, .string ⟨#[]⟩, .int .i64 0, .int .i64 0, .int .i64 0, .bool false, .string ⟨#[]⟩, .int .i64 0, .int .i64 0, .int .i64 0, .bool false, .string ⟨#[]⟩,
  .int .i64 0, .int .i64 0, .int .i64 0, .int .i64 0, .string ⟨#[]⟩, .slice none 0 0, .slice none 0 0, .slice none 0 0, .bool false, .bool false]
theorem moved_lifted (os : Os) (started : os.Started) (H : Type) (enc : TypeId × Value → H) :
  ReturnsInHanded {} Tryz.checked os 9 .any (fun w args => (Rows.codeMovedSpec.pre enc Tryz.prog Tryz.f9 [] false w args ∧ laidMetH Tryz.prog laidL w) ∧ sizedMet enc Tryz.prog Tryz.f9 (OpenSpec.ofChange Rows.codeMovedSpec) false w args)
   (Rows.codeMovedSpec.post enc Tryz.prog Tryz.f9 false true false false) := by
 refine returns_wrap (C := Tryz.checked) (X := fun w _ => laidMetH Tryz.prog laidL w) (fun _ _ _ hh h => h.of_heap hh) ownK started kq Tryz.func9
  (ChangeSpec.witness_shaped (enc := enc) (C := Tryz.checked) (os := os) (X := fun w _ => laidMetH Tryz.prog laidL w) false (World.laidAll Tryz.prog os laidL) #[insZ, .string ⟨#[]⟩, .string ⟨#[]⟩] 8 (World.laidAll_os _ _ _)
   (laid_shaped os _) kq kq kq (laid_met os _)) ?_
 intro W base args ds gs before hval0 hW hL hsh
 have hval : ∀ (j : Nat) t v, Tryz.f9.params[j]? = some t → args[j]? = some v → Value.okWide Tryz.prog W .any base t v := hval0
 have hW' := hW
 obtain ⟨p, q, hA0, hV, rfl, _, _⟩ := hW
 have hA : DataW.TrodAll enc Tryz.prog W 0 (fun _ => true) true Tryz.f9.params.toList args.toList ds p := hA0
 have hpar : Tryz.f9.params = #[30, 9, 9] := kq
 rw [hpar] at hA hval
 obtain ⟨v0, v1, v2, d0, d1, d2, p0, p1, p2, rfl, rfl, rfl, h0, h1, h2⟩ := trodAll_three hA
 obtain ⟨rfl, rfl⟩ := trodVars_none hV
 obtain ⟨x, A, rfl, hf, _, hy, hls⟩ := open_in (hval 0 30 v0 rfl rfl) h0
 obtain ⟨s, rfl, _, _, _⟩ := open_string Tryz.underlying9 (hval 1 9 v1 rfl rfl) h1
 obtain ⟨t, rfl, _, _, _⟩ := open_string Tryz.underlying9 (hval 2 9 v2 rfl rfl) h2
 have hP : PersOk (glbP :: lsP x A) W := persOk_of (fun p hp => by
  rcases List.mem_cons.1 hp with rfl | hp
  ·exact ⟨glb_of_laid hL hsh, glbP_stab⟩
  ·exact ⟨hls p hp, ls_stab x A p hp⟩)
 refine (CallsK.gives (xMoved x A s.data.toList t.data.toList hf hy) ⟨rfl, rfl, rfl⟩ (fun _ _ => rfl) (fun _ => 0) W hP).mono fun e W' ⟨he, hc⟩ => ?_
 subst he
 exact ⟨_, rfl, post_true rfl kq (by rw [hpar]; exact fun t ht => of_decide_eq_true (List.all_eq_true.1 (show ([30, 9, 9].all fun u => decide (u < Tryz.prog.types.size)) = true by kernel_rfl) t ht)) hW' rfl hc⟩
theorem moved_card_holds : Rows.CodeMovedCardSaid := codeMoved_card (codeMoved_holds (fun os started H enc => moved_lifted os started H enc))
end Go.Proofs.YteinbljapojcgaaGreatDoor
end
