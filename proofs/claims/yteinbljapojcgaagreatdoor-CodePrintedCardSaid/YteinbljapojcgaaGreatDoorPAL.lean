/- A symbolic run of the program that Lean checks, and what the functions of the program come to by it: part 12 of 12. -/
import Derived.Test.YteinbljapojcgaaGreatDoorRows
import Derived.Test.YteinbljapojcgaaGreatDoorTie
import Derived.Test.YteinbljapojcgaaGreatDoorCards
import Derived.JoinedOf
import Derived.KernelRfl
import Derived.SevenTiedAt
import Derived.ChangeMaps5
import Derived.ProofKit
import Derived.OpenShut
import Derived.Stop.Joined
import Derived.Test.YteinbljapojcgaaGreatDoorPAK
set_option linter.unusedVariables false
section
namespace Go.Proofs.YteinbljapojcgaaGreatDoor
open Go
set_option maxRecDepth 100000
theorem kn0:(Rows.codePrintedRow.wf (OpenSpec.ofChange Rows.codePrintedSpec))=true:=kq
theorem kn1:(laidOutB Tryz.prog)=true:=kq
theorem kn2:(mapsRowed Tryz.prog)=true:=kq
theorem kn3:(Tryz.f11.params.all (Tryz.prog.readableRec ·))=true:=kq
theorem kn4:(namedTie Tryz.prog Rows.codePrintedRow.named Rows.codePrintedSpec.vars)=true:=kq
theorem kn5:((Rows.codePrintedRow.stops==[]))=true:=kq
theorem kn6:((Tryz.prog.stops==[]))=true:=kq
theorem kn7:((Rows.codePrintedRow.knobs==[]))=true:=kq
theorem kn8:((Tryz.prog.stopKnobs==[]))=true:=kq
theorem kn9:((Rows.codePrintedRow.inPlace==Tryz.prog.inPlace 11))=true:=kq
theorem kn10:((Rows.codePrintedRow.unfollowed==Tryz.prog.unfollowed 11))=true:=kq
theorem kn11:((Rows.codePrintedRow.recurses==Tryz.prog.recurses 11))=true:=kq
theorem kn12:((Rows.codePrintedRow.named==Tryz.prog.varsNamed 11))=true:=kq
theorem kn13:((Rows.codePrintedRow.maps==(Tryz.f11.params.toList++Rows.codePrintedSpec.plain.varTypes Tryz.prog).any (Tryz.prog.mapsRec ·)))=true:=kq
theorem kn14:((Rows.codePrintedRow.ifaces==(Tryz.f11.params.toList++Rows.codePrintedSpec.plain.varTypes Tryz.prog).any (Tryz.prog.ifacesRec ·)))=true:=kq
theorem kn15:((Rows.codePrintedRow.mapsOut==Tryz.prog.mapsAmong Tryz.f11.resultTypes.toList))=true:=kq
theorem kn16:((Rows.codePrintedRow.loops==(Tryz.f11.params.toList++Rows.codePrintedSpec.plain.varTypes Tryz.prog).any (Tryz.prog.loopsFrom ·)))=true:=kq
theorem kn17:((Rows.codePrintedRow.wideKeys==(Tryz.f11.params.toList++Rows.codePrintedSpec.plain.varTypes Tryz.prog++Tryz.f11.resultTypes.toList).any (Tryz.prog.wideKeysFrom ·)))=true:=kq
theorem kn18:(Rows.codePrintedSpec.vars.all (Tryz.prog.varReadable ·))=true:=kq
theorem kn19:(Tryz.f11.resultTypes.all (fun t=>Tryz.prog.readableRec t&&decide (t<Tryz.prog.types.size)))=true:=kq
theorem kn20:((Rows.codePrintedRow.ifacesOut==Tryz.f11.resultTypes.toList.any (Tryz.prog.ifacesRec ·)))=true:=kq
theorem kn21:((Rows.codePrintedRow.loopsOut==Tryz.f11.resultTypes.toList.any (Tryz.prog.loopsFrom ·)))=true:=kq
theorem kn22:((Rows.codePrintedRow.plainKeys==Tryz.prog.plainKeys))=true:=kq
theorem kn23:(Rows.codePrintedRow.shortTexts.isNone)=true:=kq
theorem kn24:(Tryz.prog.stopsHeard)=true:=kq
theorem kn25:(Tryz.prog.mayEnter)=true:=kq
theorem kn26:((Rows.codePrintedRow.lifted==Tryz.prog.liftsFinal))=true:=kq
theorem kn27:((Tryz.prog.make==some Rows.codePrintedRow.make))=true:=kq
theorem kn28:((Rows.codePrintedRow.kinds==(if Rows.codePrintedRow.domain.isEmpty then [] else Tryz.f11.params.toList.map fun t=>match Tryz.prog.underlying t with | some (.int k)=>some k | _=>none)))=true:=kq
theorem kn29:((Rows.codePrintedRow.pinned==Rows.codePrintedRow.pinnedBy))=true:=kq
theorem kn30:((Rows.codePrintedRow.veiled==(Tryz.f11.params.toList++Rows.codePrintedSpec.plain.varTypes Tryz.prog++Tryz.f11.resultTypes.toList).any (Tryz.prog.veiledRec ·)))=true:=kq
theorem kn31:(Rows.codePrintedRow.veiledFits Tryz.prog Tryz.f11.params.toList (Tryz.f11.params.toList++Rows.codePrintedSpec.plain.varTypes Tryz.prog++Tryz.f11.resultTypes.toList))=true:=kq
theorem kand {a b:Bool} (ha:a=true) (hb:b=true):(a&&b)=true:=by rw [ha,hb]; rfl
theorem codePrinted_joined:joinedFacts Tryz.prog 11 Tryz.f11 Rows.codePrintedSpec Rows.codePrintedRow=true:=by
 unfold joinedFacts;exact kand (kand (kand (kand (kand (kand (kand (kand (kand (kand (kand (kand (kand (kand (kand (kand (kand (kand (kand (kand (kand (kand (kand (kand (kand (kand (kand (kand (kand (kand (kand (kn0) kn1) kn2) kn3) kn4) kn5) kn6) kn7) kn8) kn9) kn10) kn11) kn12) kn13) kn14) kn15) kn16) kn17) kn18) kn19) kn20) kn21) kn22) kn23) kn24) kn25) kn26) kn27) kn28) kn29) kn30) kn31
theorem codePrinted_fn:Tryz.prog.funcNamed "pliant/pliantlaw22.CodePrinted" = some 11:=kq
theorem codePrinted_inst:Tryz.f11.isInstance Tryz.prog Rows.codePrintedRow.origin Rows.codePrintedRow.targs:=of_decide_eq_true kq
theorem codePrinted_wrap:Tryz.f11.isWrapper Tryz.prog Rows.codePrintedRow.wrapper Rows.codePrintedRow.mainSum:=by
 unfold Func.isWrapper
 first | (rw [if_pos (by decide +kernel)]; kernel_rfl) | (rw [if_neg (by decide +kernel)]; exact ⟨rfl,rfl⟩)
theorem codePrinted_looks:true=Tryz.prog.looks []:=kq
theorem codePrinted_goes:false=Rows.codePrintedRow.goesBy Tryz.prog:=kq
theorem codePrinted_wft:Rows.codePrintedRow.wfByText (OpenSpec.ofChange Rows.codePrintedSpec)=true:=kq
theorem codePrinted_main:Tryz.prog.mainIs=some (true,"8a234a80a232a3bf12a1f1e0dffb9d9eab25744cd05c38bdd5c3d3d044cc81c8".toList):=kq
theorem codePrinted_stand:([30,9,49].all fun u=>!Tryz.prog.wantsStandIn u)=true:=kq
theorem codePrinted_par:Tryz.f11.params=#[30,9,49]:=kq
end Go.Proofs.YteinbljapojcgaaGreatDoor
end
section
namespace Go.Proofs.YteinbljapojcgaaGreatDoor
open Go
set_option maxRecDepth 100000
theorem codePrinted_holds (lifted:∀ os:Os,os.Started→∀ (H:Type) (enc:TypeId×Value→H),ReturnsInHanded {} Tryz.checked os 11 .any (fun w args=>(Rows.codePrintedSpec.pre enc Tryz.prog Tryz.f11 [] false w args∧laidMetH Tryz.prog Rows.codePrintedRow.laid w)∧sizedMet enc Tryz.prog Tryz.f11 (OpenSpec.ofChange Rows.codePrintedSpec) false w args)
   (Rows.codePrintedSpec.post enc Tryz.prog Tryz.f11 false true false false)):Rows.CodePrintedSaid :=
 OpenClaim.holds_of_wide 11 Tryz.f11 rfl rfl rfl rfl rfl rfl rfl ⟨rfl,rfl,rfl,rfl,rfl⟩ rfl rfl rfl rfl rfl codePrinted_fn Tryz.func11 codePrinted_joined codePrinted_inst codePrinted_wrap (fun os started H enc _=>lifted os started H enc)
theorem codePrinted_card (hh:Rows.CodePrintedSaid):Rows.CodePrintedCardSaid :=
 Claim7.holds_tied_plain_at .later [] [.data,.data,.data,.data,.sentinel,.sentinel,.listed,.data,.pinned,.pinned] true (true,"8a234a80a232a3bf12a1f1e0dffb9d9eab25744cd05c38bdd5c3d3d044cc81c8") true hh (fun _ h=>by cases h) codePrinted_wft (fun _ h=>by cases h) codePrinted_row_tie rfl ⟨rfl,rfl⟩ codePrinted_main rfl
  (fun f fn hf hfn=>by
   obtain rfl:f=11:=Option.some.inj (codePrinted_fn.symm.trans hf) |>.symm;obtain rfl:fn=Tryz.f11:=(Option.some.inj (Tryz.func11.symm.trans hfn)).symm;exact ⟨codePrinted_looks,fun j t ht=>by
    rw [codePrinted_par] at ht;have hm:t∈[30,9,49]:=by simpa using Array.mem_of_getElem? ht
    exact (show Tryz.prog.wantsStandIn t=false by simpa using List.all_eq_true.1 codePrinted_stand t hm)⟩)
  codePrinted_goes
end Go.Proofs.YteinbljapojcgaaGreatDoor
end
section
namespace Go.Proofs.YteinbljapojcgaaGreatDoor
open Go Go.SX Go.ChangeShapes Go.WideShapes Go.ChangeAt Go.RowKit Go.ChangeMaps
set_option maxRecDepth 100000
theorem ownK:ownKnob Tryz.prog.godebug=none:=kq
theorem persOk_of {ps:List Pers} {w:World} (h:∀ p∈ps,LastP p w∧Stab p):PersOk ps w:=fun p hp =>
 ⟨(h p hp).1.1,fun w' hk=>(h p hp).2 w w' hk (h p hp).1.1,(h p hp).1.2⟩
theorem laid_shaped (os:Os) (args:Array Value):((World.laidAll Tryz.prog os laidL).forCall (fun _ _=>0) ⟨#[],args,[]⟩).Shaped Tryz.prog:=World.shaped_of_ZipB kq kq
theorem laid_met (os:Os) (args:Array Value):laidMetH Tryz.prog laidL ((World.laidAll Tryz.prog os laidL).forCall (fun _ _=>0) ⟨#[],args,[]⟩).memory:=by
 rw [MakeChecks.laidMetH_plain _ _ _ kq];exact laidMet_laidAll _ kq kq
theorem ls_stab (x:In) (A:IA):∀ p∈lsP x A,Stab p:=fun p hp=>by
 simp only [lsP,List.mem_cons,List.not_mem_nil,or_false] at hp;rcases hp with rfl | rfl | rfl<;>exact rowP_stab _
def insZ:Value:=.agg #[.int .i64 0,.int .i64 0,.int .i64 0,.int .i64 0,.int .i64 0,.int .i64 0,.int .i64 0,.bool false,.string ⟨#[]⟩,.int .i64 0,.int .i64 0,.int .i64 0,.bool false,.string ⟨#[]⟩,.int .i64 0,.int .i64 0,.int .i64 0,.bool false,.string ⟨#[]⟩,
  .int .i64 0,.int .i64 0,.int .i64 0,.int .i64 0,.string ⟨#[]⟩,.slice none 0 0,.slice none 0 0,.slice none 0 0,.bool false,.bool false]
theorem printed_lifted (os:Os) (started:os.Started) (H:Type) (enc:TypeId×Value→H) :
  ReturnsInHanded {} Tryz.checked os 11 .any (fun w args=>(Rows.codePrintedSpec.pre enc Tryz.prog Tryz.f11 [] false w args∧laidMetH Tryz.prog laidL w)∧sizedMet enc Tryz.prog Tryz.f11 (OpenSpec.ofChange Rows.codePrintedSpec) false w args)
   (Rows.codePrintedSpec.post enc Tryz.prog Tryz.f11 false true false false):=by
 refine returns_wrap (C:=Tryz.checked) (X:=fun w _=>laidMetH Tryz.prog laidL w) (fun _ _ _ hh h=>h.of_heap hh) ownK started kq Tryz.func11
  (ChangeSpec.witness_shaped (enc:=enc) (C:=Tryz.checked) (os:=os) (X:=fun w _=>laidMetH Tryz.prog laidL w) false (World.laidAll Tryz.prog os laidL) #[insZ,.string ⟨#[]⟩,.agg #[.int .i64 0,.int .i64 0,.string ⟨#[]⟩,.slice none 0 0]] 8 (World.laidAll_os _ _ _)
   (laid_shaped os _) kq kq kq (laid_met os _)) ?_
 intro W base args ds gs before hval0 hW hL hsh;have hval:∀ (j:Nat) t v,Tryz.f11.params[j]?=some t→args[j]?=some v→Value.okWide Tryz.prog W .any base t v:=hval0;have hW':=hW;obtain ⟨p,q,hA0,hV,rfl,_,_⟩:=hW;have hA:DataW.TrodAll enc Tryz.prog W 0 (fun _=>true) true Tryz.f11.params.toList args.toList ds p:=hA0;have hpar:Tryz.f11.params=#[30,9,49]:=kq;rw [hpar] at hA hval;obtain ⟨v0,v1,v2,d0,d1,d2,p0,p1,p2,rfl,rfl,rfl,h0,h1,h2⟩:=trodAll_three hA;obtain ⟨rfl,rfl⟩:=trodVars_none hV;obtain ⟨x,A,rfl,hf,_,hy,hls⟩:=open_in (hval 0 30 v0 rfl rfl) h0;obtain ⟨s,rfl,_,_,_⟩:=open_string Tryz.underlying9 (hval 1 9 v1 rfl rfl) h1;obtain ⟨rl,X,pr,rg,rfl,hX,_,_,hrl⟩:=open_mod (hval 2 49 v2 rfl rfl) h2;have hP:PersOk (glbP::rowP (relRow rl X.q X.c)::lsP x A) W:=persOk_of (fun p hp=>by
  rcases List.mem_cons.1 hp with rfl | hp
  ·exact ⟨glb_of_laid hL hsh,glbP_stab⟩
  rcases List.mem_cons.1 hp with rfl | hp
  ·exact ⟨hrl,rowP_stab _⟩
  ·exact ⟨hls p hp,ls_stab x A p hp⟩)
 refine (CallsK.gives (xPrinted x A s.data.toList rl X pr rg hX hf hy) ⟨rfl,rfl,rfl⟩ (fun _ _=>rfl) (fun _=>0) W hP).mono fun e W' ⟨he,hc⟩=>?_;subst he;exact ⟨_,rfl,post_true rfl kq (by rw [hpar]; exact fun t ht=>of_decide_eq_true (List.all_eq_true.1 (show ([30,9,49].all fun u=>decide (u<Tryz.prog.types.size))=true by kernel_rfl) t ht)) hW' rfl hc⟩
theorem printed_card_holds:Rows.CodePrintedCardSaid:=codePrinted_card (codePrinted_holds (fun os started H enc=>printed_lifted os started H enc))
end Go.Proofs.YteinbljapojcgaaGreatDoor
end
