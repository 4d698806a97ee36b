/- A symbolic run of the program that Lean checks, and what the functions of the program come to by it: part 11 of 11. -/
import Derived.Test.YteinbljapojcgaaGreatDoorRows
import Derived.Test.YteinbljapojcgaaGreatDoorTie
import Derived.Test.YteinbljapojcgaaGreatDoorCards
import Derived.JoinedOf
import Derived.KernelRfl
import Derived.SevenTiedAt
import Derived.ChangeMaps5
import Derived.ProofKit
import Derived.OpenShut
import Derived.Stop.Joined
import Derived.Test.YteinbljapojcgaaGreatDoorZAJ
set_option linter.unusedVariables false
section
namespace Go.Proofs
open Go Go.SX
set_option maxRecDepth 10000
noncomputable def slSt (x : In) (A : IA) (n : Int) (i : Nat) : St :=
 { n:=73,slots:=[(1,.v (.one (.ptr 0 0))),(3,.v (.one (.int .i64 n))),(28,.v (.one (.row 2 A.qy x.y.length A.cy))),(29,.v (.one (.int .i64 (x.y.length : Int)))),(30,.v (.one (.int .i64 (i : Int))))],gs:=[],
    heap:=[(0,seB x A 0)],next:=1,rows:=[(0,rowF x A),(1,rowI x A),(2,rowT x A)],nr:=3,pers:=[],wr:=true,fx:=0 }
noncomputable def slSt2 (x : In) (A : IA) (n : Int) (i : Nat) : St :=
 { n:=73,slots:=[(1,.v (.one (.ptr 0 0))),(3,.v (.one (.int .i64 n))),(41,.v (.one (.row 0 A.qf x.f.length A.cf))),(42,.v (.one (.int .i64 (x.f.length : Int)))),(43,.v (.one (.int .i64 (i : Int))))],gs:=[],
    heap:=[(0,seB x A 0)],next:=1,rows:=[(0,rowF x A),(1,rowI x A),(2,rowT x A)],nr:=3,pers:=[],wr:=true,fx:=0 }
structure SlI where
 n : Int
 i : Nat
theorem wrapL {i n : Nat} (h : i < n) (hn : n ≤ maxLen) : IntKind.i64.wrap ((i : Int) + 1) = ((i + 1 : Nat) : Int):=by
 unfold maxLen at hn
 simp [IntKind.wrap,IntKind.bits,IntKind.signed]
 omega
set_option maxHeartbeats 2000000 in
theorem cSlimF (x : In) (A : IA) (hf : x.f.length ≤ maxLen) (hy : x.y.length ≤ maxLen) : CallsK Tryz.prog 52 [.agg (inV x A)] (stP (lsP x A)) (fun b : Bool=>b = false → x.okL) (fun b=>.v (.one (.sb b))) (fun _=>noF):=by
 refine CallsK.mk true Tryz.func52 kq kq (fun ρ0 w0=>?_)
 refine V.q ?_
 refine V.factRow 0 (rowF x A) kq rfl ?_
 refine V.factRow 1 (rowI x A) kq rfl ?_
 refine V.factRow 2 (rowT x A) kq rfl ?_
 refine V.cellRow 0 24 0 ⟨inV x A,30,true⟩ (rowF x A) kq kq kq ?_
 refine V.cellRow 0 25 1 ⟨inC x (.row 0 A.qf x.f.length A.cf) (.val (.slice A.ql x.l.length A.cl)) (.val (.slice A.qy x.y.length A.cy)),30,true⟩ (rowI x A) kq kq kq ?_
 refine V.cellRow 0 26 2 ⟨inC x (.row 0 A.qf x.f.length A.cf) (.row 1 A.ql x.l.length A.cl) (.val (.slice A.qy x.y.length A.cy)),30,true⟩ (rowT x A) kq kq kq ?_
 refine V.slotRow 28 2 (rowT x A) kq kq kq ?_
 refine V.iter ?_
 refine V.loopTo [1,3,28,29,30] [0] [0,1,2] [] (fun j : SlI=>x.y.length - j.i) (fun j=>slSt x A j.n j.i) (fun j=>j.i ≤ x.y.length) ⟨IntKind.i64.wrap (IntKind.i64.wrap (IntKind.i64.wrap ((x.vs.length : Int) + x.t.s.length) + x.u.s.length) + x.w.s.length),0⟩ kq (Nat.zero_le _) (fun j hj ih=>?_)
 obtain ⟨n,i⟩:=j
 simp only at hj
 refine V.q ?_
 refine V.branch 31 (decide ((i : Int) < (x.y.length : Int))) kq (fun hc=>?_) (fun hc=>?_)
 ·have hlt : i < x.y.length:=by simpa using hc
  have key:=ih ⟨IntKind.i64.wrap (n + ((x.y.getD i ty0).s.length : Int)),i + 1⟩ hlt (by simp only; omega)
  refine V.runT [] [(0 : Int) ≤ i ∧ (i : Int) < x.y.length] kq kq ⟨by omega,by omega⟩ ?_
  refine V.slotAs 30 (.one (.int .i64 (IntKind.i64.wrap ((i : Int) + 1)))) (.one (.int .i64 ((i + 1 : Nat) : Int))) kq kq (fun _=>by rw [wrapL hlt hy]) ?_
  refine V.iter ?_
  exact V.back [1,3,28,29,30] [0] [0,1,2] [] key kq kq
 ·refine V.q ?_
  refine V.iter ?_
  refine V.loopTo [1,3,41,42,43] [0] [0,1,2] [] (fun j : SlI=>x.f.length - j.i) (fun j=>slSt2 x A j.n j.i) (fun j=>j.i ≤ x.f.length) ⟨n,0⟩ kq (Nat.zero_le _) (fun j hj ih=>?_)
  obtain ⟨n,i⟩:=j
  simp only at hj
  refine V.q ?_
  refine V.branch 44 (decide ((i : Int) < (x.f.length : Int))) kq (fun hc=>?_) (fun hc=>?_)
  ·have hlt : i < x.f.length:=by simpa using hc
   have key:=ih ⟨IntKind.i64.wrap (n + ((x.f.getD i fm0).s.length : Int)),i + 1⟩ hlt (by simp only; omega)
   refine V.runT [] [(0 : Int) ≤ i ∧ (i : Int) < x.f.length] kq kq ⟨by omega,by omega⟩ ?_
   refine V.slotAs 43 (.one (.int .i64 (IntKind.i64.wrap ((i : Int) + 1)))) (.one (.int .i64 ((i + 1 : Nat) : Int))) kq kq (fun _=>by rw [wrapL hlt hf]) ?_
   refine V.iter ?_
   exact V.back [1,3,41,42,43] [0] [0,1,2] [] key kq kq
  ·refine V.q ?_
   exact V.retK (decide ((x.f.length : Int) > 20) || decide ((x.l.length : Int) > 20) || decide ((x.y.length : Int) > 20) || decide (n > 20000) : Bool) [] kq kq kq (fun h=>by
    simp only [Bool.or_eq_false_iff,decide_eq_false_iff_not] at h
    exact ⟨by omega,by omega,by omega⟩)
def slF (x : In) (A : IA) (ps : List Pers) : St:={ n:=0,slots:=[],gs:=[],heap:=[(0,⟨inV x A,30,true⟩)],next:=1,rows:=[],nr:=0,pers:=ps,wr:=false }
theorem cSlim88 (x : In) (A : IA) (hf : x.f.length ≤ maxLen) (hy : x.y.length ≤ maxLen) : CallsK Tryz.prog 88 [.one (.sli 0 1 1),.one (.fn 52 [])] (slF x A (lsP x A)) (fun b : Bool=>b = false → x.okL) (fun b=>.v (.one (.int .i64 (bif b then 0 else -1)))) (fun _=>slF x A []):=by
 refine CallsK.mk true Tryz.func88 kq kq (fun ρ0 w0=>?_)
 refine V.runC [] 2 [] kq kq trivial ?_
 refine V.runT [] [(0 : Int) ≤ 0 ∧ (0 : Int) < ((1 : Nat) : Int)] kq kq ⟨by decide,by decide⟩ ?_
 refine V.callK [(0,false),(1,false),(2,false)] (cSlimF x A hf hy) kq kq kq (fun _=>kq) (fun b hb=>?_)
 refine V.q ?_
 refine V.branch 16 b kq (fun hh=>?_) (fun hh=>?_)
 ·subst hh
  refine V.q ?_
  exact V.retK (true : Bool) [] kq kq kq hb
 ·subst hh
  refine V.runC [] 5 [] kq kq trivial ?_
  exact V.retK (false : Bool) [] kq kq kq hb
theorem cSlim51 (x : In) (A : IA) (hf : x.f.length ≤ maxLen) (hy : x.y.length ≤ maxLen) : CallsK Tryz.prog 51 [.one (.sli 0 1 1),.one (.fn 52 [])] (slF x A (lsP x A)) (fun b : Bool=>b = false → x.okL) (fun b=>.v (.one (.sb (decide ((bif b then (0 : Int) else -1) ≥ 0))))) (fun _=>slF x A []):=by
 refine CallsK.mk true Tryz.func51 kq kq (fun ρ0 w0=>?_)
 refine V.q ?_
 refine V.callK [(0,false),(1,false),(2,false)] (cSlim88 x A hf hy) kq kq kq (fun _=>kq) (fun b hb=>?_)
 refine V.q ?_
 exact V.retK (b : Bool) [] kq kq kq hb
theorem cSlim (x : In) (A : IA) (hf : x.f.length ≤ maxLen) (hy : x.y.length ≤ maxLen) : CallsK Tryz.prog 15 [.one (.sli 0 1 1)] (slF x A (lsP x A)) (fun b : Bool=>b = true → x.okL) (fun b=>.v (.one (.sb b))) (fun _=>slF x A []):=by
 refine CallsK.mk true Tryz.func15 kq kq (fun ρ0 w0=>?_)
 refine V.q ?_
 refine V.callK [(0,false),(1,false),(2,false)] (cSlim51 x A hf hy) kq kq kq (fun _=>kq) (fun b hb=>?_)
 refine V.q ?_
 cases b
 ·refine V.slotAs 2 (.one (.sb (!(decide ((bif false then (0 : Int) else -1) ≥ 0))))) (.one (.sb true)) kq kq (fun _=>rfl) ?_
  exact V.retK (true : Bool) [] kq kq kq (fun _=>hb rfl)
 ·refine V.slotAs 2 (.one (.sb (!(decide ((bif true then (0 : Int) else -1) ≥ 0))))) (.one (.sb false)) kq kq (fun _=>rfl) ?_
  exact V.retK (false : Bool) [] kq kq kq (fun h=>by cases h)
theorem blk_row {α : Type} (f : α → List SV) (d : α) (l : List α) (g : Nat) (e : TypeId) (sz : Nat) (hf : ∀ x,(f x).length = sz) (hpl : ∀ x,∀ y ∈ f x,y.plain) (hm : l.length ≤ maxLen) :
  (∀ k,(rowP (rowL f d l (some ⟨g,0,none⟩) l.length e sz false)).D k → ∃ q ∈ [blkP g (l.flatMap f) e],q.D k) ∧ (∀ w,(∀ q ∈ [blkP g (l.flatMap f) e],q.φ w) → (rowP (rowL f d l (some ⟨g,0,none⟩) l.length e sz false)).φ w) :=
 ⟨fun k hk=>⟨_,List.mem_singleton.2 rfl,by
  obtain ⟨a,h1,h2,_⟩:=hk
  have h1' : (some ⟨g,0,none⟩ : Option Addr) = some a:=h1
  cases h1'
  exact h2.symm⟩,fun w hw=>rowP_of_blk hf hpl hm w (hw _ (List.mem_singleton.2 rfl))⟩
def pastL : List Item → List Item
 | .inLoop _ :: k=>k
 | _ :: k=>pastL k
 | []=>[]
noncomputable def snT2 : List Item:=skipU 100 (pastL (skipU 100 [.code (bodyOf Tryz.f14)]))
noncomputable def snSt2 (n0 : Nat) (S : Nat → Prop) (g : Nat) : St :=
 { n:=242,slots:=[(11,.v (.one (.ptr 0 0))),(101,.v (.one (.int .i64 4))),(102,.v (.one (.int .i64 4)))],gs:=[],heap:=[(0,⟨inV sx4 (sA4 g),30,true⟩)],next:=1,rows:=[],nr:=0,
    pers:=[newP n0 S (rowP (rowI sx4 (sA4 g))),newP n0 S (rowP (rowT zeroI IA0)),newP n0 S (rowP (rowI zeroI IA0)),newP n0 S (rowP (rowF zeroI IA0)),glbP],wr:=true,fx:=0 }
theorem rlv_plain (x : Int × Int) : ∀ y ∈ rlv x,y.plain:=fun y hy=>by
 simp only [rlv,List.mem_cons,List.not_mem_nil,or_false] at hy
 rcases hy with rfl | rfl <;> trivial
theorem e3_okL : (emptyI 3).okL:=⟨by decide,by decide,by decide⟩
theorem e0_okL : (emptyI 0).okL:=⟨by decide,by decide,by decide⟩
noncomputable def aBlank5 : Con Tryz.prog:=Con.auto Tryz.func49 true [] [] kq kq
def blankC (op : Int) : List SV:=(inV (emptyI op) IA0).map fun y=>match y with
 | .sb b=>.bool b
 | y=>y
set_option maxHeartbeats 4000000 in
theorem sane_rest (ρ0 : Nat → Nat) (w0 : World) (g : Nat) : V ⟨Tryz.prog,14,GivesK ρ0 glbF (fun _ : Unit=>True) (fun _=>.v (.one (.sb true))) (fun _=>noF) w0,touch ρ0 glbF,w0,ρ0,none⟩ ⟨snT2,snSt2 w0.heap.size (touch ρ0 glbF) g⟩:=by
 refine V.q ?_
 refine V.known 103 (decide ((4 : Int) < 4)) false kq (by decide) ?_
 refine V.q ?_
 refine V.callK [(4,false),(3,true),(0,true),(1,true)] (xEncode sx4 (sA4 g) sx4_okL sx4_fine) kq kq kq (fun _=>kq) (fun qc4 _=>?_)
 refine V.q ?_
 refine V.freeze 0 (rowL rlv (0,0) [(2,5)] qc4.1 qc4.2 62 2 true) kq kq ?_
 refine V.callK [] (xReadNumber [128,0] 0 (by decide)) kq kq kq (fun _=>kq) (fun _ _=>?_)
 refine V.q ?_
 refine V.callK [(5,false)] (xParseNo [83,84,69,80,32,48,49,48] [[83,84,69,80],[48,49,48]] kq (by decide) kq (by decide) (pok_of (o0:=1) kq kq) kq) kq kq kq (fun _=>kq) (fun _ _=>?_)
 refine V.q ?_
 refine V.callK [(5,false)] xAsm kq kq kq (fun _=>kq) (fun qc5 _=>?_)
 refine V.q ?_
 refine V.callK [(6,false),(0,true)] (xPlaces [] ⟨asB,qc5.1,0,qc5.2⟩ rfl (by decide) (by show 7 ≤ 100000000; decide) 0 4 ([asX1,asX2],[0,2,7]) (asV _ _)) kq kq kq (fun _=>kq) (fun qc6 _=>?_)
 refine V.q ?_
 refine V.settle 205 true ((0 : Int) == 0) kq (by decide) ?_
 refine V.q ?_
 refine V.absB 3 ⟨[.int .i64 2,.int .i64 5],62,true⟩ kq kq (fun _=>kq) (fun g1=>?_)
 refine V.persNew [(0,true)] [blkP g1 [.int .i64 2,.int .i64 5] 62] (rowP (rowL rlv (0,0) [(2,5)] (some ⟨g1,0,none⟩) 1 62 2 false)) kq kq (blk_row rlv (0,0) [(2,5)] g1 62 2 (fun _=>rfl) rlv_plain (by decide)).1 (blk_row rlv (0,0) [(2,5)] g1 62 2 (fun _=>rfl) rlv_plain (by decide)).2 (rowP_stab _) ?_
 refine V.callK [(4,true),(0,true)] (cEqR [(2,5)] [(2,5)] qc4.1 (some ⟨g1,0,none⟩) qc4.2 1 (by decide)) kq kq kq (fun _=>kq) (fun _ _=>?_)
 refine V.q ?_
 refine V.settle 227 true true kq rfl ?_
 refine V.q ?_
 refine V.absB 3 ⟨[.int .i64 0,.int .i64 2,.int .i64 7],3,true⟩ kq kq (fun _=>kq) (fun g2=>?_)
 refine V.persNew [(0,true)] [blkP g2 [.int .i64 0,.int .i64 2,.int .i64 7] 3] (rowP (rowL intv 0 [0,2,7] (some ⟨g2,0,none⟩) 3 3 1 false)) kq kq (blk_row intv 0 [0,2,7] g2 3 1 (fun _=>rfl) intv_plain (by decide)).1 (blk_row intv 0 [0,2,7] g2 3 1 (fun _=>rfl) intv_plain (by decide)).2 (rowP_stab _) ?_
 refine V.callK [(4,true),(0,true)] (cEqI [0,2,7] [0,2,7] qc6.1 (some ⟨g2,0,none⟩) qc6.2 3 (by decide)) kq kq kq (fun _=>kq) (fun _ _=>?_)
 refine V.q ?_
 refine V.settle 232 true true kq rfl ?_
 refine V.runT [⟨aBlank5,[]⟩] [] kq kq trivial ?_
 refine V.slotAs 233 (.agg (blankC 3)) (.agg (inV (emptyI 3) IA0)) kq kq (fun _=>rfl) ?_
 refine V.callK [(11,false),(10,true),(9,true),(8,true)] (xCheck (emptyI 3) IA0 e3_okL) kq kq kq (fun _=>kq) (fun _ _=>?_)
 refine V.q ?_
 refine V.settle 237 true true kq rfl ?_
 refine V.runT [⟨aBlank5,[]⟩] [] kq kq trivial ?_
 refine V.slotAs 238 (.agg (blankC 0)) (.agg (inV (emptyI 0) IA0)) kq kq (fun _=>rfl) ?_
 refine V.callK [(11,false),(10,true),(9,true),(8,true)] (xCheck (emptyI 0) IA0 e0_okL) kq kq kq (fun _=>kq) (fun _ _=>?_)
 refine V.q ?_
 exact V.z
def snT : List (Int × List UInt8):=[(0,[0]),(-1,[1]),(1,[2]),(63,[126]),(64,[128,1]),(-64,[127]),(-65,[129,1])]
def snL : Nat → List (Int × List UInt8) → List MapEntry
 | _,[]=>[]
 | i,p :: l=>{ key:=.int .i64 p.1,val:=.string ⟨p.2.toArray⟩,born:=i } :: snL (i + 1) l
def snEs : Array MapEntry:=(snL 0 snT).toArray
theorem snL_mem : ∀ {l : List (Int × List UInt8)} {i : Nat} {e : MapEntry},e ∈ snL i l → ∃ p ∈ l,e.key = .int .i64 p.1 ∧ e.val = .string ⟨p.2.toArray⟩ ∧ e.born < i + l.length
 | [],i,e,h=>by simp [snL] at h
 | p :: l,i,e,h=>by
  simp only [snL,List.mem_cons] at h
  rcases h with rfl | h
  ·exact ⟨p,List.mem_cons_self ..,rfl,rfl,by simp⟩
  ·obtain ⟨p',h1,h2,h3,h4⟩:=snL_mem h
   exact ⟨p',List.mem_cons_of_mem _ h1,h2,h3,by simp only [List.length_cons]; omega⟩
theorem snT_num (p : Int × List UInt8) (h : p ∈ snT) : isNum p.1 = true ∧ encN p.1 = p.2 ∧ rnV p.2 0 = .tup [.one (.int .i64 p.1),.one (.int .i64 (p.2.length : Int)),.one (.int .i64 0)] ∧ p.2.length ≤ 1000000000:=by
 unfold snT at h
 simp only [List.mem_cons,List.not_mem_nil,or_false] at h
 rcases h with rfl | rfl | rfl | rfl | rfl | rfl | rfl <;> exact ⟨by decide,by decide,kq,by decide⟩
theorem snN (p : Int × List UInt8) (h : p ∈ snT) : CallsK Tryz.prog 16 [.one (.int .i64 p.1)] noF (fun _ : Unit=>True) (fun _=>.tup [.one (.str p.2),.one (.int .i64 0)]) (fun _=>noF):=by
 have h1:=xNumber p.1
 rw [(snT_num p h).1,(snT_num p h).2.1] at h1
 exact h1
theorem snR (p : Int × List UInt8) (h : p ∈ snT) : CallsK Tryz.prog 18 [.one (.str p.2),.one (.int .i64 0)] noF (fun _ : Unit=>True) (fun _=>.tup [.one (.int .i64 p.1),.one (.int .i64 (p.2.length : Int)),.one (.int .i64 0)]) (fun _=>noF):=by
 have h1:=xReadNumber p.2 0 (snT_num p h).2.2.2
 rw [(snT_num p h).2.2.1] at h1
 exact h1
def snSt (n0 : Nat) (S : Nat → Prop) (gL it : Nat) (seen : Array Nat) : St :=
 { n:=242,slots:=[(39,.v (.one (.val (.pointer (some ⟨it,0,none⟩)))))],gs:=[],heap:=[],next:=0,
    rows:=[(0,objRow it (.mapIter (some gL) 7 seen 7))],nr:=1,pers:=[newP n0 S (objP gL (.map snEs 7)),glbP],wr:=true,fx:=0 }
theorem sn_born : ∀ x ∈ snEs.toList,x.born < 7:=fun e he=>by
 obtain ⟨p,_,_,_,h⟩:=snL_mem (l:=snT) (i:=0) he
 simpa [snT] using h
theorem sn_nodup : (snEs.toList.map (·.born)).Nodup:=by
 show [0,1,2,3,4,5,6].Nodup
 decide
noncomputable def aBlank : Con Tryz.prog:=Con.auto Tryz.func49 true [] [] kq kq
theorem sx4_l (g : Nat) : (∀ k,(rowP (rowI sx4 (sA4 g))).D k → ∃ q ∈ [blkP g [.int .i64 2] 3],q.D k) ∧ (∀ w,(∀ q ∈ [blkP g [.int .i64 2] 3],q.φ w) → (rowP (rowI sx4 (sA4 g))).φ w) :=
 ⟨fun k hk=>⟨_,List.mem_singleton.2 rfl,by
  obtain ⟨a,h1,h2,_⟩:=hk
  have h1' : (some ⟨g,0,none⟩ : Option Addr) = some a:=h1
  cases h1'
  exact h2.symm⟩,fun w hw=>rowP_of_blk (f:=intv) (d:=0) (l:=[2]) (e:=3) (sz:=1) (fun _=>rfl) (fun x y hy=>by rw [List.mem_singleton.1 hy]; trivial) (by decide) w (hw _ (List.mem_singleton.2 rfl))⟩
set_option maxHeartbeats 4000000 in
theorem sane_ : CallsK Tryz.prog 14 [] glbF (fun _ : Unit=>True) (fun _=>.v (.one (.sb true))) (fun _=>noF):=by
 refine CallsK.mk true Tryz.func14 kq kq (fun ρ0 w0=>?_)
 refine V.q ?_
 refine V.mkMap 86 kq (fun _=>kq) (fun gL=>?_)
 refine V.runM [] 0 7 [] (List.replicate 7 (gL,gL)) kq kq trivial (fun p hp=>by rw [List.eq_of_mem_replicate hp]) ?_
 refine V.q ?_
 refine V.freezeObj 0 gL (.map snEs 7) kq ?_
 refine V.range 86 3 9 gL snEs 7 kq kq (fun ρ a w hS=>hS.objN (n0:=w0.heap.size) (S:=touch ρ0 glbF) 0 kq) (fun _=>kq) (fun it=>?_)
 refine V.q ?_
 refine V.iter ?_
 refine V.loopTo [39] [] [1] [true,true] (fun seen : Array Nat=>(leftOf snEs seen).size) (snSt w0.heap.size (touch ρ0 glbF) gL it) (fun _=>True) #[] kq trivial (fun seen _ ih=>?_)
 refine V.q ?_
 refine V.next it 0 gL 7 7 7 seen snEs kq kq (fun ρ a w hS=>hS.objN (n0:=w0.heap.size) (S:=touch ρ0 glbF) 0 kq) sn_born (Nat.le_refl _) kq (fun e he=>kq) (fun hsz=>?_) (fun e he=>?_)
 ·refine V.runT [⟨aBlank,[]⟩] [] kq kq trivial ?_
  refine V.soft 5 ?_
  refine V.soft 3 ?_
  refine V.absB 4 ⟨[.int .i64 2],3,true⟩ kq kq (fun _=>kq) (fun g=>?_)
  refine V.persNew [] [] (rowP (rowF zeroI IA0)) kq kq (fun k hk=>absurd hk ((row_none (R:=rowF zeroI IA0) rfl rfl rfl).1 k)) (fun w _=>(row_none (R:=rowF zeroI IA0) rfl rfl rfl).2 w) (rowP_stab _) ?_
  refine V.persNew [] [] (rowP (rowI zeroI IA0)) kq kq (fun k hk=>absurd hk ((row_none (R:=rowI zeroI IA0) rfl rfl rfl).1 k)) (fun w _=>(row_none (R:=rowI zeroI IA0) rfl rfl rfl).2 w) (rowP_stab _) ?_
  refine V.persNew [] [] (rowP (rowT zeroI IA0)) kq kq (fun k hk=>absurd hk ((row_none (R:=rowT zeroI IA0) rfl rfl rfl).1 k)) (fun w _=>(row_none (R:=rowT zeroI IA0) rfl rfl rfl).2 w) (rowP_stab _) ?_
  refine V.persNew [(3,true)] [blkP g [.int .i64 2] 3] (rowP (rowI sx4 (sA4 g))) kq kq (sx4_l g).1 (sx4_l g).2 (rowP_stab _) ?_
  refine V.iter ?_
  refine V.q ?_
  refine V.known 103 (decide ((0 : Int) < 4)) true kq (by decide) ?_
  refine V.runT [] [(0 : Int) ≤ 0 ∧ (0 : Int) < 4] kq kq ⟨by decide,by decide⟩ ?_
  refine V.callK [(6,false),(3,true),(2,true),(1,true)] (xEncode sx1 IA0 sx1_okL sx1_fine) kq kq kq (fun _=>kq) (fun qc0 _=>?_)
  refine V.q ?_
  refine V.freeze 1 (rowL rlv (0,0) [] qc0.1 qc0.2 62 2 true) kq kq ?_
  refine V.callK [(7,false),(0,true)] (xDecode [] ⟨[3,8,2],qc0.1,0,qc0.2⟩ rfl (by decide) 0 ⟨by show 3 ≤ 1000000000; decide,Nat.zero_le _⟩ kq) kq kq kq (fun _=>kq) (fun yd0 hd0=>?_)
  obtain ⟨d0,D0⟩:=yd0
  have ed0 : d0 = sx1:=hd0.trans (sx1_dec qc0.1 qc0.2)
  subst ed0
  refine V.q ?_
  refine V.callK [(10,false),(7,true),(6,true),(5,true)] (xText sx1 IA0 sx1_okL 3 kq kq kq sx1_fine) kq kq kq (fun _=>kq) (fun _ _=>?_)
  refine V.q ?_
  refine V.callK [(10,false)] (xParse [77,79,86,69,32,114,51,32,114,48] [[77,79,86,69],[114,51],[114,48]] sx1 kq (by decide) kq (by decide) (pok_of sx1_find sx1_pok) sx1_read) kq kq kq (fun _=>kq) (fun yp0 hp0=>?_)
  obtain ⟨p0,P0⟩:=yp0
  have ep0 : p0 = sx1:=hp0
  subst ep0
  refine V.persAs [(10,true)] [rowP (rowF sx1 IA0)] (rowP (rowF sx1 IA0)) kq (fun k hk=>⟨_,List.mem_singleton.2 rfl,hk⟩) (fun w hw=>hw _ (List.mem_singleton.2 rfl)) (rowP_stab _) ?_
  refine V.persAs [(10,true)] [rowP (rowI sx1 IA0)] (rowP (rowI sx1 IA0)) kq (fun k hk=>⟨_,List.mem_singleton.2 rfl,hk⟩) (fun w hw=>hw _ (List.mem_singleton.2 rfl)) (rowP_stab _) ?_
  refine V.persAs [(10,true)] [rowP (rowT sx1 IA0)] (rowP (rowT sx1 IA0)) kq (fun k hk=>⟨_,List.mem_singleton.2 rfl,hk⟩) (fun w hw=>hw _ (List.mem_singleton.2 rfl)) (rowP_stab _) ?_
  refine V.persAs [(6,true)] [rowP (rowF sx1 D0)] (rowP (rowF sx1 D0)) kq (fun k hk=>⟨_,List.mem_singleton.2 rfl,hk⟩) (fun w hw=>hw _ (List.mem_singleton.2 rfl)) (rowP_stab _) ?_
  refine V.persAs [(8,true)] [rowP (rowI sx1 D0)] (rowP (rowI sx1 D0)) kq (fun k hk=>⟨_,List.mem_singleton.2 rfl,hk⟩) (fun w hw=>hw _ (List.mem_singleton.2 rfl)) (rowP_stab _) ?_
  refine V.persAs [(10,true)] [rowP (rowT sx1 D0)] (rowP (rowT sx1 D0)) kq (fun k hk=>⟨_,List.mem_singleton.2 rfl,hk⟩) (fun w hw=>hw _ (List.mem_singleton.2 rfl)) (rowP_stab _) ?_
  refine V.persAs [(6,true)] [rowP (rowF sx1 P0)] (rowP (rowF sx1 P0)) kq (fun k hk=>⟨_,List.mem_singleton.2 rfl,hk⟩) (fun w hw=>hw _ (List.mem_singleton.2 rfl)) (rowP_stab _) ?_
  refine V.persAs [(8,true)] [rowP (rowI sx1 P0)] (rowP (rowI sx1 P0)) kq (fun k hk=>⟨_,List.mem_singleton.2 rfl,hk⟩) (fun w hw=>hw _ (List.mem_singleton.2 rfl)) (rowP_stab _) ?_
  refine V.persAs [(10,true)] [rowP (rowT sx1 P0)] (rowP (rowT sx1 P0)) kq (fun k hk=>⟨_,List.mem_singleton.2 rfl,hk⟩) (fun w hw=>hw _ (List.mem_singleton.2 rfl)) (rowP_stab _) ?_
  refine V.runT [⟨sSame2 sx1 IA0 P0 D0 sx1_okL,[17,18,19,20,21,22,14,15,16]⟩] [((false = false) → (([.agg (inV sx1 D0),.agg (inV sx1 IA0)] : List CV) = [.agg (inV sx1 D0),.agg (inV sx1 IA0)] ∨ ([.agg (inV sx1 D0),.agg (inV sx1 IA0)] : List CV) = [.agg (inV sx1 P0),.agg (inV sx1 IA0)])),((false = false) → (([.agg (inV sx1 P0),.agg (inV sx1 IA0)] : List CV) = [.agg (inV sx1 D0),.agg (inV sx1 IA0)] ∨ ([.agg (inV sx1 P0),.agg (inV sx1 IA0)] : List CV) = [.agg (inV sx1 P0),.agg (inV sx1 IA0)]))] kq kq ⟨fun _=>.inl rfl,fun _=>.inr rfl⟩ ?_
  refine V.known 176 false false kq rfl ?_
  refine V.q ?_
  refine V.iter ?_
  refine V.ungrd ?_
  refine V.q ?_
  refine V.known 103 (decide ((1 : Int) < 4)) true kq (by decide) ?_
  refine V.runT [] [(0 : Int) ≤ 1 ∧ (1 : Int) < 4] kq kq ⟨by decide,by decide⟩ ?_
  refine V.callK [(22,false),(19,true),(18,true),(17,true)] (xEncode sx2 IA0 sx2_okL sx2_fine) kq kq kq (fun _=>kq) (fun qc1 _=>?_)
  refine V.q ?_
  refine V.freeze 2 (rowL rlv (0,0) [] qc1.1 qc1.2 62 2 true) kq kq ?_
  refine V.callK [(23,false),(0,true)] (xDecode [] ⟨[14,0,0,1,2],qc1.1,0,qc1.2⟩ rfl (by decide) 0 ⟨by show 5 ≤ 1000000000; decide,Nat.zero_le _⟩ kq) kq kq kq (fun _=>kq) (fun yd1 hd1=>?_)
  obtain ⟨d1,D1⟩:=yd1
  have ed1 : d1 = sx2:=hd1.trans (sx2_dec qc1.1 qc1.2)
  subst ed1
  refine V.q ?_
  refine V.callK [(26,false),(23,true),(22,true),(21,true)] (xText sx2 IA0 sx2_okL 14 kq kq kq sx2_fine) kq kq kq (fun _=>kq) (fun _ _=>?_)
  refine V.q ?_
  refine V.callK [(26,false)] (xParse [74,85,77,80,32,64,50,53,56] [[74,85,77,80],[64,50,53,56]] sx2 kq (by decide) kq (by decide) (pok_of sx2_find sx2_pok) sx2_read) kq kq kq (fun _=>kq) (fun yp1 hp1=>?_)
  obtain ⟨p1,P1⟩:=yp1
  have ep1 : p1 = sx2:=hp1
  subst ep1
  refine V.persAs [(26,true)] [rowP (rowF sx2 IA0)] (rowP (rowF sx2 IA0)) kq (fun k hk=>⟨_,List.mem_singleton.2 rfl,hk⟩) (fun w hw=>hw _ (List.mem_singleton.2 rfl)) (rowP_stab _) ?_
  refine V.persAs [(26,true)] [rowP (rowI sx2 IA0)] (rowP (rowI sx2 IA0)) kq (fun k hk=>⟨_,List.mem_singleton.2 rfl,hk⟩) (fun w hw=>hw _ (List.mem_singleton.2 rfl)) (rowP_stab _) ?_
  refine V.persAs [(26,true)] [rowP (rowT sx2 IA0)] (rowP (rowT sx2 IA0)) kq (fun k hk=>⟨_,List.mem_singleton.2 rfl,hk⟩) (fun w hw=>hw _ (List.mem_singleton.2 rfl)) (rowP_stab _) ?_
  refine V.persAs [(6,true)] [rowP (rowF sx2 D1)] (rowP (rowF sx2 D1)) kq (fun k hk=>⟨_,List.mem_singleton.2 rfl,hk⟩) (fun w hw=>hw _ (List.mem_singleton.2 rfl)) (rowP_stab _) ?_
  refine V.persAs [(8,true)] [rowP (rowI sx2 D1)] (rowP (rowI sx2 D1)) kq (fun k hk=>⟨_,List.mem_singleton.2 rfl,hk⟩) (fun w hw=>hw _ (List.mem_singleton.2 rfl)) (rowP_stab _) ?_
  refine V.persAs [(10,true)] [rowP (rowT sx2 D1)] (rowP (rowT sx2 D1)) kq (fun k hk=>⟨_,List.mem_singleton.2 rfl,hk⟩) (fun w hw=>hw _ (List.mem_singleton.2 rfl)) (rowP_stab _) ?_
  refine V.persAs [(6,true)] [rowP (rowF sx2 P1)] (rowP (rowF sx2 P1)) kq (fun k hk=>⟨_,List.mem_singleton.2 rfl,hk⟩) (fun w hw=>hw _ (List.mem_singleton.2 rfl)) (rowP_stab _) ?_
  refine V.persAs [(8,true)] [rowP (rowI sx2 P1)] (rowP (rowI sx2 P1)) kq (fun k hk=>⟨_,List.mem_singleton.2 rfl,hk⟩) (fun w hw=>hw _ (List.mem_singleton.2 rfl)) (rowP_stab _) ?_
  refine V.persAs [(10,true)] [rowP (rowT sx2 P1)] (rowP (rowT sx2 P1)) kq (fun k hk=>⟨_,List.mem_singleton.2 rfl,hk⟩) (fun w hw=>hw _ (List.mem_singleton.2 rfl)) (rowP_stab _) ?_
  refine V.runT [⟨sSame2 sx2 IA0 P1 D1 sx2_okL,[33,34,35,36,37,38,30,31,32]⟩] [((false = false) → (([.agg (inV sx2 D1),.agg (inV sx2 IA0)] : List CV) = [.agg (inV sx2 D1),.agg (inV sx2 IA0)] ∨ ([.agg (inV sx2 D1),.agg (inV sx2 IA0)] : List CV) = [.agg (inV sx2 P1),.agg (inV sx2 IA0)])),((false = false) → (([.agg (inV sx2 P1),.agg (inV sx2 IA0)] : List CV) = [.agg (inV sx2 D1),.agg (inV sx2 IA0)] ∨ ([.agg (inV sx2 P1),.agg (inV sx2 IA0)] : List CV) = [.agg (inV sx2 P1),.agg (inV sx2 IA0)]))] kq kq ⟨fun _=>.inl rfl,fun _=>.inr rfl⟩ ?_
  refine V.known 176 false false kq rfl ?_
  refine V.q ?_
  refine V.iter ?_
  refine V.ungrd ?_
  refine V.q ?_
  refine V.known 103 (decide ((2 : Int) < 4)) true kq (by decide) ?_
  refine V.runT [] [(0 : Int) ≤ 2 ∧ (2 : Int) < 4] kq kq ⟨by decide,by decide⟩ ?_
  refine V.callK [(38,false),(35,true),(34,true),(33,true)] (xEncode sx3 IA0 sx3_okL sx3_fine) kq kq kq (fun _=>kq) (fun qc2 _=>?_)
  refine V.q ?_
  refine V.freeze 3 (rowL rlv (0,0) [] qc2.1 qc2.2 62 2 true) kq kq ?_
  refine V.callK [(39,false),(0,true)] (xDecode [] ⟨[8,2,4,4,30,0,0,0],qc2.1,0,qc2.2⟩ rfl (by decide) 0 ⟨by show 8 ≤ 1000000000; decide,Nat.zero_le _⟩ kq) kq kq kq (fun _=>kq) (fun yd2 hd2=>?_)
  obtain ⟨d2,D2⟩:=yd2
  have ed2 : d2 = sx3:=hd2.trans (sx3_dec qc2.1 qc2.2)
  subst ed2
  refine V.q ?_
  refine V.callK [(42,false),(39,true),(38,true),(37,true)] (xText sx3 IA0 sx3_okL 8 kq kq kq sx3_fine) kq kq kq (fun _=>kq) (fun _ _=>?_)
  refine V.q ?_
  refine V.callK [(42,false)] (xParse [76,79,65,68,32,114,48,32,114,49,32,50,44,49,53,44,48,44,48,44,61] [[76,79,65,68],[114,48],[114,49],[50,44,49,53,44,48,44,48,44,61]] sx3 kq (by decide) kq (by decide) (pok_of sx3_find sx3_pok) sx3_read) kq kq kq (fun _=>kq) (fun yp2 hp2=>?_)
  obtain ⟨p2,P2⟩:=yp2
  have ep2 : p2 = sx3:=hp2
  subst ep2
  refine V.persAs [(42,true)] [rowP (rowF sx3 IA0)] (rowP (rowF sx3 IA0)) kq (fun k hk=>⟨_,List.mem_singleton.2 rfl,hk⟩) (fun w hw=>hw _ (List.mem_singleton.2 rfl)) (rowP_stab _) ?_
  refine V.persAs [(42,true)] [rowP (rowI sx3 IA0)] (rowP (rowI sx3 IA0)) kq (fun k hk=>⟨_,List.mem_singleton.2 rfl,hk⟩) (fun w hw=>hw _ (List.mem_singleton.2 rfl)) (rowP_stab _) ?_
  refine V.persAs [(42,true)] [rowP (rowT sx3 IA0)] (rowP (rowT sx3 IA0)) kq (fun k hk=>⟨_,List.mem_singleton.2 rfl,hk⟩) (fun w hw=>hw _ (List.mem_singleton.2 rfl)) (rowP_stab _) ?_
  refine V.persAs [(6,true)] [rowP (rowF sx3 D2)] (rowP (rowF sx3 D2)) kq (fun k hk=>⟨_,List.mem_singleton.2 rfl,hk⟩) (fun w hw=>hw _ (List.mem_singleton.2 rfl)) (rowP_stab _) ?_
  refine V.persAs [(8,true)] [rowP (rowI sx3 D2)] (rowP (rowI sx3 D2)) kq (fun k hk=>⟨_,List.mem_singleton.2 rfl,hk⟩) (fun w hw=>hw _ (List.mem_singleton.2 rfl)) (rowP_stab _) ?_
  refine V.persAs [(10,true)] [rowP (rowT sx3 D2)] (rowP (rowT sx3 D2)) kq (fun k hk=>⟨_,List.mem_singleton.2 rfl,hk⟩) (fun w hw=>hw _ (List.mem_singleton.2 rfl)) (rowP_stab _) ?_
  refine V.persAs [(6,true)] [rowP (rowF sx3 P2)] (rowP (rowF sx3 P2)) kq (fun k hk=>⟨_,List.mem_singleton.2 rfl,hk⟩) (fun w hw=>hw _ (List.mem_singleton.2 rfl)) (rowP_stab _) ?_
  refine V.persAs [(8,true)] [rowP (rowI sx3 P2)] (rowP (rowI sx3 P2)) kq (fun k hk=>⟨_,List.mem_singleton.2 rfl,hk⟩) (fun w hw=>hw _ (List.mem_singleton.2 rfl)) (rowP_stab _) ?_
  refine V.persAs [(10,true)] [rowP (rowT sx3 P2)] (rowP (rowT sx3 P2)) kq (fun k hk=>⟨_,List.mem_singleton.2 rfl,hk⟩) (fun w hw=>hw _ (List.mem_singleton.2 rfl)) (rowP_stab _) ?_
  refine V.runT [⟨sSame2 sx3 IA0 P2 D2 sx3_okL,[49,50,51,52,53,54,46,47,48]⟩] [((false = false) → (([.agg (inV sx3 D2),.agg (inV sx3 IA0)] : List CV) = [.agg (inV sx3 D2),.agg (inV sx3 IA0)] ∨ ([.agg (inV sx3 D2),.agg (inV sx3 IA0)] : List CV) = [.agg (inV sx3 P2),.agg (inV sx3 IA0)])),((false = false) → (([.agg (inV sx3 P2),.agg (inV sx3 IA0)] : List CV) = [.agg (inV sx3 D2),.agg (inV sx3 IA0)] ∨ ([.agg (inV sx3 P2),.agg (inV sx3 IA0)] : List CV) = [.agg (inV sx3 P2),.agg (inV sx3 IA0)]))] kq kq ⟨fun _=>.inl rfl,fun _=>.inr rfl⟩ ?_
  refine V.known 176 false false kq rfl ?_
  refine V.q ?_
  refine V.iter ?_
  refine V.ungrd ?_
  refine V.q ?_
  refine V.known 103 (decide ((3 : Int) < 4)) true kq (by decide) ?_
  refine V.runT [] [(0 : Int) ≤ 3 ∧ (3 : Int) < 4] kq kq ⟨by decide,by decide⟩ ?_
  refine V.callK [(54,false),(51,true),(48,true),(49,true)] (xEncode sx4 (sA4 g) sx4_okL sx4_fine) kq kq kq (fun _=>kq) (fun qc3 _=>?_)
  refine V.q ?_
  refine V.freeze 4 (rowL rlv (0,0) [(2,5)] qc3.1 qc3.2 62 2 true) kq kq ?_
  refine V.callK [(55,false),(0,true)] (xDecode [(2,5)] ⟨[17,0,0,0,0,0,2,6],qc3.1,1,qc3.2⟩ rfl (by decide) 0 ⟨by show 8 ≤ 1000000000; decide,Nat.zero_le _⟩ kq) kq kq kq (fun _=>kq) (fun yd3 hd3=>?_)
  obtain ⟨d3,D3⟩:=yd3
  have ed3 : d3 = sx4:=hd3.trans (sx4_dec qc3.1 qc3.2)
  subst ed3
  refine V.q ?_
  refine V.callK [(58,false),(55,true),(52,true),(53,true)] (xText sx4 (sA4 g) sx4_okL 17 kq kq kq sx4_fine) kq kq kq (fun _=>kq) (fun _ _=>?_)
  refine V.q ?_
  refine V.callK [(58,false)] (xParse [67,65,76,76,32,45,32,33,53,32,91,114,50,93] [[67,65,76,76],[45],[33,53],[91,114,50,93]] sx4 kq (by decide) kq (by decide) (pok_of sx4_find sx4_pok) sx4_read) kq kq kq (fun _=>kq) (fun yp3 hp3=>?_)
  obtain ⟨p3,P3⟩:=yp3
  have ep3 : p3 = sx4:=hp3
  subst ep3
  refine V.persAs [(58,true)] [rowP (rowF sx4 (sA4 g))] (rowP (rowF sx4 (sA4 g))) kq (fun k hk=>⟨_,List.mem_singleton.2 rfl,hk⟩) (fun w hw=>hw _ (List.mem_singleton.2 rfl)) (rowP_stab _) ?_
  refine V.persAs [(56,true)] [rowP (rowI sx4 (sA4 g))] (rowP (rowI sx4 (sA4 g))) kq (fun k hk=>⟨_,List.mem_singleton.2 rfl,hk⟩) (fun w hw=>hw _ (List.mem_singleton.2 rfl)) (rowP_stab _) ?_
  refine V.persAs [(58,true)] [rowP (rowT sx4 (sA4 g))] (rowP (rowT sx4 (sA4 g))) kq (fun k hk=>⟨_,List.mem_singleton.2 rfl,hk⟩) (fun w hw=>hw _ (List.mem_singleton.2 rfl)) (rowP_stab _) ?_
  refine V.persAs [(6,true)] [rowP (rowF sx4 D3)] (rowP (rowF sx4 D3)) kq (fun k hk=>⟨_,List.mem_singleton.2 rfl,hk⟩) (fun w hw=>hw _ (List.mem_singleton.2 rfl)) (rowP_stab _) ?_
  refine V.persAs [(8,true)] [rowP (rowI sx4 D3)] (rowP (rowI sx4 D3)) kq (fun k hk=>⟨_,List.mem_singleton.2 rfl,hk⟩) (fun w hw=>hw _ (List.mem_singleton.2 rfl)) (rowP_stab _) ?_
  refine V.persAs [(10,true)] [rowP (rowT sx4 D3)] (rowP (rowT sx4 D3)) kq (fun k hk=>⟨_,List.mem_singleton.2 rfl,hk⟩) (fun w hw=>hw _ (List.mem_singleton.2 rfl)) (rowP_stab _) ?_
  refine V.persAs [(6,true)] [rowP (rowF sx4 P3)] (rowP (rowF sx4 P3)) kq (fun k hk=>⟨_,List.mem_singleton.2 rfl,hk⟩) (fun w hw=>hw _ (List.mem_singleton.2 rfl)) (rowP_stab _) ?_
  refine V.persAs [(8,true)] [rowP (rowI sx4 P3)] (rowP (rowI sx4 P3)) kq (fun k hk=>⟨_,List.mem_singleton.2 rfl,hk⟩) (fun w hw=>hw _ (List.mem_singleton.2 rfl)) (rowP_stab _) ?_
  refine V.persAs [(10,true)] [rowP (rowT sx4 P3)] (rowP (rowT sx4 P3)) kq (fun k hk=>⟨_,List.mem_singleton.2 rfl,hk⟩) (fun w hw=>hw _ (List.mem_singleton.2 rfl)) (rowP_stab _) ?_
  refine V.runT [⟨sSame2 sx4 (sA4 g) P3 D3 sx4_okL,[65,66,67,68,69,70,62,63,64]⟩] [((false = false) → (([.agg (inV sx4 D3),.agg (inV sx4 (sA4 g))] : List CV) = [.agg (inV sx4 D3),.agg (inV sx4 (sA4 g))] ∨ ([.agg (inV sx4 D3),.agg (inV sx4 (sA4 g))] : List CV) = [.agg (inV sx4 P3),.agg (inV sx4 (sA4 g))])),((false = false) → (([.agg (inV sx4 P3),.agg (inV sx4 (sA4 g))] : List CV) = [.agg (inV sx4 D3),.agg (inV sx4 (sA4 g))] ∨ ([.agg (inV sx4 P3),.agg (inV sx4 (sA4 g))] : List CV) = [.agg (inV sx4 P3),.agg (inV sx4 (sA4 g))]))] kq kq ⟨fun _=>.inl rfl,fun _=>.inr rfl⟩ ?_
  refine V.known 176 false false kq rfl ?_
  refine V.q ?_
  refine V.iter ?_
  exact V.backK [11,101,102] [false,false,false,false,false,false,false,false,false,false,false,false,false,false,false,false,false,false,false,false,false,false,false,false,false,false,false,false,false,false,false,false,false,false,false,false,false,false,false,false,false,false,false,false,false,false,false,false,false,false,false,false,false,false,false,false,false,false,false,false,false,false,false,false,true,true,true,true,false,false,true] (sane_rest ρ0 w0 g) kq kq
 ·have hin:=left_in' he
  have hlt:=leftOf_push_lt he
  obtain ⟨p,hp,hkey,hval,hb⟩:=snL_mem hin
  obtain ⟨ek,ev,eb⟩:=e
  simp only at hkey hval hlt
  subst hkey hval
  refine V.q ?_
  refine V.entry it 0 gL 7 7 seen snEs _ kq kq (fun ρ a w hS=>hS.objN (n0:=w0.heap.size) (S:=touch ρ0 glbF) 0 kq) hin sn_nodup kq ?_
  refine V.q ?_
  refine V.slotAs 1 (.one (.val (.int .i64 p.1))) (.one (.int .i64 p.1)) kq kq (fun _=>rfl) ?_
  refine V.slotAs 46 (.one (.val (.int .i64 p.1))) (.one (.int .i64 p.1)) kq kq (fun _=>rfl) ?_
  refine V.slotAs 2 (.one (.val (.string ⟨p.2.toArray⟩))) (.one (.str p.2)) kq kq (fun _=>rfl) ?_
  refine V.q ?_
  refine V.callK [] (snN p hp) kq kq kq (fun _=>kq) (fun _ _=>?_)
  refine V.q ?_
  refine V.callK [] (snR p hp) kq kq kq (fun _=>kq) (fun _ _=>?_)
  refine V.q ?_
  refine V.known 77 (((((0 : Int) != 0 || !p.2 == p.2) || (0 : Int) != 0) || p.1 != p.1) || (p.2.length : Int) != (p.2.length : Int)) false kq (by simp) ?_
  refine V.q ?_
  refine V.iter ?_
  exact V.back [39] [] [0] [true,true] (ih (seen.push eb) trivial hlt) kq kq
def inB (l : List (In × IA)) : Prop:=l.length ≤ 1000 ∧ ∀ e ∈ l,e.1.f.length ≤ maxLen ∧ e.1.y.length ≤ maxLen
theorem ixA_at (l : List (In × IA)) {i : Nat} (h : i < l.length) : l.getD i ixD ∈ l:=by
 rw [List.getD,List.getElem?_eq_getElem h]
 exact List.getElem_mem _
def slL (l : List (In × IA)) (q : Option Addr) (c : Nat) (i : Nat) : St :=
 { n:=19,slots:=[(0,.v (.one (.row 0 q l.length c))),(1,.v (.one (.fn 52 []))),(7,.v (.one (.int .i64 (l.length : Int)))),(8,.v (.one (.int .i64 (i : Int))))],gs:=[],heap:=[],next:=0,rows:=[(0,ixRow l q c false)],nr:=1,pers:=[rowP (ixRow l q c false),insP l],wr:=true,fx:=0 }
set_option maxHeartbeats 2000000 in
theorem cSlimL88 (l : List (In × IA)) (q : Option Addr) (c : Nat) (hl : inB l) : CallsK Tryz.prog 88 [.one (.val (.slice q l.length c)),.one (.fn 52 [])] (stP [rowP (ixRow l q c false),insP l]) (fun k : Int=>k < 0 → ∀ e ∈ l,e.1.okL) (fun k=>.v (.one (.int .i64 k))) (fun _=>noF):=by
 obtain ⟨hl1,hl2⟩:=hl
 refine CallsK.mk true Tryz.func88 kq kq (fun ρ0 w0=>?_)
 refine V.asRow 0 0 (ixRow l q c false) kq kq kq rfl ?_
 refine V.q ?_
 refine V.loopK [0,1,7,8] [true,true] (fun i : Nat=>l.length - i) (slL l q c) (fun i=>i ≤ l.length ∧ ∀ j,j < i → (l.getD j ixD).1.okL) 0 kq ⟨Nat.zero_le _,fun j hj=>absurd hj (Nat.not_lt_zero j)⟩ (fun i hi ih=>?_)
 obtain ⟨hi,hj⟩:=hi
 refine V.q ?_
 refine V.branch 9 (decide ((i : Int) < (l.length : Int))) kq (fun hc=>?_) (fun hc=>?_)
 ·have hlt : i < l.length:=by simpa using hc
  have hm:=ixA_at l hlt
  refine V.runT [] [(0 : Int) ≤ i ∧ (i : Int) < l.length] kq kq ⟨by omega,by omega⟩ ?_
  refine V.pickP 1 (l.map fun e=>manyP (lsP e.1 e.2)) (manyP (lsP (l.getD i ixD).1 (l.getD i ixD).2)) kq (List.mem_map.2 ⟨_,hm,rfl⟩) (manyP_stab (lsP_stab _ _)) ?_
  refine V.pickP 0 (lsP (l.getD i ixD).1 (l.getD i ixD).2) (rowP (rowF (l.getD i ixD).1 (l.getD i ixD).2)) kq (List.mem_cons_self ..) (rowP_stab _) ?_
  refine V.pickP 1 (lsP (l.getD i ixD).1 (l.getD i ixD).2) (rowP (rowI (l.getD i ixD).1 (l.getD i ixD).2)) kq (List.mem_cons_of_mem _ (List.mem_cons_self ..)) (rowP_stab _) ?_
  refine V.pickP 2 (lsP (l.getD i ixD).1 (l.getD i ixD).2) (rowP (rowT (l.getD i ixD).1 (l.getD i ixD).2)) kq (List.mem_cons_of_mem _ (List.mem_cons_of_mem _ (List.mem_cons_self ..))) (rowP_stab _) ?_
  refine V.callK [(2,false),(1,false),(0,false)] (cSlimF (l.getD i ixD).1 (l.getD i ixD).2 (hl2 _ hm).1 (hl2 _ hm).2) kq kq kq (fun _=>kq) (fun b hb=>?_)
  refine V.q ?_
  refine V.branch 16 b kq (fun hh=>?_) (fun hh=>?_)
  ·refine V.q ?_
   exact V.retK (i : Int) [] kq kq kq (fun h=>by omega)
  ·refine V.q ?_
   refine V.slotAs 8 (.one (.int .i64 (IntKind.i64.wrap ((i : Int) + 1)))) (.one (.int .i64 ((i + 1 : Nat) : Int))) kq kq (fun _=>by rw [wrap_up (by omega)]) ?_
   refine V.againK [0,1,7,8] [false,false,false,false,true,true] (ih (i + 1) ⟨hlt,fun j hj'=>?_⟩ (by omega)) kq kq
   by_cases e : j < i
   ·exact hj j e
   ·have e : j = i:=by omega
    subst e
    exact hb hh
 ·have hle : i = l.length:=by simp at hc; omega
  refine V.q ?_
  exact V.retK (-1 : Int) [] kq kq kq (fun _ e he=>by
   obtain ⟨j,hj',rfl⟩:=List.getElem_of_mem he
   have:=hj j (by omega)
   rwa [List.getD,List.getElem?_eq_getElem hj'] at this)
theorem cSlimL51 (l : List (In × IA)) (q : Option Addr) (c : Nat) (hl : inB l) : CallsK Tryz.prog 51 [.one (.val (.slice q l.length c)),.one (.fn 52 [])] (stP [rowP (ixRow l q c false),insP l]) (fun k : Int=>k < 0 → ∀ e ∈ l,e.1.okL) (fun k=>.v (.one (.sb (decide (k ≥ 0))))) (fun _=>noF):=by
 refine CallsK.mk true Tryz.func51 kq kq (fun ρ0 w0=>?_)
 refine V.q ?_
 refine V.callK [(0,false),(1,false)] (cSlimL88 l q c hl) kq kq kq (fun _=>kq) (fun b hb=>?_)
 refine V.q ?_
 exact V.retK (b : Int) [] kq kq kq hb
theorem cSlimL (l : List (In × IA)) (q : Option Addr) (c : Nat) (hl : inB l) : CallsK Tryz.prog 15 [.one (.val (.slice q l.length c))] (stP [rowP (ixRow l q c false),insP l]) (fun b : Bool=>b = true → ∀ e ∈ l,e.1.okL) (fun b=>.v (.one (.sb b))) (fun _=>noF):=by
 refine CallsK.mk true Tryz.func15 kq kq (fun ρ0 w0=>?_)
 refine V.q ?_
 refine V.callK [(0,false),(1,false)] (cSlimL51 l q c hl) kq kq kq (fun _=>kq) (fun b hb=>?_)
 refine V.q ?_
 exact V.retK (!(decide (b ≥ 0)) : Bool) [] kq kq kq (fun h=>hb (by simp at h; omega))
theorem xPlacesNo (rl : List (Int × Int)) (X : RIn) (hX : X.n = rl.length) (hl : rl.length ≤ 1000000000) (hs : X.s.length ≤ 100000000) (pr rg : Int) (h : vdS rl X pr rg = none) :
  CallsK Tryz.prog 31 [modC pr rg X] (psOf [glbP,rowP (relRow rl X.q X.c)]) (fun _ : Unit=>True) (fun _=>.tup [.one (.val (.slice none 0 0)),.one (.int .i64 221)]) (fun _=>noF):=by
 refine CallsK.mk true Tryz.func31 kq kq (fun ρ w=>?_)
 refine V.q ?_
 refine V.drawX [] [] 10 kq ?_
 refine @VX.run _ [] [] 10 _ _ ([] : List (Ent Tryz.prog)) [] kq kq trivial ?_
 refine @VX.callK _ [] [] 10 _ _ Kc 58 [] glbF _ _ _ [(0,false)] cNew0 kq kq kq (fun _=>kq) (fun K hK=>?_)
 refine @VX.run _ [] [] 10 _ _ ([] : List (Ent Tryz.prog)) [] kq kq trivial ?_
 refine @VX.callK _ [] [] 10 _ _ (Option TK) 71 [.agg [.val (.map (some K.gF)),.val (.map (some K.gO))],modC pr rg X] (psOf [cdP K,rowP (relRow rl X.q X.c)]) _ _ _ [(0,true),(2,false)] (cValid K hK rl X hX hl hs pr rg) kq kq kq (fun t=>by cases t <;> kernel_rfl) (fun t ht=>?_)
 unfold tkPc at ht
 rw [h] at ht
 have ht' : t = none:=ht.1
 subst ht'
 refine @VX.run _ [] [] 10 _ _ ([] : List (Ent Tryz.prog)) [] kq kq trivial ?_
 refine @VX.stop _ [] [] 10 _ _ kq ?_
 refine V.q ?_
 refine V.known 15 (!false) true kq rfl ?_
 refine V.q ?_
 exact V.z
noncomputable def aShort : Con Tryz.prog:=Con.auto Tryz.func28 true [] [] kq kq
def ixC (l : List (In × IA)) (q : Option Addr) (c : Nat) : List Pers:=[rowP (ixRow l q c false),insP l]
theorem cLight (g : Int) (l : List (In × IA)) (q : Option Addr) (c : Nat) (hl : ∀ e ∈ l,e.1.f.length ≤ maxLen ∧ e.1.y.length ≤ maxLen) : CallsK Tryz.prog 45 [.agg [.int .i64 g,.val (.slice q l.length c)]] (stP (ixC l q c)) (fun b : Bool=>b = true → l.length ≤ 1000 ∧ ∀ e ∈ l,e.1.okL) (fun b=>.v (.one (.sb b))) (fun _=>noF):=by
 refine CallsK.mk true Tryz.func45 kq kq (fun ρ0 w0=>?_)
 refine V.q ?_
 by_cases h : l.length ≤ 1000
 ·refine V.settle 7 true (decide ((l.length : Int) ≤ 1000)) kq (by simpa using (by omega : (l.length : Int) ≤ 1000)) ?_
  refine V.callK [(0,false),(1,false)] (cSlimL l q c ⟨h,hl⟩) kq kq kq (fun _=>kq) (fun b hb=>?_)
  refine V.q ?_
  exact V.retK (b : Bool) [] kq kq kq (fun hh=>⟨h,hb hh⟩)
 ·refine V.settle 7 false (decide ((l.length : Int) ≤ 1000)) kq (by simpa using (by omega : (l.length : Int) > 1000)) ?_
  refine V.q ?_
  refine V.slotAs 2 (.one (.bool false)) (.one (.sb false)) kq kq (fun _=>rfl) ?_
  exact V.retK (false : Bool) [] kq kq kq (fun hh=>by cases hh)
def kcB (K : Kc) : Blk:=⟨[.val (.map (some K.gF)),.val (.map (some K.gO))],110,true⟩
def kcF (K : Kc) (ps : List Pers) : St:={ n:=0,slots:=[],gs:=[],heap:=[(0,⟨[.val (.map (some K.gF)),.val (.map (some K.gO))],110,true⟩)],next:=1,rows:=[],nr:=0,pers:=ps,wr:=false }
theorem cNotFine (K : Kc) (hK : K.ok) (x : In) (A : IA) (hx : x.okL) : CallsK Tryz.prog 85 [.agg (inV x A),.one (.ptr 0 0)] (kcF K (cdP K :: lsP x A)) (fun _ : Unit=>True) (fun _=>.v (.one (.sb (!(cFine x))))) (fun _=>kcF K []):=by
 refine CallsK.mk true Tryz.func85 kq kq (fun ρ0 w0=>?_)
 refine V.q ?_
 refine V.callK [(0,false),(1,false),(2,false),(3,false)] (cFineK K hK x A hx) kq kq kq (fun _=>kq) (fun _ _=>?_)
 refine V.q ?_
 exact V.z
def oaSt (K : Kc) (l : List (In × IA)) (q : Option Addr) (c : Nat) (i : Nat) : St :=
 { n:=19,slots:=[(0,.v (.one (.row 0 q l.length c))),(1,.v (.one (.fn 85 [0]))),(7,.v (.one (.int .i64 (l.length : Int)))),(8,.v (.one (.int .i64 (i : Int))))],gs:=[],heap:=[(0,kcB K)],next:=1,rows:=[(0,ixRow l q c false)],nr:=1,pers:=[cdP K,rowP (ixRow l q c false),insP l],wr:=true,fx:=1 }
set_option maxHeartbeats 2000000 in
theorem cAll88 (K : Kc) (hK : K.ok) (l : List (In × IA)) (q : Option Addr) (c : Nat) (hl1 : l.length ≤ 1000) (hl2 : ∀ e ∈ l,e.1.okL) : CallsK Tryz.prog 88 [.one (.val (.slice q l.length c)),.one (.fn 85 [0])] (kcF K (cdP K :: ixC l q c)) (fun k : Int=>decide (k ≥ 0) = !(l.all fun e=>cFine e.1)) (fun k=>.v (.one (.int .i64 k))) (fun _=>kcF K []):=by
 refine CallsK.mk true Tryz.func88 kq kq (fun ρ0 w0=>?_)
 refine V.asRow 0 1 (ixRow l q c false) kq kq kq rfl ?_
 refine V.q ?_
 refine V.loopK [0,1,7,8] [true,true,true] (fun i : Nat=>l.length - i) (oaSt K l q c) (fun i=>i ≤ l.length ∧ ∀ j,j < i → cFine (l.getD j ixD).1 = true) 0 kq ⟨Nat.zero_le _,fun j hj=>absurd hj (Nat.not_lt_zero j)⟩ (fun i hi ih=>?_)
 obtain ⟨hi,hj⟩:=hi
 refine V.q ?_
 refine V.branch 9 (decide ((i : Int) < (l.length : Int))) kq (fun hc=>?_) (fun hc=>?_)
 ·have hlt : i < l.length:=by simpa using hc
  have hm:=ixA_at l hlt
  refine V.runT [] [(0 : Int) ≤ i ∧ (i : Int) < l.length] kq kq ⟨by omega,by omega⟩ ?_
  refine V.pickP 2 (l.map fun e=>manyP (lsP e.1 e.2)) (manyP (lsP (l.getD i ixD).1 (l.getD i ixD).2)) kq (List.mem_map.2 ⟨_,hm,rfl⟩) (manyP_stab (lsP_stab _ _)) ?_
  refine V.pickP 0 (lsP (l.getD i ixD).1 (l.getD i ixD).2) (rowP (rowF (l.getD i ixD).1 (l.getD i ixD).2)) kq (List.mem_cons_self ..) (rowP_stab _) ?_
  refine V.pickP 1 (lsP (l.getD i ixD).1 (l.getD i ixD).2) (rowP (rowI (l.getD i ixD).1 (l.getD i ixD).2)) kq (List.mem_cons_of_mem _ (List.mem_cons_self ..)) (rowP_stab _) ?_
  refine V.pickP 2 (lsP (l.getD i ixD).1 (l.getD i ixD).2) (rowP (rowT (l.getD i ixD).1 (l.getD i ixD).2)) kq (List.mem_cons_of_mem _ (List.mem_cons_of_mem _ (List.mem_cons_self ..))) (rowP_stab _) ?_
  refine V.callK [(4,false),(2,false),(1,false),(0,false)] (cNotFine K hK (l.getD i ixD).1 (l.getD i ixD).2 (hl2 _ hm)) kq kq kq (fun _=>kq) (fun _ _=>?_)
  refine V.q ?_
  refine V.branch 16 (!(cFine (l.getD i ixD).1)) kq (fun hh=>?_) (fun hh=>?_)
  ·refine V.q ?_
   exact V.retK (i : Int) [] kq kq kq (by
    have : (l.all fun e=>cFine e.1) = false:=List.all_eq_false.2 ⟨_,hm,by simpa using hh⟩
    rw [this]; simp)
  ·refine V.q ?_
   refine V.slotAs 8 (.one (.int .i64 (IntKind.i64.wrap ((i : Int) + 1)))) (.one (.int .i64 ((i + 1 : Nat) : Int))) kq kq (fun _=>by rw [wrap_up (by omega)]) ?_
   refine V.againK [0,1,7,8] [false,false,false,false,true,true,true] (ih (i + 1) ⟨hlt,fun j hj'=>?_⟩ (by omega)) kq kq
   by_cases e : j < i
   ·exact hj j e
   ·have e : j = i:=by omega
    subst e
    simpa using hh
 ·have hle : i = l.length:=by simp at hc; omega
  refine V.q ?_
  exact V.retK (-1 : Int) [] kq kq kq (by
   have : (l.all fun e=>cFine e.1) = true:=List.all_eq_true.2 (fun e he=>by
    obtain ⟨j,hj',rfl⟩:=List.getElem_of_mem he
    have:=hj j (by omega)
    rwa [List.getD,List.getElem?_eq_getElem hj'] at this)
   rw [this]; rfl)
theorem cAll51 (K : Kc) (hK : K.ok) (l : List (In × IA)) (q : Option Addr) (c : Nat) (hl1 : l.length ≤ 1000) (hl2 : ∀ e ∈ l,e.1.okL) : CallsK Tryz.prog 51 [.one (.val (.slice q l.length c)),.one (.fn 85 [0])] (kcF K (cdP K :: ixC l q c)) (fun b : Bool=>b = !(l.all fun e=>cFine e.1)) (fun b=>.v (.one (.sb b))) (fun _=>kcF K []):=by
 refine CallsK.mk true Tryz.func51 kq kq (fun ρ0 w0=>?_)
 refine V.q ?_
 refine V.callK [(0,false),(1,false),(2,false)] (cAll88 K hK l q c hl1 hl2) kq kq kq (fun _=>kq) (fun k hk=>?_)
 refine V.q ?_
 exact V.retK (decide (k ≥ 0) : Bool) [] kq kq kq hk
theorem wrap_in {a : Int} (h : 0 ≤ a) (h' : a ≤ 4000000000000000000) : IntKind.i64.wrap a = a:=by
 simp [IntKind.wrap,IntKind.bits,IntKind.signed]; omega
structure OfI where
 i : Nat
 os : List Int
 q : Option Addr
 c : Nat
noncomputable def o8St (K : Kc) (l : List (In × IA)) (q : Option Addr) (c : Nat) (j : OfI) : St :=
 { n:=37,slots:=[(2,.v (.one (.ptr 0 0))),(5,.v (.one (.row 0 j.q j.os.length j.c))),(11,.v (.one (.row 1 q l.length c))),(12,.v (.one (.int .i64 (l.length : Int)))),(13,.v (.one (.int .i64 (j.i : Int))))],gs:=[],heap:=[(0,kcB K)],next:=1,
    rows:=[(0,rowL intv 0 j.os j.q j.c 3 1 true),(1,ixRow l q c false)],nr:=2,pers:=[cdP K,rowP (ixRow l q c false),insP l],wr:=true,fx:=0 }
set_option maxHeartbeats 2000000 in
theorem cOffs (K : Kc) (hK : K.ok) (l : List (In × IA)) (q : Option Addr) (c : Nat) (hl1 : l.length ≤ 1000) (hl2 : ∀ e ∈ l,e.1.okL) (hfin : ∀ e ∈ l,cFine e.1 = true) :
  CallsK Tryz.prog 86 [.agg [.val (.map (some K.gF)),.val (.map (some K.gO))],.one (.val (.slice q l.length c))] (stP (cdP K :: ixC l q c)) (fun _ : Option Addr × Nat=>True) (fun qc=>.v (.one (.row 0 qc.1 (offL l l.length).length qc.2)))
   (fun qc=>{ noF with rows:=[(0,rowL intv 0 (offL l l.length) qc.1 qc.2 3 1 true)],nr:=1 }):=by
 refine CallsK.mk true Tryz.func86 kq kq (fun ρ w=>?_)
 refine V.asRow 1 1 (ixRow l q c false) kq kq kq rfl ?_
 refine V.q ?_
 refine V.rowB intv 0 [0] 3 1 1 kq intv_len intv_plain (by decide) (fun g=>kq) (fun g=>?_)
 refine V.slotRow 5 1 (rowL intv 0 [0] (some ⟨g,0,none⟩) 1 3 1 true) kq kq kq ?_
 refine V.loopK [2,5,11,12,13] [true,true,true] (fun j : OfI=>l.length - j.i) (o8St K l q c) (fun j=>j.i ≤ l.length ∧ j.os = offL l j.i) ⟨0,[0],some ⟨g,0,none⟩,1⟩ kq ⟨Nat.zero_le _,rfl⟩ (fun j hj ih=>?_)
 obtain ⟨i,os,q1,c1⟩:=j
 obtain ⟨hj,hos⟩:=hj
 simp only at hj hos ih
 refine V.q ?_
 refine V.branch 14 (decide ((i : Int) < (l.length : Int))) kq (fun hc=>?_) (fun hc=>?_)
 ·have hlt : i < l.length:=by simpa using hc
  have hm:=ixA_at l hlt
  have hfi:=cFine_ok (hfin _ hm)
  have hen:=cEnc_ok (hfin _ hm)
  have hob:=offAt_le hfin i (by omega)
  have hol : os.length = i + 1:=by rw [hos]; exact offL_len l i
  have hoa : os.getD i 0 = offAt l i:=by rw [hos]; exact offL_at l (Nat.le_refl _)
  have ew : IntKind.i64.wrap ((os.length : Int) - 1) = (i : Int):=by rw [hol]; simp [IntKind.wrap,IntKind.bits,IntKind.signed]; omega
  refine V.runT [] [(0 : Int) ≤ i ∧ (i : Int) < l.length] kq kq ⟨by omega,by omega⟩ ?_
  refine V.pickP 2 (l.map fun e=>manyP (lsP e.1 e.2)) (manyP (lsP (l.getD i ixD).1 (l.getD i ixD).2)) kq (List.mem_map.2 ⟨_,hm,rfl⟩) (manyP_stab (lsP_stab _ _)) ?_
  refine V.pickP 0 (lsP (l.getD i ixD).1 (l.getD i ixD).2) (rowP (rowF (l.getD i ixD).1 (l.getD i ixD).2)) kq (List.mem_cons_self ..) (rowP_stab _) ?_
  refine V.pickP 1 (lsP (l.getD i ixD).1 (l.getD i ixD).2) (rowP (rowI (l.getD i ixD).1 (l.getD i ixD).2)) kq (List.mem_cons_of_mem _ (List.mem_cons_self ..)) (rowP_stab _) ?_
  refine V.pickP 2 (lsP (l.getD i ixD).1 (l.getD i ixD).2) (rowP (rowT (l.getD i ixD).1 (l.getD i ixD).2)) kq (List.mem_cons_of_mem _ (List.mem_cons_of_mem _ (List.mem_cons_self ..))) (rowP_stab _) ?_
  refine V.callK [(4,false),(2,false),(1,false),(0,false)] (cEncode K hK (l.getD i ixD).1 (l.getD i ixD).2 (hl2 _ hm) hfi.1 hfi.2) kq kq kq (fun _=>kq) (fun qc _=>?_)
  refine V.runT [] [(0 : Int) ≤ IntKind.i64.wrap ((os.length : Int) - 1) ∧ IntKind.i64.wrap ((os.length : Int) - 1) < (os.length : Int)] kq kq (show _ ∧ _ by rw [ew,hol]; omega) ?_
  refine V.cellAs 2 0 ⟨[.int .i64 (IntKind.i64.wrap (os.getD (IntKind.i64.wrap ((os.length : Int) - 1)).toNat 0 + ((cEnc (l.getD i ixD).1).1.length : Int)))],3,true⟩ (.int .i64 (IntKind.i64.wrap (os.getD (IntKind.i64.wrap ((os.length : Int) - 1)).toNat 0 + ((cEnc (l.getD i ixD).1).1.length : Int)))) (.int .i64 (offAt l (i + 1))) kq rfl kq (fun _=>by
   rw [ew,Int.toNat_natCast,hoa]
   show Value.int .i64 (offAt l i + ((cEnc (l.getD i ixD).1).1.length : Int)) = .int .i64 (IntKind.i64.wrap (offAt l i + ((cEnc (l.getD i ixD).1).1.length : Int)))
   have : IntKind.i64.wrap (offAt l i + ((cEnc (l.getD i ixD).1).1.length : Int)) = offAt l i + ((cEnc (l.getD i ixD).1).1.length : Int):=wrap_in (by omega) (by omega)
   rw [this]) ?_
  refine V.push intv 0 os (offAt l (i + 1)) 0 q1 c1 3 1 [.int .i64 (offAt l (i + 1))] 8 kq (by omega) rfl (fun _ _=>kq) (fun q2 c2=>?_)
  refine V.q ?_
  refine V.slotAs 13 (.one (.int .i64 (IntKind.i64.wrap ((i : Int) + 1)))) (.one (.int .i64 ((i + 1 : Nat) : Int))) kq kq (fun _=>by rw [wrap_up (by omega)]) ?_
  refine V.againK [2,5,11,12,13] [false,false,false,false,true,true,true] (ih ⟨i + 1,os ++ [offAt l (i + 1)],q2,c2⟩ ⟨hlt,by simp only; rw [hos,offL_next]⟩ (by simp only; omega)) kq kq
 ·have hle : i = l.length:=by simp at hc; omega
  subst hle
  subst hos
  refine V.q ?_
  exact V.retK ((q1,c1) : Option Addr × Nat) [] kq kq kq trivial
def oaS (l : List (In × IA)) : List Int × Int:=if (l.all fun e=>cFine e.1) = true then (if offAt l l.length > 1048576 then ([],2) else (offL l l.length,0)) else ([],170)
set_option maxHeartbeats 2000000 in
theorem cOffsets (g : Int) (l : List (In × IA)) (q : Option Addr) (c : Nat) (hl1 : l.length ≤ 1000) (hl2 : ∀ e ∈ l,e.1.okL) :
  CallsK Tryz.prog 46 [.agg [.int .i64 g,.val (.slice q l.length c)]] (stP (glbP :: ixC l q c)) (fun _ : Option Addr × Nat=>True) (fun qc=>.tup [.one (.val (.slice qc.1 (oaS l).1.length qc.2)),.one (.int .i64 (oaS l).2)])
   (fun qc=>psOf [rowP (rowL intv 0 (oaS l).1 qc.1 qc.2 3 1 false)]):=by
 cases hall : (l.all fun e=>cFine e.1) with
 | false =>
  have e : oaS l = ([],170):=by unfold oaS; rw [hall]; rfl
  rw [e]
  refine CallsK.mk true Tryz.func46 kq kq (fun ρ w=>?_)
  refine V.q ?_
  refine V.callK [(0,false)] cNew0 kq kq kq (fun _=>kq) (fun K hK=>?_)
  refine V.q ?_
  refine V.callK [(0,true),(2,false),(3,false)] (cAll51 K hK l q c hl1 hl2) kq kq kq (fun _=>kq) (fun b hb=>?_)
  refine V.q ?_
  refine V.known 10 b true kq (by rw [hb,hall]; rfl) ?_
  refine V.q ?_
  refine V.persNew [] [] (rowP (rowL intv 0 [] none 0 3 1 false)) kq kq (fun k hk=>absurd hk ((row_none (R:=rowL intv 0 [] none 0 3 1 false) rfl rfl rfl).1 k)) (fun w _=>(row_none (R:=rowL intv 0 [] none 0 3 1 false) rfl rfl rfl).2 w) (rowP_stab _) ?_
  exact V.retK ((none,0) : Option Addr × Nat) [(0,true)] kq kq kq trivial
 | true =>
  have hfin : ∀ e ∈ l,cFine e.1 = true:=fun e he=>List.all_eq_true.1 hall e he
  have hend:=offL_at l (Nat.le_refl l.length)
  have hlen:=offL_len l l.length
  by_cases hbig : offAt l l.length > 1048576
  ·have e : oaS l = ([],2):=by unfold oaS; rw [if_pos hall,if_pos hbig]
   rw [e]
   refine CallsK.mk true Tryz.func46 kq kq (fun ρ w=>?_)
   refine V.q ?_
   refine V.callK [(0,false)] cNew0 kq kq kq (fun _=>kq) (fun K hK=>?_)
   refine V.q ?_
   refine V.callK [(0,true),(2,false),(3,false)] (cAll51 K hK l q c hl1 hl2) kq kq kq (fun _=>kq) (fun b hb=>?_)
   refine V.q ?_
   refine V.known 10 b false kq (by rw [hb,hall]; rfl) ?_
   refine V.q ?_
   refine V.callK [(0,true),(2,false),(3,false)] (cOffs K hK l q c hl1 hl2 hfin) kq kq kq (fun _=>kq) (fun qc _=>?_)
   refine V.runT [] [(0 : Int) ≤ (l.length : Int) ∧ (l.length : Int) < ((offL l l.length).length : Int)] kq kq (show _ ∧ _ by rw [hlen]; omega) ?_
   refine V.known 21 (decide ((offL l l.length).getD (l.length : Int).toNat 0 > 1048576)) true kq (by rw [Int.toNat_natCast,hend]; simpa using hbig) ?_
   refine V.q ?_
   refine V.persNew [] [] (rowP (rowL intv 0 [] none 0 3 1 false)) kq kq (fun k hk=>absurd hk ((row_none (R:=rowL intv 0 [] none 0 3 1 false) rfl rfl rfl).1 k)) (fun w _=>(row_none (R:=rowL intv 0 [] none 0 3 1 false) rfl rfl rfl).2 w) (rowP_stab _) ?_
   exact V.retK ((none,0) : Option Addr × Nat) [(0,true)] kq kq kq trivial
  ·have e : oaS l = (offL l l.length,0):=by unfold oaS; rw [if_pos hall,if_neg hbig]
   rw [e]
   refine CallsK.mk true Tryz.func46 kq kq (fun ρ w=>?_)
   refine V.q ?_
   refine V.callK [(0,false)] cNew0 kq kq kq (fun _=>kq) (fun K hK=>?_)
   refine V.q ?_
   refine V.callK [(0,true),(2,false),(3,false)] (cAll51 K hK l q c hl1 hl2) kq kq kq (fun _=>kq) (fun b hb=>?_)
   refine V.q ?_
   refine V.known 10 b false kq (by rw [hb,hall]; rfl) ?_
   refine V.q ?_
   refine V.callK [(0,true),(2,false),(3,false)] (cOffs K hK l q c hl1 hl2 hfin) kq kq kq (fun _=>kq) (fun qc _=>?_)
   refine V.runT [] [(0 : Int) ≤ (l.length : Int) ∧ (l.length : Int) < ((offL l l.length).length : Int)] kq kq (show _ ∧ _ by rw [hlen]; omega) ?_
   refine V.known 21 (decide ((offL l l.length).getD (l.length : Int).toNat 0 > 1048576)) false kq (by rw [Int.toNat_natCast,hend]; simpa using hbig) ?_
   refine V.q ?_
   refine V.freeze 0 (rowL intv 0 (offL l l.length) qc.1 qc.2 3 1 true) kq kq ?_
   exact V.retK (qc : Option Addr × Nat) [(0,true)] kq kq kq trivial
def stL (l : List In) (p : List Int) : Nat → List (Int × Int)
 | 0=>[]
 | i + 1=>if (l.getD i zeroI).op = 1 then stL l p i ++ [(p.getD i 0,(l.getD i zeroI).n)] else stL l p i
theorem stL_len (l : List In) (p : List Int) : ∀ i,(stL l p i).length ≤ i
 | 0=>Nat.le_refl _
 | i + 1=>by
  have:=stL_len l p i
  unfold stL
  split
  ·rw [List.length_append]; simp; omega
  ·omega
theorem mapD (l : List (In × IA)) (i : Nat) : (l.map (·.1)).getD i zeroI = (l.getD i ixD).1:=by
 rw [List.getD,List.getD,List.getElem?_map]
 cases l[i]? <;> rfl
theorem xStopsNo (rl : List (Int × Int)) (X : RIn) (hX : X.n = rl.length) (hl : rl.length ≤ 1000000000) (hs : X.s.length ≤ 100000000) (pr rg : Int) (h : vdS rl X pr rg = none) :
  CallsK Tryz.prog 47 [modC pr rg X] (psOf [glbP,rowP (relRow rl X.q X.c)]) (fun _ : Unit=>True) (fun _=>.tup [.one (.val (.slice none 0 0)),.one (.int .i64 221)]) (fun _=>noF):=by
 refine CallsK.mk true Tryz.func47 kq kq (fun ρ w=>?_)
 refine V.q ?_
 refine V.drawX [] [] 10 kq ?_
 refine @VX.run _ [] [] 10 _ _ ([] : List (Ent Tryz.prog)) [] kq kq trivial ?_
 refine @VX.callK _ [] [] 10 _ _ Kc 58 [] glbF _ _ _ [(0,false)] cNew0 kq kq kq (fun _=>kq) (fun K hK=>?_)
 refine @VX.run _ [] [] 10 _ _ ([] : List (Ent Tryz.prog)) [] kq kq trivial ?_
 refine @VX.callK _ [] [] 10 _ _ (Option TK) 71 [.agg [.val (.map (some K.gF)),.val (.map (some K.gO))],modC pr rg X] (psOf [cdP K,rowP (relRow rl X.q X.c)]) _ _ _ [(0,true),(2,false)] (cValid K hK rl X hX hl hs pr rg) kq kq kq (fun t=>by cases t <;> kernel_rfl) (fun t ht=>?_)
 unfold tkPc at ht
 rw [h] at ht
 have ht' : t = none:=ht.1
 subst ht'
 refine @VX.run _ [] [] 10 _ _ ([] : List (Ent Tryz.prog)) [] kq kq trivial ?_
 refine @VX.stop _ [] [] 10 _ _ kq ?_
 refine V.q ?_
 refine V.known 18 (!false) true kq rfl ?_
 refine V.q ?_
 exact V.z
structure StI where
 i : Nat
 s : List (Int × Int)
 q : Option Addr
 c : Nat
noncomputable def stSt (l : List (In × IA)) (q : Option Addr) (c : Nat) (p : List Int) (q' : Option Addr) (c' : Nat) (ps : List Pers) (j : StI) : St :=
 { n:=41,slots:=[(5,.v (.one (.row 0 q' p.length c'))),(7,.v (.one (.row 1 j.q j.s.length j.c))),(19,.v (.one (.row 2 q l.length c))),(20,.v (.one (.int .i64 (l.length : Int)))),(21,.v (.one (.int .i64 (j.i : Int))))],gs:=[],heap:=[],next:=0,
    rows:=[(0,rowL intv 0 p q' c' 3 1 false),(1,rowL rlv (0,0) j.s j.q j.c 83 2 true),(2,ixRow l q c false)],nr:=3,pers:=ps,wr:=true,fx:=0 }
set_option maxHeartbeats 2000000 in
theorem xStops (rl : List (Int × Int)) (X : RIn) (hX : X.n = rl.length) (hl : rl.length ≤ 1000000000) (hs : X.s.length ≤ 100000000) (pr rg : Int) (s : List In × List Int) (h : vdS rl X pr rg = some s) (hsl : s.1.length ≤ 100000000) (hsp : s.2.length = s.1.length + 1) :
  CallsK Tryz.prog 47 [modC pr rg X] (psOf [glbP,rowP (relRow rl X.q X.c)]) (fun _ : Option Addr × Nat=>True) (fun qc=>.tup [.one (.val (.slice qc.1 (stL s.1 s.2 s.1.length).length qc.2)),.one (.int .i64 0)]) (fun qc=>psOf [rowP (rowL rlv (0,0) (stL s.1 s.2 s.1.length) qc.1 qc.2 83 2 false)]):=by
 refine CallsK.mk true Tryz.func47 kq kq (fun ρ w=>?_)
 refine V.q ?_
 refine V.drawX [] [] 10 kq ?_
 refine @VX.run _ [] [] 10 _ _ ([] : List (Ent Tryz.prog)) [] kq kq trivial ?_
 refine @VX.callK _ [] [] 10 _ _ Kc 58 [] glbF _ _ _ [(0,false)] cNew0 kq kq kq (fun _=>kq) (fun K hK=>?_)
 refine @VX.run _ [] [] 10 _ _ ([] : List (Ent Tryz.prog)) [] kq kq trivial ?_
 refine @VX.callK _ [] [] 10 _ _ (Option TK) 71 [.agg [.val (.map (some K.gF)),.val (.map (some K.gO))],modC pr rg X] (psOf [cdP K,rowP (relRow rl X.q X.c)]) _ _ _ [(0,true),(2,false)] (cValid K hK rl X hX hl hs pr rg) kq kq kq (fun t=>by cases t <;> kernel_rfl) (fun t ht=>?_)
 unfold tkPc at ht
 rw [h] at ht
 obtain ⟨t',rfl,h1,h2⟩:=ht.1
 obtain ⟨l,q,c,p,q',c'⟩:=t'
 obtain ⟨s1,s2⟩:=s
 simp only at h1 h2 hsl hsp
 subst h1 h2
 rw [List.length_map] at hsl hsp
 have hll : (l.map (·.1)).length = l.length:=List.length_map ..
 refine @VX.run _ [] [] 10 _ _ ([] : List (Ent Tryz.prog)) [] kq kq trivial ?_
 refine @VX.stop _ [] [] 10 _ _ kq ?_
 refine V.q ?_
 refine V.known 18 (!true) false kq rfl ?_
 refine V.q ?_
 refine V.persAs [(1,true)] [rowP (ixRow l q c false)] (rowP (ixRow l q c false)) kq (fun k hk=>⟨_,List.mem_singleton.2 rfl,hk⟩) (fun w hw=>hw _ (List.mem_singleton.2 rfl)) (rowP_stab _) ?_
 refine V.asRow 19 0 (ixRow l q c false) kq kq kq rfl ?_
 refine V.persAs [(3,true)] [rowP (rowL intv 0 p q' c' 3 1 false)] (rowP (rowL intv 0 p q' c' 3 1 false)) kq (fun k hk=>⟨_,List.mem_singleton.2 rfl,hk⟩) (fun w hw=>hw _ (List.mem_singleton.2 rfl)) (rowP_stab _) ?_
 refine V.asRow 5 0 (rowL intv 0 p q' c' 3 1 false) kq kq kq rfl ?_
 refine V.nilL rlv (0,0) 7 83 2 kq kq ?_
 refine V.loopK [5,7,19,20,21] [] (fun j : StI=>l.length - j.i) (stSt l q c p q' c' []) (fun j=>j.i ≤ l.length ∧ j.s = stL (l.map (·.1)) p j.i) ⟨0,[],none,0⟩ kq ⟨Nat.zero_le _,rfl⟩ (fun j hj ih=>?_)
 obtain ⟨i,st,q1,c1⟩:=j
 obtain ⟨hi,hst⟩:=hj
 simp only at hi hst ih
 have hsl1 : st.length ≤ i:=by rw [hst]; exact stL_len _ _ _
 refine V.q ?_
 refine V.branch 22 (decide ((i : Int) < (l.length : Int))) kq (fun hc=>?_) (fun hc=>?_)
 ·have hlt : i < l.length:=by simpa using hc
  refine V.runT [] [(0 : Int) ≤ i ∧ (i : Int) < l.length] kq kq ⟨by omega,by omega⟩ ?_
  refine V.branch 28 ((l.getD i ixD).1.op == 1) kq (fun hop=>?_) (fun hop=>?_)
  ·refine V.q ?_
   refine V.drawX [] [1] 10 kq ?_
   refine @VX.run _ [] [1] 10 _ _ ([] : List (Ent Tryz.prog)) [(0 : Int) ≤ i ∧ (i : Int) < p.length] kq kq ⟨by omega,by omega⟩ ?_
   refine @VX.push _ [] [1] 10 _ _ _ rlv (0,0) st (p.getD (i : Int).toNat 0,(l.getD i ixD).1.n) 1 q1 c1 83 2 [.int .i64 (p.getD (i : Int).toNat 0),.int .i64 (l.getD i ixD).1.n] 16 kq kq kq (by omega) rfl (fun _ _=>kq) (fun q2 c2=>?_)
   refine @VX.run _ [] [1] 10 _ _ ([] : List (Ent Tryz.prog)) [] kq kq trivial ?_
   refine @VX.stop _ [] [1] 10 _ _ kq ?_
   refine V.q ?_
   refine V.slotAs 21 (.one (.int .i64 (IntKind.i64.wrap ((i : Int) + 1)))) (.one (.int .i64 ((i + 1 : Nat) : Int))) kq kq (fun _=>by rw [wrap_up (by omega)]) ?_
   refine V.againK [5,7,19,20,21] [] (ih ⟨i + 1,st ++ [(p.getD (i : Int).toNat 0,(l.getD i ixD).1.n)],q2,c2⟩ ⟨hlt,?_⟩ (by simp only; omega)) kq kq
   simp only
   unfold stL
   rw [mapD,if_pos (by simpa using hop),← hst,Int.toNat_natCast]
  ·refine V.q ?_
   refine V.slotAs 21 (.one (.int .i64 (IntKind.i64.wrap ((i : Int) + 1)))) (.one (.int .i64 ((i + 1 : Nat) : Int))) kq kq (fun _=>by rw [wrap_up (by omega)]) ?_
   refine V.againK [5,7,19,20,21] [] (ih ⟨i + 1,st,q1,c1⟩ ⟨hlt,?_⟩ (by simp only; omega)) kq kq
   simp only
   rw [hst]
   conv=>rhs; unfold stL
   rw [mapD,if_neg (by simpa using hop)]
 ·have hle : i = l.length:=by simp at hc; omega
  rw [hle,← hll] at hst
  refine V.q ?_
  subst hst
  refine V.freeze 1 (rowL rlv (0,0) (stL (l.map (·.1)) p (l.map (·.1)).length) q1 c1 83 2 true) kq kq ?_
  exact V.retK ((q1,c1) : Option Addr × Nat) [(0,true)] kq kq kq trivial
def modL (pr rg : Int) (X : RIn) : List SV:=[.int .i64 pr,.int .i64 rg,.str X.s,.val (.slice X.q X.n X.c)]
def skipD : Nat → Nat → List Item → List Item
 | 0,_,k=>k
 | _,0,k=>k
 | n + 1,m + 1,k=>match k with
  | .code (.seq a b) :: k=>skipD n (m + 1) (.code a :: .code b :: k)
  | .code (.block id body) :: k=>skipD n (m + 1) (.code body :: .inBlock id :: k)
  | .code (.scope body) :: k=>skipD n (m + 1) (.code body :: .inScope body :: k)
  | .code (.region _ _ _) :: k=>skipD n (m + 1) k
  | .code (.cond _ _ _) :: k=>skipD n m k
  | .code .skip :: k=>skipD n (m + 1) k
  | .code (.label _) :: k=>skipD n (m + 1) k
  | .inBlock _ :: k=>skipD n (m + 1) k
  | .inScope _ :: k=>skipD n (m + 1) k
  | k=>k
def stJ (l : List In) (n : Nat) : List Nat:=(List.range n).filter fun j=>decide ((l.getD j zeroI).op = 1)
theorem stL_eq (l : List In) (p : List Int) : ∀ n,stL l p n = (stJ l n).map fun j=>(p.getD j 0,(l.getD j zeroI).n)
 | 0=>rfl
 | n + 1=>by
  unfold stL stJ
  rw [List.range_succ,List.filter_append,List.map_append,stL_eq l p n]
  by_cases h : (l.getD n zeroI).op = 1
  ·rw [if_pos h]
   simp only [stJ,List.filter_cons,h,decide_true,if_true,List.filter_nil,List.map_cons,List.map_nil]
  ·rw [if_neg h]
   simp only [stJ,List.filter_cons,h,decide_false,List.filter_nil,List.map_nil,List.append_nil,Bool.false_eq_true,if_false]
theorem stJ_lt {l : List In} {n j : Nat} (h : j ∈ stJ l n) : j < n:=List.mem_range.1 (List.mem_filter.1 h).1
theorem stJ_pw (l : List In) (n : Nat) : (stJ l n).Pairwise (· < ·):=List.Pairwise.filter _ List.pairwise_lt_range
def stN (J : List Nat) (i k : Nat) : Prop:=∀ i',i ≤ i' → ∀ h : i' < J.length,k ≤ J[i']
theorem stN_next {J : List Nat} (hJ : J.Pairwise (· < ·)) {i k : Nat} (h : i < J.length) (hk : k ≤ J[i]) : stN J (i + 1) (k + 1):=fun i' hi hl=>by
 have:=List.pairwise_iff_getElem.1 hJ i i' h hl (by omega)
 omega
noncomputable def of3St0 (rl : List (Int × Int)) (X : RIn) (pr rg : Int) : St :=
 { n:=192,slots:=[(9,.v (.one (.ptr 0 0)))],gs:=[],heap:=[(0,⟨modL pr rg X,49,true⟩)],next:=1,rows:=[],nr:=0,pers:=[glbP,rowP (relRow rl X.q X.c)],wr:=true,fx:=0 }
noncomputable def of3C (rl : List (Int × Int)) (X : RIn) (pr rg : Int) : Cfg:=(SX.runT Tryz.prog [] 1000 ⟨skipD 2000 6 [.code (bodyOf Tryz.f12)],of3St0 rl X pr rg⟩).1
noncomputable def of3St1 (rl : List (Int × Int)) (X : RIn) (pr rg : Int) : St :=
 { n:=192,slots:=[(9,.v (.one (.ptr 0 0))),(146,.v (.agg (modL pr rg X)))],gs:=[],heap:=[(0,⟨modL pr rg X,49,true⟩)],next:=1,rows:=[],nr:=0,pers:=[glbP,rowP (relRow rl X.q X.c)],wr:=true,fx:=0 }
noncomputable def ofF (l : List (In × IA)) (q : Option Addr) (c : Nat) (x : In) (A : IA) (rl : List (Int × Int)) (X : RIn) : St:=stP (glbP :: rowP (relRow rl X.q X.c) :: rowP (ixRow l q c false) :: insP l :: lsP x A)
structure OgI where
 i : Nat
 k : Nat
noncomputable def og1 (p : List Int) (qp : Option Addr) (cp : Nat) (st : List (Int × Int)) (qs : Option Addr) (cs : Nat) (j : OgI) : St :=
 { n:=192,slots:=[(23,.v (.one (.row 0 qp p.length cp))),(24,.v (.one (.int .i64 (j.k : Int)))),(164,.v (.one (.row 1 qs st.length cs))),(165,.v (.one (.int .i64 (st.length : Int)))),(166,.v (.one (.int .i64 (j.i : Int))))],gs:=[],heap:=[],next:=0,
    rows:=[(0,rowL intv 0 p qp cp 3 1 false),(1,rowL rlv (0,0) st qs cs 83 2 false)],nr:=2,pers:=[],wr:=true,fx:=0 }
noncomputable def og2 (p : List Int) (qp : Option Addr) (cp : Nat) (st : List (Int × Int)) (qs : Option Addr) (cs : Nat) (i k : Nat) : St :=
 { n:=192,slots:=[(23,.v (.one (.row 0 qp p.length cp))),(24,.v (.one (.int .i64 (k : Int)))),(26,.v (.one (.ptr 0 0))),(164,.v (.one (.row 1 qs st.length cs))),(165,.v (.one (.int .i64 (st.length : Int)))),(166,.v (.one (.int .i64 (i : Int))))],gs:=[],heap:=[(0,⟨rlv (st.getD i (0,0)),83,true⟩)],next:=1,
    rows:=[(0,rowL intv 0 p qp cp 3 1 false),(1,rowL rlv (0,0) st qs cs 83 2 false)],nr:=2,pers:=[],wr:=true,fx:=0 }
set_option maxHeartbeats 2000000 in
theorem offs_rest (l0 : List (In × IA)) (q0 : Option Addr) (c0 : Nat) (x : In) (A : IA) (rl : List (Int × Int)) (X : RIn) (pr rg : Int) (hX : X.n = rl.length) (hl : rl.length ≤ 4000) (hs : X.s.length ≤ 20000) (ρ : Nat → Nat) (w : World) :
  V ⟨Tryz.prog,12,GivesK ρ (ofF l0 q0 c0 x A rl X) (fun _ : Unit=>True) (fun _=>.v (.one (.sb true))) (fun _=>noF) w,touch ρ (ofF l0 q0 c0 x A rl X),w,ρ,none⟩ ⟨(of3C rl X pr rg).todo,of3St1 rl X pr rg⟩:=by
 cases hv : vdS rl X pr rg with
 | none =>
  refine V.callK [(0,false),(1,false)] (xStopsNo rl X hX (by omega) (by omega) pr rg hv) kq kq kq (fun _=>kq) (fun _ _=>?_)
  refine V.q ?_
  refine V.callK [(0,false),(1,false)] (xPlacesNo rl X hX (by omega) (by omega) pr rg hv) kq kq kq (fun _=>kq) (fun _ _=>?_)
  refine V.q ?_
  refine V.known 160 ((221 : Int) != 0 || (221 : Int) != 0) true kq (by decide) ?_
  refine V.q ?_
  refine V.slotAs 10 (.one (.sb ((221 : Int) == 221))) (.one (.sb true)) kq kq (fun _=>rfl) ?_
  exact V.z
 | some s =>
  have htk : takenS rl X = some s:=by
   unfold vdS at hv
   split at hv
   ·cases hv
   ·split at hv
    ·cases hv
    ·split at hv
     ·rename_i h1 _
      rw [h1,← Option.some.inj hv]
     ·cases hv
  obtain ⟨_,_,_,h4,h5⟩:=takenS_ok (by omega) htk
  obtain ⟨l,p⟩:=s
  simp only at h4 h5
  refine V.callK [(0,false),(1,false)] (xStops rl X hX (by omega) (by omega) pr rg (l,p) hv (by simp only; omega) h5) kq kq kq (fun _=>kq) (fun qs _=>?_)
  obtain ⟨qs,cs⟩:=qs
  refine V.q ?_
  refine V.callK [(1,false),(2,false)] (xPlaces rl X hX (by omega) (by omega) pr rg (l,p) hv) kq kq kq (fun _=>kq) (fun qc hqc=>?_)
  obtain ⟨qp,cp⟩:=qc
  refine V.q ?_
  refine V.known 160 ((0 : Int) != 0 || (0 : Int) != 0) false kq (by decide) ?_
  refine V.q ?_
  have hJ:=stJ_pw l l.length
  have hSL : (stL l p l.length).length = (stJ l l.length).length:=by rw [stL_eq,List.length_map]
  have hJl : (stJ l l.length).length ≤ l.length:=by rw [← hSL]; exact stL_len _ _ _
  have hSat : ∀ (i : Nat) (hi : i < (stJ l l.length).length),((stL l p l.length).getD i (0,0)).1 = p.getD (stJ l l.length)[i] 0:=fun i hi=>by
   rw [stL_eq,List.getD,List.getElem?_map,List.getElem?_eq_getElem hi]
   rfl
  refine V.persAs [(1,true)] [rowP (rowL rlv (0,0) (stL l p l.length) qs cs 83 2 false)] (rowP (rowL rlv (0,0) (stL l p l.length) qs cs 83 2 false)) kq (fun k hk=>⟨_,List.mem_singleton.2 rfl,hk⟩) (fun w hw=>hw _ (List.mem_singleton.2 rfl)) (rowP_stab _) ?_
  refine V.asRow 164 0 (rowL rlv (0,0) (stL l p l.length) qs cs 83 2 false) kq kq kq rfl ?_
  refine V.persAs [(1,true)] [rowP (rowL intv 0 p qp cp 3 1 false)] (rowP (rowL intv 0 p qp cp 3 1 false)) kq (fun k hk=>⟨_,List.mem_singleton.2 rfl,hk⟩) (fun w hw=>hw _ (List.mem_singleton.2 rfl)) (rowP_stab _) ?_
  refine V.asRow 23 0 (rowL intv 0 p qp cp 3 1 false) kq kq kq rfl ?_
  refine V.loopK [23,24,164,165,166] [] (fun j : OgI=>(stL l p l.length).length - j.i) (og1 p qp cp (stL l p l.length) qs cs) (fun j=>j.i ≤ (stL l p l.length).length ∧ stN (stJ l l.length) j.i j.k ∧ j.k ≤ l.length) ⟨0,0⟩ kq ⟨Nat.zero_le _,fun _ _ _=>Nat.zero_le _,Nat.zero_le _⟩ (fun j hj ih=>?_)
  obtain ⟨i,k⟩:=j
  obtain ⟨hi,hN,hk⟩:=hj
  simp only at hi hN hk ih
  refine V.q ?_
  refine V.branch 167 (decide ((i : Int) < ((stL l p l.length).length : Int))) kq (fun hc=>?_) (fun hc=>?_)
  ·have hlt : i < (stL l p l.length).length:=by simpa using hc
   have hlt' : i < (stJ l l.length).length:=by omega
   have hJi : (stJ l l.length)[i] < l.length:=stJ_lt (List.getElem_mem hlt')
   have hk0 : k ≤ (stJ l l.length)[i]:=hN i (Nat.le_refl _) hlt'
   have hSi:=hSat i hlt'
   refine V.runT [] [(0 : Int) ≤ i ∧ (i : Int) < ((stL l p l.length).length : Int)] kq kq ⟨by omega,by omega⟩ ?_
   refine V.loopK [23,24,26,164,165,166] [] (fun k' : Nat=>l.length - k') (og2 p qp cp (stL l p l.length) qs cs i) (fun k'=>k' ≤ (stJ l l.length)[i]) k kq hk0 (fun k' hk' ih2=>?_)
   refine V.runT [] [decide ((k' : Int) < (p.length : Int)) = true → (0 : Int) ≤ k' ∧ (k' : Int) < p.length] kq kq (fun _=>⟨by omega,by omega⟩) ?_
   refine V.branch 182 (decide ((k' : Int) < (p.length : Int)) && p.getD (k' : Int).toNat 0 != ((stL l p l.length).getD i (0,0)).1) kq (fun hd=>?_) (fun hd=>?_)
   ·have hne : k' ≠ (stJ l l.length)[i]:=fun e=>by
     rw [Bool.and_eq_true] at hd
     have:=hd.2
     rw [hSi,Int.toNat_natCast,e] at this
     simp at this
    refine V.q ?_
    refine V.slotAs 24 (.one (.int .i64 (IntKind.i64.wrap ((k' : Int) + 1)))) (.one (.int .i64 ((k' + 1 : Nat) : Int))) kq kq (fun _=>by rw [wrap_up (by omega)]) ?_
    exact V.againK [23,24,26,164,165,166] [] (ih2 (k' + 1) (by omega) (by omega)) kq kq
   ·refine V.q ?_
    refine V.known 188 ((k' : Int) == (p.length : Int)) false kq (by
     have : (k' : Int) ≠ (p.length : Int):=by omega
     simpa using this) ?_
    refine V.q ?_
    refine V.slotAs 24 (.one (.int .i64 (IntKind.i64.wrap ((k' : Int) + 1)))) (.one (.int .i64 ((k' + 1 : Nat) : Int))) kq kq (fun _=>by rw [wrap_up (by omega)]) ?_
    refine V.slotAs 166 (.one (.int .i64 (IntKind.i64.wrap ((i : Int) + 1)))) (.one (.int .i64 ((i + 1 : Nat) : Int))) kq kq (fun _=>by rw [wrap_up (by omega)]) ?_
    exact V.againK [23,24,164,165,166] [] (ih ⟨i + 1,k' + 1⟩ ⟨hlt,stN_next hJ hlt' hk',by simp only; omega⟩ (by simp only; omega)) kq kq
  ·refine V.q ?_
   refine V.slotAs 10 (.one (.bool true)) (.one (.sb true)) kq kq (fun _=>rfl) ?_
   exact V.z
noncomputable def of2S (x : In) (A : IA) (n m p : Int) (rl : List (Int × Int)) (X : RIn) (pr rg : Int) (sl : List (Nat × RV)) : St :=
 { n:=192,slots:=sl,gs:=[],heap:=[(0,⟨inV x A,30,true⟩),(1,⟨modL pr rg X,49,true⟩),(2,⟨inV { x with n:=n,m:=m,p:=p } A,30,true⟩)],next:=3,rows:=[],nr:=0,pers:=glbP :: rowP (relRow rl X.q X.c) :: lsP x A,wr:=true,fx:=0 }
noncomputable def of2C (x : In) (A : IA) (n m p : Int) (rl : List (Int × Int)) (X : RIn) (pr rg : Int) : Cfg :=
 (SX.runT Tryz.prog [] 1000 ⟨skipD 2000 5 [.code (bodyOf Tryz.f12)],of2S x A n m p rl X pr rg [(6,.v (.one (.ptr 0 0))),(9,.v (.one (.ptr 1 0))),(17,.v (.one (.ptr 2 0)))]⟩).1
noncomputable def of2S1 (x : In) (A : IA) (n m p : Int) (rl : List (Int × Int)) (X : RIn) (pr rg : Int) : St:=of2S x A n m p rl X pr rg [(9,.v (.one (.ptr 1 0))),(17,.v (.one (.ptr 2 0))),(125,.v (.agg (inV x A)))]
set_option maxHeartbeats 2000000 in
theorem offs_len (l0 : List (In × IA)) (q0 : Option Addr) (c0 : Nat) (x : In) (A : IA) (hx : x.okL) (n m p : Int) (hlen : (cEnc { x with n:=n,m:=m,p:=p }).1.length = (cEnc x).1.length) (rl : List (Int × Int)) (X : RIn) (pr rg : Int) (hX : X.n = rl.length) (hl : rl.length ≤ 4000) (hs : X.s.length ≤ 20000) (ρ : Nat → Nat) (w : World) :
  V ⟨Tryz.prog,12,GivesK ρ (ofF l0 q0 c0 x A rl X) (fun _ : Unit=>True) (fun _=>.v (.one (.sb true))) (fun _=>noF) w,touch ρ (ofF l0 q0 c0 x A rl X),w,ρ,none⟩ ⟨(of2C x A n m p rl X pr rg).todo,of2S1 x A n m p rl X pr rg⟩:=by
 refine V.callK [(0,false),(2,false),(3,false),(4,false)] (xLen x A hx) kq kq kq (fun _=>kq) (fun _ _=>?_)
 refine V.q ?_
 refine V.callK [(0,false),(2,false),(3,false),(4,false)] (xLen { x with n:=n,m:=m,p:=p } A hx) kq kq kq (fun _=>kq) (fun _ _=>?_)
 refine V.q ?_
 refine V.known 144 ((bif cFine x then (0 : Int) else 170) == 0 && (bif cFine { x with n:=n,m:=m,p:=p } then (0 : Int) else 170) == 0 && (bif cFine x then ((cEnc x).1.length : Int) else 0) != (bif cFine { x with n:=n,m:=m,p:=p } then ((cEnc { x with n:=n,m:=m,p:=p }).1.length : Int) else 0)) false kq (by
  rw [hlen]
  cases cFine x <;> cases cFine { x with n:=n,m:=m,p:=p } <;> simp) ?_
 refine V.q ?_
 exact V.back [9,146] [1] [] [true,true,false,false,false] (offs_rest l0 q0 c0 x A rl X pr rg hX hl hs ρ w) kq kq
noncomputable def of1S (x : In) (A : IA) (rl : List (Int × Int)) (X : RIn) (pr rg : Int) (sl : List (Nat × RV)) : St :=
 { n:=192,slots:=sl,gs:=[],heap:=[(0,⟨inV x A,30,true⟩),(1,⟨modL pr rg X,49,true⟩)],next:=2,rows:=[],nr:=0,pers:=glbP :: rowP (relRow rl X.q X.c) :: lsP x A,wr:=true,fx:=0 }
noncomputable def of1C (x : In) (A : IA) (a b : Int) (rl : List (Int × Int)) (X : RIn) (pr rg : Int) : Cfg :=
 (SX.runT Tryz.prog [] 1000 ⟨skipD 2000 3 [.code (bodyOf Tryz.f12)],of1S x A rl X pr rg [(2,.v (.one (.int .i64 a))),(3,.v (.one (.int .i64 b))),(6,.v (.one (.ptr 0 0))),(9,.v (.one (.ptr 1 0)))]⟩).1
noncomputable def of1S1 (x : In) (A : IA) (a b : Int) (rl : List (Int × Int)) (X : RIn) (pr rg : Int) : St :=
 of2S x A x.n x.m x.p rl X pr rg [(2,.v (.one (.int .i64 a))),(3,.v (.one (.int .i64 b))),(6,.v (.one (.ptr 0 0))),(9,.v (.one (.ptr 1 0))),(17,.v (.one (.ptr 2 0))),(99,.v (.one (.int .i64 x.op))),(100,.v (.one (.sb (x.op == 14))))]
set_option maxHeartbeats 2000000 in
theorem offs_mid (l0 : List (In × IA)) (q0 : Option Addr) (c0 : Nat) (x : In) (A : IA) (hx : x.okL) (a b : Int) (rl : List (Int × Int)) (X : RIn) (pr rg : Int) (hX : X.n = rl.length) (hl : rl.length ≤ 4000) (hs : X.s.length ≤ 20000) (ρ : Nat → Nat) (w : World) :
  V ⟨Tryz.prog,12,GivesK ρ (ofF l0 q0 c0 x A rl X) (fun _ : Unit=>True) (fun _=>.v (.one (.sb true))) (fun _=>noF) w,touch ρ (ofF l0 q0 c0 x A rl X),w,ρ,none⟩ ⟨(of1C x A a b rl X pr rg).todo,of1S1 x A a b rl X pr rg⟩:=by
 have hofl:=of_len x a b
 unfold ofY at hofl
 refine V.branch 100 (x.op == 14) kq (fun h14=>?_) (fun h14=>?_)
 ·rw [if_pos (Or.inl (by simpa using h14))] at hofl
  refine V.q ?_
  exact V.back [9,17,125] [0,1,2] [] [true,true,true,true,true] (offs_len l0 q0 c0 x A hx a x.m x.p hofl rl X pr rg hX hl hs ρ w) kq kq
 ·refine V.q ?_
  refine V.branch 100 (x.op == 15) kq (fun h15=>?_) (fun h15=>?_)
  ·rw [if_pos (Or.inr (by simpa using h15))] at hofl
   refine V.q ?_
   exact V.back [9,17,125] [0,1,2] [] [true,true,true,true,true] (offs_len l0 q0 c0 x A hx a x.m x.p hofl rl X pr rg hX hl hs ρ w) kq kq
  rw [if_neg (by simp at h14 h15; omega)] at hofl
  refine V.q ?_
  refine V.branch 105 (x.op == 28) kq (fun h28=>?_) (fun h28=>?_)
  ·rw [if_pos (Or.inl (by simpa using h28))] at hofl
   refine V.q ?_
   exact V.back [9,17,125] [0,1,2] [] [true,true,true,true,true] (offs_len l0 q0 c0 x A hx x.n a x.p hofl rl X pr rg hX hl hs ρ w) kq kq
  refine V.q ?_
  refine V.branch 105 (x.op == 29) kq (fun h29=>?_) (fun h29=>?_)
  ·rw [if_pos (Or.inr (by simpa using h29))] at hofl
   refine V.q ?_
   exact V.back [9,17,125] [0,1,2] [] [true,true,true,true,true] (offs_len l0 q0 c0 x A hx x.n a x.p hofl rl X pr rg hX hl hs ρ w) kq kq
  rw [if_neg (by simp at h28 h29; omega)] at hofl
  refine V.q ?_
  refine V.branch 110 (x.op == 16) kq (fun h16=>?_) (fun h16=>?_)
  ·rw [if_pos (by simpa using h16)] at hofl
   refine V.q ?_
   exact V.back [9,17,125] [0,1,2] [] [true,true,true,true,true] (offs_len l0 q0 c0 x A hx a x.m b hofl rl X pr rg hX hl hs ρ w) kq kq
  rw [if_neg (by simpa using h16)] at hofl
  refine V.q ?_
  refine V.branch 116 (x.op == 17) kq (fun h17=>?_) (fun h17=>?_)
  ·rw [if_pos (by simpa using h17)] at hofl
   refine V.q ?_
   exact V.back [9,17,125] [0,1,2] [] [true,true,true,true,true] (offs_len l0 q0 c0 x A hx b x.m x.p hofl rl X pr rg hX hl hs ρ w) kq kq
  rw [if_neg (by simpa using h17)] at hofl
  refine V.q ?_
  refine V.branch 120 (x.op == 19) kq (fun h19=>?_) (fun h19=>?_)
  ·rw [if_pos (by simpa using h19)] at hofl
   refine V.q ?_
   exact V.back [9,17,125] [0,1,2] [] [true,true,true,true,true] (offs_len l0 q0 c0 x A hx x.n b x.p hofl rl X pr rg hX hl hs ρ w) kq kq
  rw [if_neg (by simpa using h19)] at hofl
  refine V.q ?_
  exact V.back [9,17,125] [0,1,2] [] [true,true,true,true,true] (offs_len l0 q0 c0 x A hx x.n x.m x.p hofl rl X pr rg hX hl hs ρ w) kq kq
theorem oaS_zero {l : List (In × IA)} (h : (oaS l).2 = 0) : (∀ e ∈ l,cFine e.1 = true) ∧ oaS l = (offL l l.length,0):=by
 unfold oaS at h ⊢
 by_cases h1 : (l.all fun e=>cFine e.1) = true
 ·rw [if_pos h1] at h ⊢
  by_cases h2 : offAt l l.length > 1048576
  ·rw [if_pos h2] at h; cases h
  ·rw [if_neg h2]
   exact ⟨fun e he=>List.all_eq_true.1 h1 e he,rfl⟩
 ·rw [if_neg h1] at h; cases h
theorem cEnc_pos {x : In} (h : cFine x = true) : 1 ≤ (cEnc x).1.length:=by
 rw [cEnc_put h,putL_eq]
 simp
noncomputable def olSt (l : List (In × IA)) (q : Option Addr) (c : Nat) (x : In) (A : IA) (a b : Int) (rl : List (Int × Int)) (X : RIn) (pr rg : Int) (qo : Option Addr) (co : Nat) (i : Nat) : St :=
 { n:=192,slots:=[(2,.v (.one (.int .i64 a))),(3,.v (.one (.int .i64 b))),(6,.v (.one (.ptr 0 0))),(9,.v (.one (.ptr 1 0))),(11,.v (.one (.row 0 qo (offL l l.length).length co))),(64,.v (.one (.row 1 q l.length c))),(65,.v (.one (.int .i64 (l.length : Int)))),(66,.v (.one (.int .i64 (i : Int))))],gs:=[],
    heap:=[(0,⟨inV x A,30,true⟩),(1,⟨modL pr rg X,49,true⟩)],next:=2,rows:=[(0,rowL intv 0 (offL l l.length) qo co 3 1 false),(1,ixRow l q c false)],nr:=2,pers:=glbP :: rowP (relRow rl X.q X.c) :: rowP (ixRow l q c false) :: insP l :: lsP x A,wr:=true,fx:=0 }
set_option maxHeartbeats 4000000 in
theorem xOffsets (g : Int) (l : List (In × IA)) (q : Option Addr) (c : Nat) (x : In) (A : IA) (a b : Int) (rl : List (Int × Int)) (X : RIn) (pr rg : Int) (hX : X.n = rl.length) (hb : ∀ e ∈ l,e.1.f.length ≤ maxLen ∧ e.1.y.length ≤ maxLen) (hf : x.f.length ≤ maxLen) (hy : x.y.length ≤ maxLen) :
  CallsK Tryz.prog 12 [.agg [.int .i64 g,.val (.slice q l.length c)],.agg (inV x A),.one (.int .i64 a),.one (.int .i64 b),.agg (modL pr rg X)] (ofF l q c x A rl X) (fun _ : Unit=>True) (fun _=>.v (.one (.sb true))) (fun _=>noF):=by
 refine CallsK.mk true Tryz.func12 kq kq (fun ρ w=>?_)
 refine V.q ?_
 refine V.callK [(0,false)] sane_ kq kq kq (fun _=>kq) (fun _ _=>?_)
 refine V.q ?_
 refine V.known 28 (!true) false kq rfl ?_
 refine V.q ?_
 refine V.callK [(2,false),(3,false)] (cLight g l q c hb) kq kq kq (fun _=>kq) (fun lt hlt=>?_)
 refine V.q ?_
 cases hlc : lt with
 | false =>
  subst hlc
  refine V.settle 32 true (!false) kq rfl ?_
  refine V.q ?_
  refine V.slotAs 10 (.one (.bool true)) (.one (.sb true)) kq kq (fun _=>rfl) ?_
  exact V.z
 | true =>
  subst hlc
  obtain ⟨hl1,hl2⟩:=hlt rfl
  refine V.settle 32 false (!true) kq rfl ?_
  refine V.q ?_
  refine V.callK [(4,false),(5,false),(6,false)] (cSlim x A hf hy) kq kq kq (fun _=>kq) (fun sl hsl=>?_)
  refine V.runT [(⟨aShort,[]⟩ : Ent Tryz.prog)] [] kq kq trivial ?_
  refine V.branch 42 (!sl || !(decide ((X.s.length : Int) ≤ 20000) && decide ((X.n : Int) ≤ 4000))) kq (fun hh=>?_) (fun hh=>?_)
  ·refine V.q ?_
   refine V.slotAs 10 (.one (.bool true)) (.one (.sb true)) kq kq (fun _=>rfl) ?_
   exact V.z
  simp only [Bool.or_eq_false_iff,Bool.not_eq_false',Bool.and_eq_true,decide_eq_true_eq] at hh
  have hx : x.okL:=hsl hh.1
  have hs : X.s.length ≤ 20000:=by omega
  have hl : rl.length ≤ 4000:=by omega
  have k:=cOffsets g l q c hl1 hl2
  refine V.q ?_
  by_cases hz : (oaS l).2 = 0
  case neg =>
   refine V.callK [(0,false),(2,false),(3,false)] k kq kq kq (fun _=>kq) (fun qc _=>?_)
   refine V.q ?_
   refine V.known 49 ((oaS l).2 == 0) false kq (by simpa using hz) ?_
   refine V.q ?_
   exact V.back [2,3,6,9,17,99,100] [1,2,4] [] [false,true,true,false,false,true,true,true] (offs_mid l q c x A hx a b rl X pr rg hX hl hs ρ w) kq kq
  case pos =>
   obtain ⟨hfin,e⟩:=oaS_zero hz
   rw [e] at k
   refine V.callK [(0,false),(2,false),(3,false)] k kq kq kq (fun _=>kq) (fun qc _=>?_)
   refine V.q ?_
   refine V.known 49 ((0 : Int) == 0) true kq rfl ?_
   refine V.persAs [(0,true)] [rowP (rowL intv 0 (offL l l.length) qc.1 qc.2 3 1 false)] (rowP (rowL intv 0 (offL l l.length) qc.1 qc.2 3 1 false)) kq (fun k hk=>⟨_,List.mem_singleton.2 rfl,hk⟩) (fun w hw=>hw _ (List.mem_singleton.2 rfl)) (rowP_stab _) ?_
   refine V.asRow 11 0 (rowL intv 0 (offL l l.length) qc.1 qc.2 3 1 false) kq kq kq rfl ?_
   have hlen:=offL_len l l.length
   have h0 : (offL l l.length).getD 0 0 = 0:=offL_at l (Nat.zero_le _)
   have hwl : IntKind.i64.wrap ((l.length : Int) + 1) = (l.length : Int) + 1:=wrap_in (by omega) (by omega)
   refine V.runT [] [(((offL l l.length).length : Int) != IntKind.i64.wrap ((l.length : Int) + 1)) = false → (0 : Int) ≤ 0 ∧ (0 : Int) < ((offL l l.length).length : Int)] kq kq (fun _=>⟨Int.le_refl _,by rw [hlen]; omega⟩) ?_
   refine V.known 62 (((offL l l.length).length : Int) != IntKind.i64.wrap ((l.length : Int) + 1) || (offL l l.length).getD (Int.toNat 0) 0 != 0) false kq (by
    rw [show Int.toNat 0 = 0 from rfl,h0,hwl,hlen]
    simp) ?_
   refine V.q ?_
   refine V.asRow 64 4 (ixRow l q c false) kq kq kq rfl ?_
   refine V.loopK [2,3,6,9,11,64,65,66] [false,false,true,true,true,true,true,true,true] (fun i : Nat=>l.length - i) (olSt l q c x A a b rl X pr rg qc.1 qc.2) (fun i=>i ≤ l.length) 0 kq (Nat.zero_le _) (fun i hi ih=>?_)
   refine V.q ?_
   refine V.branch 67 (decide ((i : Int) < (l.length : Int))) kq (fun hc=>?_) (fun hc=>?_)
   ·have hlt : i < l.length:=by simpa using hc
    have hm:=ixA_at l hlt
    have hfi:=hfin _ hm
    refine V.runT [] [(0 : Int) ≤ i ∧ (i : Int) < l.length] kq kq ⟨by omega,by omega⟩ ?_
    refine V.pickP 3 (l.map fun e=>manyP (lsP e.1 e.2)) (manyP (lsP (l.getD i ixD).1 (l.getD i ixD).2)) kq (List.mem_map.2 ⟨_,hm,rfl⟩) (manyP_stab (lsP_stab _ _)) ?_
    refine V.pickP 0 (lsP (l.getD i ixD).1 (l.getD i ixD).2) (rowP (rowF (l.getD i ixD).1 (l.getD i ixD).2)) kq (List.mem_cons_self ..) (rowP_stab _) ?_
    refine V.pickP 1 (lsP (l.getD i ixD).1 (l.getD i ixD).2) (rowP (rowI (l.getD i ixD).1 (l.getD i ixD).2)) kq (List.mem_cons_of_mem _ (List.mem_cons_self ..)) (rowP_stab _) ?_
    refine V.pickP 2 (lsP (l.getD i ixD).1 (l.getD i ixD).2) (rowP (rowT (l.getD i ixD).1 (l.getD i ixD).2)) kq (List.mem_cons_of_mem _ (List.mem_cons_of_mem _ (List.mem_cons_self ..))) (rowP_stab _) ?_
    refine V.callK [(4,false),(2,false),(1,false),(0,false)] (xLen (l.getD i ixD).1 (l.getD i ixD).2 (hl2 _ hm)) kq kq kq (fun _=>kq) (fun _ _=>?_)
    have hwi : IntKind.i64.wrap ((i : Int) + 1) = ((i + 1 : Nat) : Int):=wrap_up (by omega)
    refine V.runT [] [((bif cFine (l.getD i ixD).1 then (0 : Int) else 170) != 0 || decide ((bif cFine (l.getD i ixD).1 then ((cEnc (l.getD i ixD).1).1.length : Int) else 0) < 1)) = false → (0 : Int) ≤ IntKind.i64.wrap ((i : Int) + 1) ∧ IntKind.i64.wrap ((i : Int) + 1) < ((offL l l.length).length : Int),((bif cFine (l.getD i ixD).1 then (0 : Int) else 170) != 0 || decide ((bif cFine (l.getD i ixD).1 then ((cEnc (l.getD i ixD).1).1.length : Int) else 0) < 1)) = false → (0 : Int) ≤ i ∧ (i : Int) < ((offL l l.length).length : Int)] kq kq ⟨fun _=>(show _ ∧ _ by rw [hwi,hlen]; omega),fun _=>(show _ ∧ _ by rw [hlen]; omega)⟩ ?_
    have hp:=cEnc_pos hfi
    have hbd:=offAt_le hfin (i + 1) (by omega)
    refine V.known 95 (((bif cFine (l.getD i ixD).1 then (0 : Int) else 170) != 0 || decide ((bif cFine (l.getD i ixD).1 then ((cEnc (l.getD i ixD).1).1.length : Int) else 0) < 1)) || (offL l l.length).getD (IntKind.i64.wrap ((i : Int) + 1)).toNat 0 != IntKind.i64.wrap ((offL l l.length).getD (i : Int).toNat 0 + (bif cFine (l.getD i ixD).1 then ((cEnc (l.getD i ixD).1).1.length : Int) else 0))) false kq (by
     rw [hwi,Int.toNat_natCast,Int.toNat_natCast,offL_at l (by omega : i + 1 ≤ l.length),offL_at l (by omega : i ≤ l.length),hfi]
     show ((0 : Int) != 0 || decide (((cEnc (l.getD i ixD).1).1.length : Int) < 1) || offAt l (i + 1) != IntKind.i64.wrap (offAt l (i + 1))) = false
     rw [wrap_in hbd.1 (by omega),decide_eq_false (by omega : ¬ (((cEnc (l.getD i ixD).1).1.length : Int) < 1))]
     simp) ?_
    refine V.q ?_
    refine V.slotAs 66 (.one (.int .i64 (IntKind.i64.wrap ((i : Int) + 1)))) (.one (.int .i64 ((i + 1 : Nat) : Int))) kq kq (fun _=>by rw [hwi]) ?_
    exact V.againK [2,3,6,9,11,64,65,66] [false,false,false,false,true,true,true,true,true,true,true] (ih (i + 1) hlt (by omega)) kq kq
   ·refine V.q ?_
    exact V.back [2,3,6,9,17,99,100] [0,1,2] [] [true,true,false,false,true,true,true] (offs_mid l q c x A hx a b rl X pr rg hX hl hs ρ w) kq kq
end Go.Proofs
end
section
namespace Go.Proofs.YteinbljapojcgaaGreatDoor
open Go
set_option maxRecDepth 100000
theorem kn0 : (Rows.codeOffsetsRow.wf (OpenSpec.ofChange Rows.codeOffsetsSpec)) = true:=kq
theorem kn1 : (laidOutB Tryz.prog) = true:=kq
theorem kn2 : (mapsRowed Tryz.prog) = true:=kq
theorem kn3 : (Tryz.f12.params.all (Tryz.prog.readableRec ·)) = true:=kq
theorem kn4 : (namedTie Tryz.prog Rows.codeOffsetsRow.named Rows.codeOffsetsSpec.vars) = true:=kq
theorem kn5 : ((Rows.codeOffsetsRow.stops == [])) = true:=kq
theorem kn6 : ((Tryz.prog.stops == [])) = true:=kq
theorem kn7 : ((Rows.codeOffsetsRow.knobs == [])) = true:=kq
theorem kn8 : ((Tryz.prog.stopKnobs == [])) = true:=kq
theorem kn9 : ((Rows.codeOffsetsRow.inPlace == Tryz.prog.inPlace 12)) = true:=kq
theorem kn10 : ((Rows.codeOffsetsRow.unfollowed == Tryz.prog.unfollowed 12)) = true:=kq
theorem kn11 : ((Rows.codeOffsetsRow.recurses == Tryz.prog.recurses 12)) = true:=kq
theorem kn12 : ((Rows.codeOffsetsRow.named == Tryz.prog.varsNamed 12)) = true:=kq
theorem kn13 : ((Rows.codeOffsetsRow.maps == (Tryz.f12.params.toList ++ Rows.codeOffsetsSpec.plain.varTypes Tryz.prog).any (Tryz.prog.mapsRec ·))) = true:=kq
theorem kn14 : ((Rows.codeOffsetsRow.ifaces == (Tryz.f12.params.toList ++ Rows.codeOffsetsSpec.plain.varTypes Tryz.prog).any (Tryz.prog.ifacesRec ·))) = true:=kq
theorem kn15 : ((Rows.codeOffsetsRow.mapsOut == Tryz.prog.mapsAmong Tryz.f12.resultTypes.toList)) = true:=kq
theorem kn16 : ((Rows.codeOffsetsRow.loops == (Tryz.f12.params.toList ++ Rows.codeOffsetsSpec.plain.varTypes Tryz.prog).any (Tryz.prog.loopsFrom ·))) = true:=kq
theorem kn17 : ((Rows.codeOffsetsRow.wideKeys == (Tryz.f12.params.toList ++ Rows.codeOffsetsSpec.plain.varTypes Tryz.prog ++ Tryz.f12.resultTypes.toList).any (Tryz.prog.wideKeysFrom ·))) = true:=kq
theorem kn18 : (Rows.codeOffsetsSpec.vars.all (Tryz.prog.varReadable ·)) = true:=kq
theorem kn19 : (Tryz.f12.resultTypes.all (fun t=>Tryz.prog.readableRec t && decide (t < Tryz.prog.types.size))) = true:=kq
theorem kn20 : ((Rows.codeOffsetsRow.ifacesOut == Tryz.f12.resultTypes.toList.any (Tryz.prog.ifacesRec ·))) = true:=kq
theorem kn21 : ((Rows.codeOffsetsRow.loopsOut == Tryz.f12.resultTypes.toList.any (Tryz.prog.loopsFrom ·))) = true:=kq
theorem kn22 : ((Rows.codeOffsetsRow.plainKeys == Tryz.prog.plainKeys)) = true:=kq
theorem kn23 : (Rows.codeOffsetsRow.shortTexts.isNone) = true:=kq
theorem kn24 : (Tryz.prog.stopsHeard) = true:=kq
theorem kn25 : (Tryz.prog.mayEnter) = true:=kq
theorem kn26 : ((Rows.codeOffsetsRow.lifted == Tryz.prog.liftsFinal)) = true:=kq
theorem kn27 : ((Tryz.prog.make == some Rows.codeOffsetsRow.make)) = true:=kq
theorem kn28 : ((Rows.codeOffsetsRow.kinds == (if Rows.codeOffsetsRow.domain.isEmpty then [] else Tryz.f12.params.toList.map fun t=>match Tryz.prog.underlying t with | some (.int k)=>some k | _=>none))) = true:=kq
theorem kn29 : ((Rows.codeOffsetsRow.pinned == Rows.codeOffsetsRow.pinnedBy)) = true:=kq
theorem kn30 : ((Rows.codeOffsetsRow.veiled == (Tryz.f12.params.toList ++ Rows.codeOffsetsSpec.plain.varTypes Tryz.prog ++ Tryz.f12.resultTypes.toList).any (Tryz.prog.veiledRec ·))) = true:=kq
theorem kn31 : (Rows.codeOffsetsRow.veiledFits Tryz.prog Tryz.f12.params.toList (Tryz.f12.params.toList ++ Rows.codeOffsetsSpec.plain.varTypes Tryz.prog ++ Tryz.f12.resultTypes.toList)) = true:=kq
theorem kand {a b : Bool} (ha : a = true) (hb : b = true) : (a && b) = true:=by rw [ha,hb]; rfl
theorem codeOffsets_joined : joinedFacts Tryz.prog 12 Tryz.f12 Rows.codeOffsetsSpec Rows.codeOffsetsRow = true:=by
 unfold joinedFacts
 exact kand (kand (kand (kand (kand (kand (kand (kand (kand (kand (kand (kand (kand (kand (kand (kand (kand (kand (kand (kand (kand (kand (kand (kand (kand (kand (kand (kand (kand (kand (kand (kn0) kn1) kn2) kn3) kn4) kn5) kn6) kn7) kn8) kn9) kn10) kn11) kn12) kn13) kn14) kn15) kn16) kn17) kn18) kn19) kn20) kn21) kn22) kn23) kn24) kn25) kn26) kn27) kn28) kn29) kn30) kn31
theorem codeOffsets_fn : Tryz.prog.funcNamed "pliant/pliantlaw22.CodeOffsets" = some 12:=kq
theorem codeOffsets_inst : Tryz.f12.isInstance Tryz.prog Rows.codeOffsetsRow.origin Rows.codeOffsetsRow.targs:=of_decide_eq_true kq
theorem codeOffsets_wrap : Tryz.f12.isWrapper Tryz.prog Rows.codeOffsetsRow.wrapper Rows.codeOffsetsRow.mainSum:=by
 unfold Func.isWrapper
 first | (rw [if_pos (by decide +kernel)]; kernel_rfl) | (rw [if_neg (by decide +kernel)]; exact ⟨rfl,rfl⟩)
theorem codeOffsets_looks : true = Tryz.prog.looks []:=kq
theorem codeOffsets_goes : false = Rows.codeOffsetsRow.goesBy Tryz.prog:=kq
theorem codeOffsets_wft : Rows.codeOffsetsRow.wfByText (OpenSpec.ofChange Rows.codeOffsetsSpec) = true:=kq
theorem codeOffsets_main : Tryz.prog.mainIs = some (true,"8a234a80a232a3bf12a1f1e0dffb9d9eab25744cd05c38bdd5c3d3d044cc81c8".toList):=kq
theorem codeOffsets_stand : ([76,30,3,3,49].all fun u=>!Tryz.prog.wantsStandIn u) = true:=kq
theorem codeOffsets_par : Tryz.f12.params = #[76,30,3,3,49]:=kq
end Go.Proofs.YteinbljapojcgaaGreatDoor
end
section
namespace Go.Proofs.YteinbljapojcgaaGreatDoor
open Go
set_option maxRecDepth 100000
theorem codeOffsets_holds (lifted : ∀ os : Os,os.Started → ∀ (H : Type) (enc : TypeId × Value → H),ReturnsInHanded {} Tryz.checked os 12 .any (fun w args=>(Rows.codeOffsetsSpec.pre enc Tryz.prog Tryz.f12 [] false w args ∧ laidMetH Tryz.prog Rows.codeOffsetsRow.laid w) ∧ sizedMet enc Tryz.prog Tryz.f12 (OpenSpec.ofChange Rows.codeOffsetsSpec) false w args)
   (Rows.codeOffsetsSpec.post enc Tryz.prog Tryz.f12 false true false false)) : Rows.CodeOffsetsSaid :=
 OpenClaim.holds_of_wide 12 Tryz.f12 rfl rfl rfl rfl rfl rfl rfl ⟨rfl,rfl,rfl,rfl,rfl⟩ rfl rfl rfl rfl rfl codeOffsets_fn Tryz.func12 codeOffsets_joined codeOffsets_inst codeOffsets_wrap (fun os started H enc _=>lifted os started H enc)
theorem codeOffsets_card (hh : Rows.CodeOffsetsSaid) : Rows.CodeOffsetsCardSaid :=
 Claim7.holds_tied_plain_at .later [] [.data,.data,.data,.data,.sentinel,.sentinel,.listed,.data,.pinned,.pinned] true (true,"8a234a80a232a3bf12a1f1e0dffb9d9eab25744cd05c38bdd5c3d3d044cc81c8") true hh (fun _ h=>by cases h) codeOffsets_wft (fun _ h=>by cases h) codeOffsets_row_tie rfl ⟨rfl,rfl⟩ codeOffsets_main rfl
  (fun f fn hf hfn=>by
   obtain rfl : f = 12:=Option.some.inj (codeOffsets_fn.symm.trans hf) |>.symm
   obtain rfl : fn = Tryz.f12:=(Option.some.inj (Tryz.func12.symm.trans hfn)).symm
   exact ⟨codeOffsets_looks,fun j t ht=>by
    rw [codeOffsets_par] at ht
    have hm : t ∈ [76,30,3,3,49]:=by simpa using Array.mem_of_getElem? ht
    exact (show Tryz.prog.wantsStandIn t = false by simpa using List.all_eq_true.1 codeOffsets_stand t hm)⟩)
  codeOffsets_goes
end Go.Proofs.YteinbljapojcgaaGreatDoor
end
section
namespace Go.Proofs.YteinbljapojcgaaGreatDoor
open Go Go.SX Go.ChangeShapes Go.WideShapes Go.ChangeAt Go.RowKit Go.ChangeMaps
set_option maxRecDepth 100000
section
variable {H : Type} {enc : TypeId × Value → H} {w : World} {base : Nat} {sp : Nat → Bool} {held : Bool}
def inQ (w : World) (e : In × IA) : Prop:=e.1.f.length ≤ maxLen ∧ e.1.y.length ≤ maxLen ∧ ∀ p ∈ lsP e.1 e.2,LastP p w
theorem ixD_q (w : World) : inQ w ixD:=⟨Nat.zero_le _,Nat.zero_le _,fun p hp=>by
 simp only [lsP,List.mem_cons,List.not_mem_nil,or_false] at hp
 rcases hp with rfl | rfl | rfl
 ·exact ⟨(row_none (R:=rowF zeroI IA0) rfl rfl rfl).2 w,fun j hj=>absurd hj ((row_none (R:=rowF zeroI IA0) rfl rfl rfl).1 j)⟩
 ·exact ⟨(row_none (R:=rowI zeroI IA0) rfl rfl rfl).2 w,fun j hj=>absurd hj ((row_none (R:=rowI zeroI IA0) rfl rfl rfl).1 j)⟩
 ·exact ⟨(row_none (R:=rowT zeroI IA0) rfl rfl rfl).2 w,fun j hj=>absurd hj ((row_none (R:=rowT zeroI IA0) rfl rfl rfl).1 j)⟩⟩
theorem plain_in (x : In) (A : IA) : (inV x A).length = 29 ∧ ∀ y ∈ inV x A,y.plain:=⟨rfl,fun y hy=>by
 unfold inV inC at hy
 simp only [List.mem_cons,List.not_mem_nil,or_false] at hy
 rcases hy with rfl | rfl | rfl | rfl | rfl | rfl | rfl | rfl | rfl | rfl | rfl | rfl | rfl | rfl | rfl | rfl | rfl | rfl | rfl | rfl | rfl | rfl | rfl | rfl | rfl | rfl | rfl | rfl | rfl <;> trivial⟩
theorem o_ins {n : Nat} {cs : List Value} {x : DataW H × List MemPlace} (h : DataW.trod enc Tryz.prog w base sp held n 74 cs = some x) :
  ∃ (l : List (In × IA)) (q : Option Addr) (c : Nat),cs = [.slice q l.length c] ∧ LastP (rowP (ixRow l q c false)) w ∧ LastP (insP l) w ∧ ∀ e ∈ l,e.1.f.length ≤ maxLen ∧ e.1.y.length ≤ maxLen:=by
 obtain ⟨l,q,c,e,_,h1⟩:=o_list (fun a : { e : In × IA // inQ w e }=>ixV a.1) ⟨ixD,ixD_q w⟩ 74 30 29 kq kq (by decide) (fun a=>plain_in a.1.1 a.1.2) (fun n cs x h=>by
  obtain ⟨x,A,e,w1,_,w3,w4⟩:=o_in h
  exact ⟨⟨(x,A),w1,w3,w4⟩,e⟩) h
 have hr : rowL (fun a : { e : In × IA // inQ w e }=>ixV a.1) ⟨ixD,ixD_q w⟩ l q c 30 29 false = ixRow (l.map (·.1)) q c false:=by
  unfold ixRow rowL
  congr 1
  ·rw [List.length_map]
  ·funext i
   congr 1
   rw [List.getD,List.getD,List.getElem?_map]
   cases l[i]? <;> rfl
 rw [hr] at h1
 refine ⟨l.map (·.1),q,c,by rw [List.length_map]; exact e,h1,⟨?_,?_⟩,?_⟩
 ·intro p hp
  obtain ⟨e,he,rfl⟩:=List.mem_map.1 hp
  obtain ⟨a,_,rfl⟩:=List.mem_map.1 he
  exact fun p hp=>(a.2.2.2 p hp).1
 ·rintro k ⟨p,hp,hk⟩
  obtain ⟨e,he,rfl⟩:=List.mem_map.1 hp
  obtain ⟨a,_,rfl⟩:=List.mem_map.1 he
  obtain ⟨p',hp',hk'⟩:=hk
  exact (a.2.2.2 p' hp').2 k hk'
 ·intro e he
  obtain ⟨a,_,rfl⟩:=List.mem_map.1 he
  exact ⟨a.2.1,a.2.2.1⟩
theorem open_body {r : Reach} {b0 : Nat} {v : Value} {dd : DataW H} {ps : List MemPlace} (hval : Value.okWide Tryz.prog w r b0 76 v) (h : DataW.Trod enc Tryz.prog w base sp held 76 v dd ps) :
  ∃ (g : Int) (l : List (In × IA)) (q : Option Addr) (c : Nat),v = (CV.agg [.int .i64 g,.val (.slice q l.length c)]).den (fun _=>0) ∧ LastP (rowP (ixRow l q c false)) w ∧ LastP (insP l) w ∧ ∀ e ∈ l,e.1.f.length ≤ maxLen ∧ e.1.y.length ≤ maxLen:=by
 obtain ⟨cs,rfl,_⟩:=okWide_struct (P:=Tryz.prog) (t:=76) (fs:=fsOf 76) kq hval
 obtain ⟨fuel,hf⟩:=h
 obtain ⟨hl,m,hfl⟩:=fields (t:=76) kq hf
 have hn : cs.toList.length = 2:=hl.trans kq
 obtain ⟨y0,h0⟩:=hfl 0 3 0 1 kq kq
 obtain ⟨g,e0,w0⟩:=o_int h0
 obtain ⟨y1,h1⟩:=hfl 1 74 1 1 kq kq
 obtain ⟨l,q,c,e1,r1,r2,r3⟩:=o_ins h1
 have e : cs.toList = (cs.toList.drop 0).take 1 ++ ((cs.toList.drop 1).take 1 ++ cs.toList.drop 2):=(segs_eq cs.toList [1,1] 0).symm
 rw [show (Value.agg cs).cells = cs from rfl] at e0 e1
 rw [e0,e1,List.drop_eq_nil_of_le (by omega)] at e
 refine ⟨g,l,q,c,?_,r1,r2,r3⟩
 have e' : cs = ([Value.int .i64 g,Value.slice q l.length c]).toArray:=by
  rw [show [Value.int .i64 g,Value.slice q l.length c] = cs.toList from e.symm]
 rw [e']
 rfl
end
theorem trodAll_5 {P : Program} {H : Type} {enc : TypeId × Value → H} {w : World} {base : Nat} {spare : Nat → Bool} {held : Bool} {t0 t1 t2 t3 t4 : TypeId} {args : Array Value} {ds : List (DataW H)} {ps : List MemPlace} (h : DataW.TrodAll enc P w base spare held [t0,t1,t2,t3,t4] args.toList ds ps) :
  ∃ v0 v1 v2 v3 v4 d0 d1 d2 d3 d4 p0 p1 p2 p3 p4,args = #[v0,v1,v2,v3,v4] ∧ ds = [d0,d1,d2,d3,d4] ∧ ps = p0 ++ (p1 ++ (p2 ++ (p3 ++ (p4 ++ [])))) ∧ DataW.Trod enc P w base spare held t0 v0 d0 p0 ∧ DataW.Trod enc P w base spare held t1 v1 d1 p1 ∧ DataW.Trod enc P w base spare held t2 v2 d2 p2 ∧ DataW.Trod enc P w base spare held t3 v3 d3 p3 ∧ DataW.Trod enc P w base spare held t4 v4 d4 p4:=by
 obtain ⟨vs⟩:=args
 simp only at h
 rcases vs with _ | ⟨v0,_ | ⟨v1,_ | ⟨v2,_ | ⟨v3,_ | ⟨v4,_ | ⟨v5,vs⟩⟩⟩⟩⟩⟩ <;> rcases ds with _ | ⟨d0,_ | ⟨d1,_ | ⟨d2,_ | ⟨d3,_ | ⟨d4,_ | ⟨d5,ds⟩⟩⟩⟩⟩⟩ <;> simp only [DataW.TrodAll] at h
 all_goals first
  | (obtain ⟨p0,_,h0,⟨p1,_,h1,⟨p2,_,h2,⟨p3,_,h3,⟨p4,_,h4,rfl,rfl⟩,rfl⟩,rfl⟩,rfl⟩,rfl⟩:=h; exact ⟨v0,v1,v2,v3,v4,d0,d1,d2,d3,d4,p0,p1,p2,p3,p4,rfl,rfl,rfl,h0,h1,h2,h3,h4⟩)
  | (simp at h)
theorem ownK : ownKnob Tryz.prog.godebug = none:=kq
theorem persOk_of {ps : List Pers} {w : World} (h : ∀ p ∈ ps,LastP p w ∧ Stab p) : PersOk ps w:=fun p hp =>
 ⟨(h p hp).1.1,fun w' hk=>(h p hp).2 w w' hk (h p hp).1.1,(h p hp).1.2⟩
theorem laid_shaped (os : Os) (args : Array Value) : ((World.laidAll Tryz.prog os laidL).forCall (fun _ _=>0) ⟨#[],args,[]⟩).Shaped Tryz.prog:=World.shaped_of_ZipB kq kq
theorem laid_met (os : Os) (args : Array Value) : laidMetH Tryz.prog laidL ((World.laidAll Tryz.prog os laidL).forCall (fun _ _=>0) ⟨#[],args,[]⟩).memory:=by
 rw [MakeChecks.laidMetH_plain _ _ _ kq]
 exact laidMet_laidAll _ kq kq
theorem ls_stab (x : In) (A : IA) : ∀ p ∈ lsP x A,Stab p:=fun p hp=>by
 simp only [lsP,List.mem_cons,List.not_mem_nil,or_false] at hp
 rcases hp with rfl | rfl | rfl <;> exact rowP_stab _
def insZ : Value:=.agg #[.int .i64 0,.int .i64 0,.int .i64 0,.int .i64 0,.int .i64 0,.int .i64 0,.int .i64 0,.bool false,.string ⟨#[]⟩,.int .i64 0,.int .i64 0,.int .i64 0,.bool false,.string ⟨#[]⟩,.int .i64 0,.int .i64 0,.int .i64 0,.bool false,.string ⟨#[]⟩,
  .int .i64 0,.int .i64 0,.int .i64 0,.int .i64 0,.string ⟨#[]⟩,.slice none 0 0,.slice none 0 0,.slice none 0 0,.bool false,.bool false]
theorem offsets_lifted (os : Os) (started : os.Started) (H : Type) (enc : TypeId × Value → H) :
  ReturnsInHanded {} Tryz.checked os 12 .any (fun w args=>(Rows.codeOffsetsSpec.pre enc Tryz.prog Tryz.f12 [] false w args ∧ laidMetH Tryz.prog laidL w) ∧ sizedMet enc Tryz.prog Tryz.f12 (OpenSpec.ofChange Rows.codeOffsetsSpec) false w args)
   (Rows.codeOffsetsSpec.post enc Tryz.prog Tryz.f12 false true false false):=by
 refine returns_wrap (C:=Tryz.checked) (X:=fun w _=>laidMetH Tryz.prog laidL w) (fun _ _ _ hh h=>h.of_heap hh) ownK started kq Tryz.func12
  (ChangeSpec.witness_shaped (enc:=enc) (C:=Tryz.checked) (os:=os) (X:=fun w _=>laidMetH Tryz.prog laidL w) false (World.laidAll Tryz.prog os laidL) #[.agg #[.int .i64 0,.slice none 0 0],insZ,.int .i64 0,.int .i64 0,.agg #[.int .i64 0,.int .i64 0,.string ⟨#[]⟩,.slice none 0 0]] 8 (World.laidAll_os _ _ _)
   (laid_shaped os _) kq kq kq (laid_met os _)) ?_
 intro W base args ds gs before hval0 hW hL hsh
 have hval : ∀ (j : Nat) t v,Tryz.f12.params[j]? = some t → args[j]? = some v → Value.okWide Tryz.prog W .any base t v:=hval0
 have hW':=hW
 obtain ⟨p,q,hA0,hV,rfl,_,_⟩:=hW
 have hA : DataW.TrodAll enc Tryz.prog W 0 (fun _=>true) true Tryz.f12.params.toList args.toList ds p:=hA0
 have hpar : Tryz.f12.params = #[76,30,3,3,49]:=kq
 rw [hpar] at hA hval
 obtain ⟨v0,v1,v2,v3,v4,d0,d1,d2,d3,d4,p0,p1,p2,p3,p4,rfl,rfl,rfl,h0,h1,h2,h3,h4⟩:=trodAll_5 hA
 obtain ⟨rfl,rfl⟩:=trodVars_none hV
 obtain ⟨g,l,q,c,rfl,r1,r2,r3⟩:=open_body (hval 0 76 v0 rfl rfl) h0
 obtain ⟨x,A,rfl,hf,_,hy,hls⟩:=open_in (hval 1 30 v1 rfl rfl) h1
 obtain ⟨a,rfl,_,_,_⟩:=open_int Tryz.underlying3 (hval 2 3 v2 rfl rfl) h2
 obtain ⟨b,rfl,_,_,_⟩:=open_int Tryz.underlying3 (hval 3 3 v3 rfl rfl) h3
 obtain ⟨rl,X,pr,rg,rfl,hX,_,_,hrl⟩:=open_mod (hval 4 49 v4 rfl rfl) h4
 have hP : PersOk (glbP :: rowP (relRow rl X.q X.c) :: rowP (ixRow l q c false) :: insP l :: lsP x A) W:=persOk_of (fun p hp=>by
  rcases List.mem_cons.1 hp with rfl | hp
  ·exact ⟨glb_of_laid hL hsh,glbP_stab⟩
  rcases List.mem_cons.1 hp with rfl | hp
  ·exact ⟨hrl,rowP_stab _⟩
  rcases List.mem_cons.1 hp with rfl | hp
  ·exact ⟨r1,rowP_stab _⟩
  rcases List.mem_cons.1 hp with rfl | hp
  ·exact ⟨r2,insP_stab _⟩
  ·exact ⟨hls p hp,ls_stab x A p hp⟩)
 refine (CallsK.gives (xOffsets g l q c x A a b rl X pr rg hX r3 hf hy) ⟨rfl,rfl,rfl⟩ (fun _ _=>rfl) (fun _=>0) W hP).mono fun e W' ⟨he,hc⟩=>?_
 subst he
 exact ⟨_,rfl,post_true rfl kq (by rw [hpar]; exact fun t ht=>of_decide_eq_true (List.all_eq_true.1 (show ([76,30,3,3,49].all fun u=>decide (u < Tryz.prog.types.size)) = true by kernel_rfl) t ht)) hW' rfl hc⟩
theorem offsets_card_holds : Rows.CodeOffsetsCardSaid:=codeOffsets_card (codeOffsets_holds (fun os started H enc=>offsets_lifted os started H enc))
end Go.Proofs.YteinbljapojcgaaGreatDoor
end
