/- A symbolic run of the program that Lean checks, and what the functions of the program come to by it: part 5 of 11. -/
import Derived.Test.YteinbljapojcgaaGreatDoorZAD
set_option linter.unusedVariables false
section
namespace Go.SX
open Go
structure Shape {ι : Type} (sx : ι → St) (sl : List (Nat × RV)) (n nx fx : Nat) (ps : List Pers) : Prop where
 slots : ∀ x,(sx x).slots = sl
 n : ∀ x,(sx x).n = n
 next : ∀ x,(sx x).next = nx
 fx : ∀ x,(sx x).fx = fx
 pers : ∀ x,(sx x).pers = ps
 gs : ∀ x,(sx x).gs = []
 defs : ∀ x,(sx x).defs = []
 keys : ∀ x,keysLt (sx x).nr (sx x).rows = true
def iterOf (c : Cfg) (g : Operand) : Option (FuncId × List CV × (List (Nat × Blk) × Nat × List (Nat × Row) × Nat)) :=
 match calleeS c.st none (.value g) with
 | some (f,caps)=>match canon c.st.heap [] (svsOf caps) with
  | (hs,rs)=>match renC hs rs caps,pickSt [] hs rs [] c.st with
   | some ys,some s'=>some (f,ys,fragOf s')
   | _,_=>none
 | none=>none
def meets (l : List Nat) : List Nat → Bool
 | []=>false
 | b :: m=>match hasNat l b with
  | true=>true
  | false=>meets l m
theorem meets_no {l m : List Nat} (h : meets l m = false) : ∀ b ∈ m,b ∉ l:=by
 induction m with
 | nil=>intro b hb; simp at hb
 | cons c m ih =>
  intro b hb hl
  simp only [meets] at h
  split at h
  ·cases h
  ·rename_i hn
   rcases List.mem_cons.1 hb with rfl | hb
   ·rw [(hasNat_mem l b).2 hl] at hn; cases hn
   ·exact ih h b hb hl
def apart (ks : List Nat) (c : Cfg) (g : Operand) : Bool :=
 match calleeS c.st none (.value g) with
 | some (_,caps)=>match meets (canon c.st.heap [] (svsOf caps)).1 (canon c.st.heap (upto c.st.fx 0) (svsSlots c.st.slots ks)).1 with
  | true=>false
  | false=>true
 | none=>false
def leftSt (s : St) (l r : Nat) (q : Loop) : St:={ withL s l r q with defs:=[⟨.collected r,#[]⟩] }
section
variable {C : Ctx}
theorem RoundR.out {ι : Type} {sx : ι → St} {sl : List (Nat × RV)} {n nx fx : Nat} {ps : List Pers} (hsh : Shape sx sl n nx fx ps) {x x' : ι} {l r : Nat} {q : Loop} {jump : Option Code} {ρ ρ' : Nat → Nat} {a : Act} {W W' : World}
  (hS : Sat C ρ (withL (sx x) l r (recOf q none)) a (asW C.w0 W)) (hF : FSat ρ' (withL (sx x') l r (recOf q jump)) W') (hρ : ∀ b,b < (withL (sx x) l r (recOf q none)).next → ρ' b = ρ b)
  (hwf : ∀ j v,look (sx x').slots j = some v → v.wf (withL (sx x') l r (recOf q jump)).W) (hch : Chg (touch ρ (withL (sx x) l r (recOf q none))) W W')
  (ht : ∀ k,touch ρ' (withL (sx x') l r (recOf q jump)) k → touch ρ (withL (sx x) l r (recOf q none)) k ∨ W.heap.size ≤ k) : Sat C ρ' (withL (sx x') l r (recOf q jump)) a (asW C.w0 W'):=by
 have hnew : ∀ k,touch ρ' (withL (sx x') l r (recOf q jump)) k → C.w0.heap.size ≤ k ∨ C.S k:=by
  intro k hk
  rcases ht k hk with h | h
  ·exact touch_new hS h
  ·have : C.w0.heap.size ≤ W.heap.size:=hS.chg.size
   exact .inl (Nat.le_trans this h)
 have hn1 : ∀ x,(withL (sx x) l r (recOf q none)).next = nx:=fun x=>hsh.next x
 have hn2 : ∀ x,(withL (sx x) l r (recOf q jump)).next = nx:=fun x=>hsh.next x
 have hslot : ∀ i v,look (sx x').slots i = some v → look (withL (sx x) l r (recOf q none)).slots i = some v:=fun i v hv=>by
  show look (sx x).slots i = some v
  rw [hsh.slots] at hv ⊢; exact hv
 refine ⟨hS.n.trans ((hsh.n x).trans (hsh.n x').symm),?_,?_,?_,hF.inj,hF.lt,?_,⟨rfl,rfl,rfl,Nat.le_trans hS.chg.size hch.size,?_⟩,?_,hF.rowsD,fun p hp=>⟨(hF.pers p hp).2.1 _ (fun _ _=>rfl),(hF.pers p hp).2⟩,?_⟩
 ·intro i v hv
  obtain ⟨k1,k2⟩:=hS.slots i v (hslot i v hv)
  refine ⟨?_,hwf i v hv⟩
  rw [RV.den_congr (W:=(withL (sx x) l r (recOf q none)).W) (ρ:=ρ) (ρ':=ρ') hρ v k2]
  exact k1
 ·intro i g pol b y hv
  have h1:=(hS.grds i g pol b y (hslot i _ hv)).1
  rw [show (withL (sx x) l r (recOf q none)).gs = [] from hsh.gs x] at h1
  cases h1
 ·intro b blk hb
  obtain ⟨k1,k2,k3⟩:=hF.heap b blk hb
  exact ⟨k1,k2,k3,fun hrw=>hnew _ (.inl ⟨b,blk,hb,hrw,rfl⟩)⟩
 ·exact hS.defers.trans ((hsh.defs x).trans (hsh.defs x').symm)
 ·intro k hk hnS
  have h1 : W'.heap[k]? = W.heap[k]?:=hch.block k (Nat.lt_of_lt_of_le hk hS.chg.size) (fun htk=>(touch_new hS htk).elim (fun h=>by omega) hnS)
  show W'.heap[k]? = _
  rw [h1]
  exact hS.chg.block k hk hnS
 ·intro r' R hR
  obtain ⟨k1,k2,k3⟩:=hF.rows r' R hR
  exact ⟨k1,k2.congr (fun _ _=>rfl),fun k hk=>⟨(k3 k hk).1,(k3 k hk).2,fun ho=>hnew _ (.inr ⟨r',R,hR,ho,hk⟩)⟩⟩
 ·intro b hb
  have hb' : b < (withL (sx x) l r (recOf q none)).fx:=by
   show b < (sx x).fx
   rw [hsh.fx]
   have : b < (sx x').fx:=hb
   rw [hsh.fx] at this; exact this
  obtain ⟨h1,h2⟩:=hS.fix b hb'
  refine ⟨?_,(hρ b h1).trans h2⟩
  rw [hn2]
  rw [hn1] at h1
  exact h1
theorem objAt {s : St} (hk : keysLt s.nr s.rows = true) {l r : Nat} {q : Loop} {ρ : Nat → Nat} {a : Act} {W : World} (hS : Sat C ρ (withL s l r q) a (asW C.w0 W)) : W.heap[l]? = some (.loop q):=by
 obtain ⟨_,hok,_⟩:=hS.rows _ _ (withL_rows (keysLt_ok hk) l r q).2.2
 obtain ⟨g,h1,h2⟩:=hok.obj _ rfl
 cases h1
 exact h2
theorem sizeL {s : St} (hk : keysLt s.nr s.rows = true) {l r : Nat} {q : Loop} {ρ : Nat → Nat} {a : Act} {W W' : World} (hS : Sat C ρ (withL s l r q) a (asW C.w0 W)) (hl : C.w0.heap.size ≤ l)
  (hO : ∀ k,(domS ρ (withL s l r q) k ∨ (k < C.w0.heap.size ∧ ¬ C.S k)) → W'.heap[k]? = W.heap[k]?) : C.w0.heap.size ≤ W'.heap.size:=by
 have h1:=hO l (.inl (.inr (.inl ⟨_,_,(withL_rows (keysLt_ok hk) l r q).2.2,objRow_uses.2 rfl⟩)))
 have h2:=objAt hk hS
 rw [h2] at h1
 have:=(Array.getElem?_eq_some_iff.1 h1).1
 omega
def ydOf {ι : Type} (C : Ctx) (sx : ι → St) (sl : List (Nat × RV)) (n nx fx : Nat) (ps : List Pers) (hsh : Shape sx sl n nx fx ps) (pre : Nat → ι → Prop) (prex : Code → ι → Prop) (N : Nat) (enc : Nat → List CV) (encV : Nat → Array Value)
  (henc : ∀ i ρ,((enc i).map (CV.den ρ)).toArray = encV i) (psT : Array Tmp) (hsz : ∀ i,(enc i).length = psT.size) (hpl : ∀ i,psOk n (psT.toList.zip (enc i)) = true) (a : Act) (l r : Nat) (q : Loop) (hq : q.fn = C.f ∧ q.params = psT ∧ q.tmps = a.tmps) (hl : C.w0.heap.size ≤ l) (w1 : World)
  (hround : ∀ i x ρ W,i < N → pre i x → V ⟨C.P,C.f,RoundR sx pre prex l r q i (withL (sx x) l r (recOf q none)) ρ W,touch ρ (withL (sx x) l r (recOf q none)),W,ρ,some l⟩
   ⟨[.code q.assign,.beginRound,.code q.body],roundSt (withL (sx x) l r (recOf q none)) (psT.toList.zip (enc i))⟩) : Yd C.P l N encV w1 where
 J:=fun i O Ow W=>∃ x ρ,pre i x ∧ Sat C ρ (withL (sx x) l r (recOf q none)) a (asW C.w0 W) ∧ (∀ k,O k ↔ (domS ρ (withL (sx x) l r (recOf q none)) k ∨ (k < C.w0.heap.size ∧ ¬ C.S k))) ∧ ∀ k,Ow k ↔ touch ρ (withL (sx x) l r (recOf q none)) k
 Jx:=fun O Ow W=>∃ cd x ρ,prex cd x ∧ Sat C ρ (withL (sx x) l r (recOf q (some cd))) a (asW C.w0 W) ∧ (∀ k,O k ↔ (domS ρ (withL (sx x) l r (recOf q (some cd))) k ∨ (k < C.w0.heap.size ∧ ¬ C.S k))) ∧ ∀ k,Ow k ↔ touch ρ (withL (sx x) l r (recOf q (some cd))) k
 st:=by
  rintro i O Ow W W' ⟨x,ρ,h1,h2,h3,h4⟩ hO
  exact ⟨x,ρ,h1,h2.move (fun k hk=>hO k ((h3 k).2 hk)) (sizeL (hsh.keys x) h2 hl (fun k hk=>hO k ((h3 k).2 hk))) rfl rfl rfl,h3,h4⟩
 stx:=by
  rintro O Ow W W' ⟨cd,x,ρ,h1,h2,h3,h4⟩ hO
  exact ⟨cd,x,ρ,h1,h2.move (fun k hk=>hO k ((h3 k).2 hk)) (sizeL (hsh.keys x) h2 hl (fun k hk=>hO k ((h3 k).2 hk))) rfl rfl rfl,h3,h4⟩
 lt:=by
  rintro i O Ow W ⟨x,ρ,h1,h2,h3,h4⟩ k hk
  rcases (h3 k).1 hk with h | h
  ·exact dom_lt h2 h
  ·exact Nat.lt_of_lt_of_le h.1 h2.chg.size
 ltx:=by
  rintro O Ow W ⟨cd,x,ρ,h1,h2,h3,h4⟩ k hk
  rcases (h3 k).1 hk with h | h
  ·exact dom_lt h2 h
  ·exact Nat.lt_of_lt_of_le h.1 h2.chg.size
 own:=by
  rintro i O Ow W ⟨x,ρ,h1,h2,h3,h4⟩ k hk
  exact (h3 k).2 (.inl (touch_dom h2 ((h4 k).1 hk)))
 y:=by
  rintro i O Ow W hi ⟨x,ρ,h1,h2,h3,h4⟩ _ _ _
  obtain ⟨hq1,hq2,hq3⟩:=hq
  have hw : W.heap[l]? = some (.loop (recOf q none)):=objAt (hsh.keys x) h2
  have hgs : (withL (sx x) l r (recOf q none)).gs = []:=hsh.gs x
  have hds : (withL (sx x) l r (recOf q none)).defs = []:=hsh.defs x
  refine ⟨C.f,((psT.zip (encV i)).foldl (fun tmps (t,a)=>tmps.setIfInBounds t a) a.tmps),q.assign,q.body,?_,fun c cs=>?_⟩
  ·have:=run_yield (P:=C.P) (args:=encV i) hw (by show _ = q.params.size; rw [← henc i id,hq2,← hsz i]; simp)
   rw [this]
   show Result.ok (Next.round l q.fn ((q.params.zip (encV i)).foldl _ q.tmps) q.assign q.body) W = _
   rw [hq1,hq2,hq3]
  ·have hS:=roundSat (W:=W) h2 rfl hgs hds (psT.toList.zip (enc i)) (by show psOk (sx x).n _ = true; rw [hsh.n]; exact hpl i)
    (RoundR sx pre prex l r q i (withL (sx x) l r (recOf q none)) ρ W) l (tmps:=(psT.zip (encV i)).foldl (fun tmps (t,a)=>tmps.setIfInBounds t a) a.tmps) (by
     rw [← henc i ρ,← Array.foldl_toList,Array.toList_zip,List.zip_map_right,List.foldl_map]; rfl)
   obtain ⟨e,W',hR,c',cs',v,hcs,he,hst⟩:=hround i x ρ W hi h1 ρ _ _ hS { (default : Frame) with fn:=C.f,kind:=.normal,roundOf:=some l } rfl rfl rfl (c :: cs) (by simp)
   obtain ⟨jump,x',ρ',he',hpre,hF,hρ,hwf,hch,hdom,htc⟩:=hR
   cases hcs
   have hv : v = .bool jump.isNone:=by rw [he] at he'; injection he'
   have hS':=RoundR.out hsh h2 hF hρ hwf hch htc
   refine ⟨v,W',⟨fun k=>domS ρ' (withL (sx x') l r (recOf q jump)) k ∨ (k < C.w0.heap.size ∧ ¬ C.S k),touch ρ' (withL (sx x') l r (recOf q jump)),⟨hch.os,hch.tape,hch.output,hch.size,fun k hk hn=>hch.block k hk (fun h=>hn ((h4 k).2 h))⟩,?_,?_,?_⟩,?_⟩
   ·rintro k (h | h)
    ·rcases hdom k h with (h | h) | h
     ·exact .inl ((h3 k).2 (.inl h))
     ·exact .inl ((h3 k).2 (.inl (touch_dom h2 h)))
     ·exact .inr h
    ·exact .inl ((h3 k).2 (.inr h))
   ·intro k h
    rcases htc k h with h | h
    ·exact .inl ((h4 k).2 h)
    ·exact .inr h
   ·cases jump with
    | none=>exact .inl ⟨hv,x',ρ',hpre,hS',fun k=>Iff.rfl,fun k=>Iff.rfl⟩
    | some cd=>exact .inr ⟨hv,cd,x',ρ',hpre,hS',fun k=>Iff.rfl,fun k=>Iff.rfl⟩
   ·have hfr : Frame.round l C.f ((psT.zip (encV i)).foldl (fun tmps (t,a)=>tmps.setIfInBounds t a) a.tmps) q.assign q.body .normal =
      ({ (default : Frame) with fn:=C.f,kind:=.normal,roundOf:=some l } : Frame).atR ⟨(psT.zip (encV i)).foldl (fun tmps (t,a)=>tmps.setIfInBounds t a) a.tmps,[]⟩ [.code q.assign,.beginRound,.code q.body]:=by
     simp [Frame.round,Frame.atR]
    rw [hfr]
    exact hst
theorem pick_look {s s' : St} {ks hs rs : List Nat} {pm : List Bool} (hpk : pickSt ks hs rs pm s = some s') {b : Nat} (hb : b < s'.next) : hs.getD b 0 ∈ hs ∧ ∃ blk,look s.heap (hs.getD b 0) = some blk:=by
 unfold pickSt at hpk
 split at hpk
 case h_2=>cases hpk
 rename_i sl hpp rows _ _ _ hhp _
 have hs':=Option.some.inj hpk
 have hlen : b < hs.length:=by rw [← hs'] at hb; exact hb
 have hmem : hs.getD b 0 ∈ hs:=by simp [List.getD,List.getElem?_eq_getElem hlen]
 refine ⟨hmem,?_⟩
 have : ∀ (l : List Nat) (i0 : Nat) (r : List (Nat × Blk)),pickHeap hs rs s.heap l i0 = some r → ∀ b ∈ l,∃ blk,look s.heap b = some blk:=by
  intro l
  induction l with
  | nil=>intro i0 r _ b hb; simp at hb
  | cons d l ih =>
   intro i0 r hr b hb
   simp only [pickHeap] at hr
   split at hr
   ·rename_i blk hc
    split at hr
    ·split at hr
     ·rename_i r' hr'
      rcases List.mem_cons.1 hb with rfl | hb
      ·exact ⟨blk,hc⟩
      ·exact ih _ _ hr' b hb
     ·cases hr
    ·cases hr
   ·cases hr
 exact this hs 0 hpp hhp _ hmem
theorem pick_lt {ρ : Nat → Nat} {s s' : St} {a : Act} {w : World} (hS : Sat C ρ s a w) {ks hs rs : List Nat} {pm : List Bool} (hpk : pickSt ks hs rs pm s = some s') (b : Nat) (hb : b < s'.next) : hs.getD b 0 < s.next:=by
 obtain ⟨_,blk,hbk⟩:=pick_look hpk hb
 exact (hS.heap _ blk hbk).1
theorem pick_row {s s' : St} {ks hs rs : List Nat} {pm : List Bool} (hpk : pickSt ks hs rs pm s = some s') {r : Nat} {R : Row} (hR : look s'.rows r = some R) : ∃ r2,look s.rows r2 = some R:=by
 unfold pickSt at hpk
 split at hpk
 case h_2=>cases hpk
 rename_i sl hpp rows _ _ _ _ hrows
 have hs':=Option.some.inj hpk
 rw [← hs'] at hR
 obtain ⟨r2,_,_,h3⟩:=pickRows_ok hrows r R hR
 exact ⟨r2,h3⟩
theorem pick_blk {s s' : St} {ks hs rs : List Nat} {pm : List Bool} (hpk : pickSt ks hs rs pm s = some s') {b : Nat} {blk : Blk} (hb : look s'.heap b = some blk) : ∃ blk0,look s.heap (hs.getD b 0) = some blk0 ∧ blk.rw = blk0.rw:=by
 unfold pickSt at hpk
 split at hpk
 case h_2=>cases hpk
 rename_i sl hpp rows _ _ _ hhp _
 have hs':=Option.some.inj hpk
 rw [← hs'] at hb
 obtain ⟨b0,blk0,_,h2,h3,_,_,h6⟩:=pickHeap_ok hhp b blk hb
 simp only [Nat.sub_zero] at h2
 exact ⟨blk0,by simp [List.getD,h2,h3],h6⟩
theorem pick_pers {s s' : St} {ks hs rs : List Nat} {pm : List Bool} (hpk : pickSt ks hs rs pm s = some s') {p : Pers} (hp : p ∈ s'.pers) : p ∈ s.pers:=by
 unfold pickSt at hpk
 split at hpk
 case h_2=>cases hpk
 have hs':=Option.some.inj hpk
 rw [← hs'] at hp
 exact keepP_sub _ _ _ hp
theorem Sat.fragAt {ρ : Nat → Nat} {s s' F : St} {a : Act} {w : World} (hS : Sat C ρ s a w) {hs rs : List Nat} (hpk : pickSt [] hs rs [] s = some s') (hfr : fragOf s' = fragOf F) (pi : List (Nat × Bool))
  (hpi : getP pi s.pers = some (askP C.w0.heap.size C.S pi F.pers)) : FSat (fun i=>ρ (hs.getD i 0)) F w:=by
 have hFs:=(hS.pick hpk).toF
 have hpn : s'.next = F.next:=by simp only [fragOf,Prod.mk.injEq] at hfr; exact hfr.2.1
 refine hFs.withPers hfr (fun q hq=>?_)
 have hbase : ∀ q' ∈ s.pers,q'.φ w ∧ (∀ w',(∀ k,q'.D k → w'.heap[k]? = w.heap[k]?) → q'.φ w') ∧
   ∀ k,q'.D k → k < w.heap.size ∧ (∀ b,b < F.next → ρ (hs.getD b 0) ≠ k) ∧ ∀ r R,look F.rows r = some R → R.own = true → ¬ R.uses k:=by
  intro q' hq'
  obtain ⟨p1,p2,p3⟩:=hS.pers q' hq'
  refine ⟨p1,p2,fun k hD=>⟨(p3 k hD).1,fun b hb'=>?_,fun r R hR ho hu'=>?_⟩⟩
  ·exact (p3 k hD).2.1 _ (pick_lt hS hpk _ (by rw [hpn]; exact hb'))
  ·unfold pickSt at hpk
   split at hpk
   case h_2=>cases hpk
   rename_i sl hpp rows _ _ _ _ hrows
   have hs':=Option.some.inj hpk
   have hR' : look s'.rows r = some R:=by
    simp only [fragOf,Prod.mk.injEq] at hfr; rw [hfr.2.2.1]; exact hR
   rw [← hs'] at hR'
   obtain ⟨r2,_,_,h3⟩:=pickRows_ok hrows r R hR'
   exact (p3 k hD).2.2 r2 R h3 ho hu'
 rcases askP_mem (n0:=C.w0.heap.size) (S:=C.S) (l:=pi) q hq with h1 | h1
 ·exact hbase q (getP_mem hpi q h1)
 ·obtain ⟨p1,p2,p3⟩:=hbase _ (getP_mem hpi _ h1)
  exact ⟨p1.1,fun w' hw'=>(p2 w' hw').1,p3⟩
theorem rwAll_ok : ∀ {l : List (Nat × Blk)} {b : Nat} {blk : Blk},rwAll l = true → look l b = some blk → blk.rw = true
 | (k,q) :: l,b,blk,h,hl=>by
  simp only [rwAll] at h
  split at h
  ·rename_i hq
   simp only [look] at hl
   split at hl
   ·cases hl; exact hq
   ·exact rwAll_ok h hl
  ·cases h
theorem V.rangeF {ι : Type} (sx : ι → St) {sl : List (Nat × RV)} {n nx fx : Nat} {ps : List Pers} (hsh : Shape sx sl n nx fx ps) (pre : Nat → ι → Prop) (prex : Code → ι → Prop) {N : Nat} (enc : Nat → List CV) {encV : Nat → Array Value}
  (henc : ∀ i ρ,((enc i).map (CV.den ρ)).toArray = encV i) (x0 : ι) (ks : List Nat) (pm : List Bool) (pi : List (Nat × Bool)) {g : Operand} {psT : Array Tmp} {asg body : Code} {k : List Item} {c : Cfg} {gf : FuncId} {ys : List CV} {F : St}
  (ht : c.todo = .code (.rangeFunc g psT asg body) :: k) (hr : C.round = none) (hp : headK ks pm c = some (sx x0)) (hpre : pre 0 x0) (hit : Iter C.P gf ys F N encV) (hen : entersB C.P gf = true)
  (hF : iterOf c g = some (gf,ys,fragOf F)) (hFs : (apart ks c g && (F.rows.isEmpty && (rwAll F.heap && told F.next F.heap))) = true) (hpi : getP pi c.st.pers = some (askP C.w0.heap.size C.S pi F.pers))
  (hsz : ∀ i,(enc i).length = psT.size) (hpl : ∀ i,psOk n (psT.toList.zip (enc i)) = true)
  (hround : ∀ i x ρ W l r q,i < N → pre i x → V ⟨C.P,C.f,RoundR sx pre prex l r q i (withL (sx x) l r (recOf q none)) ρ W,touch ρ (withL (sx x) l r (recOf q none)),W,ρ,some l⟩
   ⟨[.code asg,.beginRound,.code body],roundSt (withL (sx x) l r (recOf q none)) (psT.toList.zip (enc i))⟩)
  (hend : ∀ x l r q,pre N x → V C ⟨k,leftSt (sx x) l r q⟩) (hjump : ∀ cd x l r q,prex cd x → V C ⟨.code cd :: k,leftSt (sx x) l r q⟩) : V C c:=by
 intro ρ a w hS b hb hk hro cs hcs
 obtain ⟨todo,st⟩:=c
 simp only at ht hS
 subst ht
 simp only [Bool.and_eq_true] at hFs
 obtain ⟨hap,hrw0,hrwF,htold⟩:=hFs
 -- the function
 unfold iterOf at hF
 unfold apart at hap
 split at hF
 case h_2=>cases hF
 rename_i f caps hcal
 rw [hcal] at hap
 simp only at hap
 split at hF
 rename_i hs rs hcan
 split at hF
 case h_2=>cases hF
 rename_i ys1 s' hren hpk
 simp only [Option.some.injEq,Prod.mk.injEq] at hF
 obtain ⟨rfl,rfl,hfr⟩:=hF
 -- the loop's own side
 unfold headK at hp
 rw [hcan] at hap
 split at hp
 rename_i hsO rsO hcanO
 rw [hcanO] at hap
 simp only at hap
 have hmeet : meets hs hsO = false:=by
  cases e : meets hs hsO with
  | true=>rw [e] at hap; cases hap
  | false=>rfl
 have hO:=hS.pick hp
 have ha : a.defers = []:=hO.defers.trans (hsh.defs x0)
 -- the two objects
 let q0 : Loop:={ state:=.ready,pending:=none,fn:=C.f,tmps:=a.tmps,params:=psT,assign:=asg,body:=body,defers:=w.heap.size }
 have hsz1 : (w.alloc (.deferred (some []))).heap.size = w.heap.size + 1:=World.size_alloc _ _
 have hO2:=(hO.newObj (.deferred (some []))).newObj (.loop q0)
 rw [hsz1] at hO2
 have hlt0:=keysLt_ok (hsh.keys x0)
 have hO3 : Sat C (fun i=>ρ (hsO.getD i 0)) (withL (sx x0) (w.heap.size + 1) w.heap.size (recOf q0 none)) a ((w.alloc (.deferred (some []))).alloc (.loop q0)):=hO2.rowsEq _ (withL_rows hlt0 (w.heap.size + 1) w.heap.size q0).1
 have hS1:=(hS.below (Chg.alloc _ w (.deferred (some [])))).below (Chg.alloc _ (w.alloc (.deferred (some []))) (.loop q0))
 generalize hw1 : (w.alloc (.deferred (some []))).alloc (.loop q0) = w1 at hO3 hS1 hO2
 have hl : C.w0.heap.size ≤ w.heap.size + 1:=Nat.le_trans hS.chg.size (Nat.le_succ _)
 let Y:=ydOf C sx sl n nx fx ps hsh pre prex N enc encV henc psT hsz hpl a (w.heap.size + 1) w.heap.size q0 ⟨rfl,rfl,rfl⟩ hl w1 (fun i x ρ W=>hround i x ρ W _ _ q0)
 have hFS:=hS1.fragAt hpk hfr pi hpi
 have hpn : s'.next = F.next:=by simp only [fragOf,Prod.mk.injEq] at hfr; exact hfr.2.1
 have hph : s'.heap = F.heap:=by simp only [fragOf,Prod.mk.injEq] at hfr; exact hfr.1
 have hρlt : ∀ b,b < F.next → ρ (hs.getD b 0) < w.heap.size:=fun b hb=>hS.lt _ (pick_lt hS hpk b (by rw [hpn]; exact hb))
 have hne : ∀ b',b' < (sx x0).next → ∀ b,b < F.next → ρ (hs.getD b 0) ≠ ρ (hsO.getD b' 0):=by
  intro b' hb' b hb e
  have h1:=pick_look hp hb'
  have h2:=pick_look hpk (b:=b) (by rw [hpn]; exact hb)
  have:=hS.inj _ _ (pick_lt hS hpk b (by rw [hpn]; exact hb)) (pick_lt hS hp b' hb') e
  exact meets_no hmeet _ h1.1 (this ▸ h2.1)
 have hrowO : ∀ q' R,look (withL (sx x0) (w.heap.size + 1) w.heap.size (recOf q0 none)).rows q' = some R → (∃ r2,look st.rows r2 = some R) ∨ ∀ k,R.uses k → w.heap.size ≤ k:=by
  intro q' R h1
  simp only [withL,look_app] at h1
  cases e : look (sx x0).rows q' with
  | some R'=>rw [e] at h1; cases h1; exact .inl (pick_row hp e)
  | none =>
   rw [e] at h1
   simp only [look] at h1
   split at h1
   ·cases h1; exact .inr (fun k hk=>Nat.le_of_eq (objRow_uses.1 hk))
   ·split at h1
    ·cases h1; exact .inr (fun k hk=>by have:=objRow_uses.1 hk; omega)
    ·cases h1
 have hdis : ∀ k,(domS (fun i=>ρ (hsO.getD i 0)) (withL (sx x0) (w.heap.size + 1) w.heap.size (recOf q0 none)) k ∨ (k < C.w0.heap.size ∧ ¬ C.S k)) → ∀ b,b < F.next → ρ (hs.getD b 0) ≠ k:=by
  rintro k ((⟨b',h1,rfl⟩ | ⟨q',R,h1,h2⟩ | ⟨p,h1,h2⟩) | ⟨h1,h2⟩) b hb
  ·exact hne b' h1 b hb
  ·rcases hrowO q' R h1 with ⟨r2,hR⟩ | h
   ·exact ((hS.rows r2 R hR).2.2 k h2).2.1 _ (pick_lt hS hpk b (by rw [hpn]; exact hb))
   ·have:=h k h2; have:=hρlt b hb; omega
  ·exact ((hS.pers p (pick_pers hp h1)).2.2 k h2).2.1 _ (pick_lt hS hpk b (by rw [hpn]; exact hb))
  ·intro e
   obtain ⟨blk,hblk⟩:=told_ok htold hb
   have hrw:=rwAll_ok hrwF hblk
   rw [← hph] at hblk
   obtain ⟨blk0,hb0,hb1⟩:=pick_blk hpk hblk
   rcases (hS.heap _ blk0 hb0).2.2.2 (by rw [← hb1]; exact hrw) with h | h
   ·omega
   ·rw [e] at h; exact h2 h
 have hpO : ∀ p ∈ F.pers,∀ k,p.D k → ¬ touch (fun i=>ρ (hsO.getD i 0)) (withL (sx x0) (w.heap.size + 1) w.heap.size (recOf q0 none)) k:=by
  intro p hpF k hD htk
  have hp3 : k < w.heap.size ∧ (∀ b,b < st.next → ρ b ≠ k) ∧ ∀ r R,look st.rows r = some R → R.own = true → ¬ R.uses k:=by
   rcases askP_mem (n0:=C.w0.heap.size) (S:=C.S) (l:=pi) p hpF with h1 | h1
   ·exact (hS.pers p (getP_mem hpi p h1)).2.2 k hD
   ·exact (hS.pers _ (getP_mem hpi _ h1)).2.2 k hD
  rcases htk with ⟨b,blk,h1,_,h3⟩ | ⟨q',R,h1,h2,h3⟩
  ·exact hp3.2.1 _ (pick_lt hS hp b (hO3.heap b blk h1).1) h3
  ·rcases hrowO q' R h1 with ⟨r2,hR⟩ | h
   ·exact hp3.2.2 r2 R hR h2 h3
   ·have:=h k h3; omega
 have hcalls:=hit (fun i=>ρ (hs.getD i 0)) w1 (w.heap.size + 1) Y
  (fun k=>domS (fun i=>ρ (hsO.getD i 0)) (withL (sx x0) (w.heap.size + 1) w.heap.size (recOf q0 none)) k ∨ (k < C.w0.heap.size ∧ ¬ C.S k)) (touch (fun i=>ρ (hsO.getD i 0)) (withL (sx x0) (w.heap.size + 1) w.heap.size (recOf q0 none)))
  hFS ⟨x0,_,hpre,hO3.toAs,fun k=>Iff.rfl,fun k=>Iff.rfl⟩ (fun k hk=>⟨hdis k hk,fun r R hR=>by
   have : F.rows = []:=List.isEmpty_iff.1 hrw0
   rw [this] at hR; cases hR⟩) hpO
 -- the call
 have hxs : evs st none (rangeCall g (w.heap.size + 1)).args.toList = some [.one (.val (.func (.yield (w.heap.size + 1)) #[] #[]))]:=rfl
 have hinv:=calleeS_sound (cl:=rangeCall g (w.heap.size + 1)) (t:=0) (P:=C.P) hS1.toP (GcOk.none st) hcal hxs (enters hen)
 have hren' : ys1.map (CV.den (fun i=>ρ (hs.getD i 0))) = caps.map (CV.den ρ):=by
  unfold pickSt at hpk
  split at hpk
  case h_2=>cases hpk
  rename_i sl hpp rows _ _ _ _ hrows
  have hRR : RowsRen rs st.W ⟨hs.length,rs.length,rows⟩:=by
   intro r' r R hr hl
   obtain ⟨r2,_,h2,h3⟩:=pickRows_ok hrows r' R hl
   simp only [Nat.sub_zero] at h2
   rw [hr] at h2
   cases h2
   exact h3
  exact (renC_ok (ρ:=ρ) (W:=st.W) (W':=⟨hs.length,rs.length,rows⟩) rfl rfl hRR hren).1
 have hargs : (([.one (.val (.func (.yield (w.heap.size + 1)) #[] #[]))] ++ caps : List CV).map (CV.den ρ)).toArray = #[Value.func (.yield (w.heap.size + 1)) #[] #[]] ++ (ys1.map (CV.den (fun i=>ρ (hs.getD i 0)))).toArray:=by
  rw [hren']
  apply Array.ext'
  simp [CV.den,SV.den]
 rw [hargs,Sem.run_bind] at hinv
 cases hres : (resolve a.eval (rangeCall g (w.heap.size + 1)) 0).run C.P w1 with
 | halt x w2=>rw [hres] at hinv; cases hinv
 | ok d w2 =>
  rw [hres] at hinv
  simp only [Result.andThen_ok] at hinv
  have he : (Instr.enterLoop b.fn a.tmps psT asg body b.roundOf).run C.P w = .ok (w.heap.size + 1,[{ target:=.collected w.heap.size,args:=#[] }]) w1:=by
   rw [hro,hr,hb,← hw1]
   exact run_enterLoop_outer C.f a.tmps psT asg body
  have henter:=stepR_rangeFunc (P:=C.P) (b:=b) (a:=a) (k:=k) (cs:=cs) (w:=w) he hres hinv
  obtain ⟨e,w3,fr,hR,hsteps,hfn,hleave⟩:=hcalls (b.atR { a with defers:=[{ target:=.collected w.heap.size,args:=#[] }] ++ a.defers } (.inRangeFunc (w.heap.size + 1) :: k) :: cs)
  obtain ⟨⟨v,rfl⟩,hos,htp,hout,O',Ow',hJ⟩:=hR
  rw [ha] at hsteps henter
  have sback : Steps C.P (lone (b.atR a (.code (.rangeFunc g psT asg body) :: k)) cs w) (lone (b.atR { a with defers:=[{ target:=.collected w.heap.size,args:=#[] }] } (.endRangeFunc (w.heap.size + 1) :: k)) cs w3):=by
   refine .head henter (Steps.trans hsteps (.one ?_))
   rw [← finish_atR_inRangeFunc (w.heap.size + 1) v]; exact step_leave_returned hleave
  have hw1os : w1.os = C.w0.os ∧ w1.tape = C.w0.tape ∧ w1.output = C.w0.output:=⟨hS1.chg.os,hS1.chg.tape,hS1.chg.output⟩
  have hdone : ∀ (x : ι) (ρ3 : Nat → Nat) (jump : Option Code) ,Sat C ρ3 (withL (sx x) (w.heap.size + 1) w.heap.size (recOf q0 jump)) a (asW C.w0 w3) →
    (∀ q,V C ⟨(jump.map Item.code).toList ++ k,leftSt (sx x) (w.heap.size + 1) w.heap.size q⟩) → ∃ e w',C.R e w' ∧ Fin C (lone (b.atR a (.code (.rangeFunc g psT asg body) :: k)) cs w) cs e w':=by
   intro x ρ3 jump hS3 hV
   have hw3:=objAt (hsh.keys x) hS3
   have hbusy : (recOf q0 jump).state ≠ .busy:=by
    cases jump with
    | none=>intro h; cases h
    | some _=>intro h; cases h
   have hendL:=run_endLoop (P:=C.P) hw3 hbusy
   have hS4 : Sat C ρ3 (withL (sx x) (w.heap.size + 1) w.heap.size (recOf q0 jump)) a w3:=hS3.move (fun _ _=>rfl) hS3.chg.size (hos.trans hw1os.1) (htp.trans hw1os.2.1) (hout.trans hw1os.2.2)
   have hS5:=Sat.putL (fx:=(sx x).fx) (keysLt_ok (hsh.keys x)) hS4 { recOf q0 jump with state:=.exhausted }
   have hS6:=hS5.setDefs [{ target:=.collected w.heap.size,args:=#[] }]
   obtain ⟨e,w',h1,h2⟩:=hV _ ρ3 _ _ hS6 b hb hk hro cs hcs
   exact ⟨e,w',h1,h2.of_steps (Steps.trans sback (.one (stepR_endRangeFunc hendL)))⟩
  rcases hJ with ⟨x,ρ3,h1,h2,_⟩ | ⟨cd,x,ρ3,h1,h2,_⟩
  ·exact hdone x ρ3 none h2 (fun q=>hend x _ _ q h1)
  ·exact hdone x ρ3 (some cd) h2 (fun q=>hjump cd x _ _ q h1)
end
end Go.SX
end
section
namespace Go.SX
open Go
section
variable {C : Ctx}
theorem V.nilB {α : Type} (f : α → List SV) (d : α) (b j : Nat) (blk : Blk) (e : TypeId) (sz : Nat) {c : Cfg} (hb : look c.st.heap b = some blk) (hj : blk.cells[j]? = some (.val (.slice none 0 0)))
  (h : V C ⟨c.todo,{ c.st with heap:=upd c.st.heap b { blk with cells:=blk.cells.set j (.row c.st.nr none 0 0) },rows:=(c.st.nr,rowL f d [] none 0 e sz true) :: c.st.rows,nr:=c.st.nr + 1 }⟩) : V C c:=by
 intro ρ a w hS
 have h1:=hS.nilRow e sz (fun i=>f (([] : List α).getD i d))
 refine h ρ a w ⟨h1.n,h1.slots,h1.grds,?_,h1.inj,h1.lt,h1.defers,h1.chg,h1.rows,h1.rowsD,h1.pers,h1.fix⟩
 intro b' blk' hb'
 simp only [look_upd] at hb'
 by_cases e' : b = b'
 ·subst e'
  rw [if_pos rfl] at hb'
  cases hb'
  obtain ⟨k1,k2,k3,k4⟩:=h1.heap b blk hb
  refine ⟨k1,?_,?_,k4⟩
  ·rw [k2]
   have : (blk.cells.set j (.row c.st.nr none 0 0)).map (SV.den ρ) = blk.cells.map (SV.den ρ):=by
    rw [List.map_set]
    apply List.ext_getElem?
    intro i
    rw [List.getElem?_set]
    split
    ·rename_i e1
     subst e1
     split
     ·rw [List.getElem?_map,hj]; rfl
     ·rename_i hlt
      rw [List.getElem?_eq_none (by omega)]
    ·rfl
   rw [this]
  ·intro x hx
   rcases List.mem_or_eq_of_mem_set hx with hx | rfl
   ·exact k3 x hx
   ·refine ⟨Nat.lt_succ_self _,fun R hR=>?_⟩
    simp only [St.W,look,Nat.beq_refl] at hR
    cases hR
    exact ⟨rfl,rfl,rfl⟩
 ·rw [if_neg e'] at hb'
  exact h1.heap b' blk' hb'
end
def isRf (c : Cfg) : Bool:=match c.todo with
 | .code (.rangeFunc _ _ _ _) :: _=>true
 | _=>false
def rfG (c : Cfg) : Operand:=match c.todo with
 | .code (.rangeFunc g _ _ _) :: _=>g
 | _=>.tmp 0
def rfPs (c : Cfg) : Array Tmp:=match c.todo with
 | .code (.rangeFunc _ ps _ _) :: _=>ps
 | _=>#[]
def rfAsg (c : Cfg) : Code:=match c.todo with
 | .code (.rangeFunc _ _ asg _) :: _=>asg
 | _=>.ret
def rfBody (c : Cfg) : Code:=match c.todo with
 | .code (.rangeFunc _ _ _ body) :: _=>body
 | _=>.ret
def rfK (c : Cfg) : List Item:=match c.todo with
 | .code (.rangeFunc _ _ _ _) :: k=>k
 | _=>[]
section
variable {C : Ctx}
theorem V.rangeFc {ι : Type} (sx : ι → St) {sl : List (Nat × RV)} {n nx fx : Nat} {ps : List Pers} (hsh : Shape sx sl n nx fx ps) (pre : Nat → ι → Prop) (prex : Code → ι → Prop) {N : Nat} (enc : Nat → List CV) {encV : Nat → Array Value}
  (henc : ∀ i ρ,((enc i).map (CV.den ρ)).toArray = encV i) (x0 : ι) (ks : List Nat) (pm : List Bool) (pi : List (Nat × Bool)) {c : Cfg} {gf : FuncId} {ys : List CV} {F : St} (hit : Iter C.P gf ys F N encV)
  (ht : (isRf c && (C.round.isNone && entersB C.P gf)) = true) (hp : headK ks pm c = some (sx x0)) (hpre : pre 0 x0)
  (hF : iterOf c (rfG c) = some (gf,ys,fragOf F)) (hFs : (apart ks c (rfG c) && (F.rows.isEmpty && (rwAll F.heap && told F.next F.heap))) = true) (hpi : getP pi c.st.pers = some (askP C.w0.heap.size C.S pi F.pers))
  (hsz : ∀ i,Nat.beq (enc i).length (rfPs c).size = true) (hpl : ∀ i,psOk n ((rfPs c).toList.zip (enc i)) = true)
  (hround : ∀ i x ρ W l r q,i < N → pre i x → V ⟨C.P,C.f,RoundR sx pre prex l r q i (withL (sx x) l r (recOf q none)) ρ W,touch ρ (withL (sx x) l r (recOf q none)),W,ρ,some l⟩
   ⟨[.code (rfAsg c),.beginRound,.code (rfBody c)],roundSt (withL (sx x) l r (recOf q none)) ((rfPs c).toList.zip (enc i))⟩)
  (hend : ∀ x l r q,pre N x → V C ⟨rfK c,leftSt (sx x) l r q⟩) (hjump : ∀ cd x l r q,prex cd x → V C ⟨.code cd :: rfK c,leftSt (sx x) l r q⟩) : V C c:=by
 obtain ⟨ht1,ht2,ht3⟩:=and3 ht
 have hr : C.round = none:=by simpa using ht2
 obtain ⟨todo,st⟩:=c
 unfold isRf at ht1
 split at ht1
 ·rename_i g ps asg body k he
  simp only at he
  subst he
  exact V.rangeF sx hsh pre prex enc henc x0 ks pm pi rfl hr hp hpre hit ht3 hF hFs hpi (fun i=>(beq_iff _ _).1 (hsz i)) hpl hround hend hjump
 ·cases ht1
end
def isBr (c : Cfg) : Bool:=match c.todo with
 | .beginRound :: _=>true
 | _=>false
def dropT (c : Cfg) : List Item:=match c.todo with
 | _ :: k=>k
 | []=>[]
theorem V.begin {C : Ctx} (i l : Nat) (q : Loop) {c : Cfg} (ht : isBr c = true) (hr : C.round = some l) (hi : look c.st.rows i = some (objL l q)) (hq : q.state = .ready)
  (h : V C ⟨dropT c,c.st.setObj i l (.loop { q with state:=.busy })⟩) : V C c:=by
 obtain ⟨todo,st⟩:=c
 unfold isBr at ht
 split at ht
 ·rename_i k he
  simp only at he
  subst he
  exact V.beginRound i l q rfl hr hi hq h
 ·cases ht
theorem V.slotAs {C : Ctx} (t : Nat) (u u' : CV) {c : Cfg} (hl : look c.st.slots t = some (.v u)) (hg : (!hasNat c.st.gs t && plainC u') = true) (hd : ∀ ρ,u'.den ρ = u.den ρ) (h : V C ⟨c.todo,{ c.st with slots:=upd c.st.slots t (.v u') }⟩) : V C c:=by
 intro ρ a w hS
 rw [Bool.and_eq_true] at hg
 have hg1 : hasNat c.st.gs t = false:=by simpa using hg.1
 refine h ρ a w ⟨hS.n,?_,?_,hS.heap,hS.inj,hS.lt,hS.defers,hS.chg,hS.rows,hS.rowsD,hS.pers,hS.fix⟩
 ·intro j v hv
  simp only [look_upd] at hv
  by_cases e : t = j
  ·rw [if_pos e] at hv
   cases hv
   subst e
   refine ⟨?_,plainC_wf hg.2 _⟩
   rw [(hS.slots t _ hl).1]
   show some (u.den ρ) = some (u'.den ρ)
   rw [hd]
  ·rw [if_neg e] at hv
   exact hS.slots j v hv
 ·intro j g pol b x hv
  simp only [look_upd] at hv ⊢
  by_cases e : t = j
  ·rw [if_pos e] at hv; cases hv
  ·rw [if_neg e] at hv
   obtain ⟨k1,k2⟩:=hS.grds j g pol b x hv
   refine ⟨k1,?_⟩
   rw [if_neg (fun e2=>by rw [← e2,hg1] at k1; cases k1)]
   exact k2
def strS (l : List UInt8) : List SV:=[.str l]
end Go.SX
end
section
namespace Go.SX
open Go
def condC (c : Cfg) : Option (Nat × Bool) :=
 match condOf c with
 | some x=>some x
 | none=>match c.todo with
  | .inRegion ops (i :: _) :: _=>match ops[i]? with
   | some o=>match o.guard with
    | some (j,_)=>match (ops[j]?).bind (·.dst) with
     | some t=>match look c.st.slots t with
      | some (.grd g _ _ _)=>match look c.st.slots g with
       | some (.v (.one (.sb b)))=>some (g,b)
       | _=>none
      | _=>none
     | none=>none
    | none=>none
   | none=>none
  | _=>none
theorem condC_look {c : Cfg} {g : Nat} {b : Bool} (h : condC c = some (g,b)) : look c.st.slots g = some (.v (.one (.sb b))):=by
 unfold condC at h
 split at h
 ·rename_i x hx
  cases h
  exact condOf_look hx
 ·split at h
  ·split at h
   ·split at h
    ·split at h
     ·split at h
      ·split at h
       ·rename_i hl
        cases h
        exact hl
       ·cases h
      ·cases h
     ·cases h
    ·cases h
   ·cases h
  ·cases h
def runC (P : Program) (T : List (Ent P)) : Nat → Cfg → Cfg × List Prop
 | 0,c=>(c,[])
 | n + 1,c=>match runT P T 1000 c with
  | (c1,ob)=>match condC c1 with
   | some (g,b)=>match b with
    | true=>match runC P T n (c1.know g true) with
     | (c2,ob2)=>(c2,ob ++ ob2)
    | false=>match runC P T n (c1.know g false) with
     | (c2,ob2)=>(c2,ob ++ ob2)
   | none=>match isLoop c1 with
    | true=>match runC P T n (iter c1) with
     | (c2,ob2)=>(c2,ob ++ ob2)
    | false=>(c1,ob)
section
variable {C : Ctx}
theorem runC_sound {T : List (Ent C.P)} : ∀ (n : Nat) (c : Cfg),(∀ p ∈ (runC C.P T n c).2,p) → (∀ e ∈ T,∀ q ∈ e.sp.need,q ∈ c.st.pers) → V C (runC C.P T n c).1 → V C c
 | 0,c,_,_,h=>h
 | n + 1,c,hob,hn,h=>by
  unfold runC at hob h
  have hpp:=runT_pers (P:=C.P) (T:=T) 1000 c
  have hrs:=runT_sound (C:=C) (T:=T) 1000 c
  generalize SX.runT C.P T 1000 c = r at hob h hpp hrs
  obtain ⟨c1,ob⟩:=r
  simp only at hob h hpp hrs
  have hn' : ∀ e ∈ T,∀ q ∈ e.sp.need,q ∈ c1.st.pers:=fun e he q hq=>by rw [hpp]; exact hn e he q hq
  split at hob
  ·rename_i g b hc
   rw [hc] at h
   cases b with
   | true =>
    simp only at hob h
    exact hrs (fun p hp=>hob p (List.mem_append_left _ hp)) hn (V.known g true true (condC_look hc) rfl (runC_sound n _ (fun p hp=>hob p (List.mem_append_right _ hp)) hn' h))
   | false =>
    simp only at hob h
    exact hrs (fun p hp=>hob p (List.mem_append_left _ hp)) hn (V.known g false false (condC_look hc) rfl (runC_sound n _ (fun p hp=>hob p (List.mem_append_right _ hp)) hn' h))
  ·rename_i hc
   rw [hc] at h
   simp only at h
   split at hob
   ·rename_i hl
    rw [hl] at h
    simp only at hob h
    exact hrs (fun p hp=>hob p (List.mem_append_left _ hp)) hn (V.iter (runC_sound n _ (fun p hp=>hob p (List.mem_append_right _ hp)) (fun e he q hq=>by rw [iter_st]; exact hn' e he q hq) h))
   ·rename_i hl
    rw [hl] at h
    simp only at hob h
    exact hrs hob hn h
theorem V.runC (T : List (Ent C.P)) (n : Nat) (ob : List Prop) {c : Cfg} (hr : (SX.runC C.P T n c).2 = ob) (hn : needT T c.st.pers = wantT T) (ho : allP ob) (h : V C (SX.runC C.P T n c).1) : V C c :=
 runC_sound n c (hr ▸ allP_mem ho) (needT_ok hn) h
end
theorem CallsK.ofF {α : Type} {P : Program} {f : FuncId} {ys : List CV} {F : St} {p : α → Prop} {v : α → RV} {F' : α → St} (hps : ∀ x,(F' x).pers = [])
  (h : ∀ ρ w,FSat ρ F w → Calls P f (ys.map (CV.den ρ)).toArray w (GivesF ρ F p v F' w)) : CallsK P f ys F p v F':=by
 intro ρ w hF
 refine (h ρ w hF).mono ?_
 rintro e w' ⟨x,hp,he,k1,k2,k3,k4,k5,k6,k7⟩
 exact ⟨x,ρ,hp,he,fun _ _=>rfl,Nat.le_of_eq k2.symm,fun b h1 h2=>absurd (Nat.lt_of_le_of_lt h1 (k2 ▸ h2)) (Nat.lt_irrefl _),k1,k3,k4,k5,fun b blk _ hb hrw=>k6 b blk hb hrw,k7,fun q hq=>by rw [hps x] at hq; cases hq⟩
end Go.SX
end
section
namespace Go.SX
open Go
def dOps (c : Cfg) : Array Oper:=match drawOf c with
 | some (ops,_)=>ops
 | none=>#[]
def dK (c : Cfg) : List Item:=match drawOf c with
 | some (_,k)=>k
 | none=>[]
def VX (C : Ctx) (T TR : List Nat) (L : Nat) (c0 : Cfg) (d : DCfg) : Prop :=
 ∀ D : Held,D.ok → D.h0 = heldOf T c0.st.heap → D.n0 = c0.st.next → D.r0 = heldOf TR c0.st.rows → D.L = L → D.nr0 = c0.st.nr → D.w0 = c0.st.rows → (LastOp (dOps c0) L ∨ (dOps c0).size ≤ L) → Region.noSelect (dOps c0) = true →
  (∀ b ∈ T,b < c0.st.next → D.TS (D.ρ0 b)) → (∀ r ∈ TR,∀ R,look c0.st.rows r = some R → ∀ k,R.uses k → D.TS k) → (∀ q Q,look c0.st.rows q = some Q → q < c0.st.nr) → D.rows d.st → VD C D (dOps c0) (dK c0) d
def headX (c : Cfg) : DCfg:=⟨(dOps c).size,Array.replicate (dOps c).size false,c.st⟩
def ownAt (rows : List (Nat × Row)) : List Nat → Bool
 | []=>true
 | r :: l=>match look rows r with
  | some R=>match R.own with
   | true=>ownAt rows l
   | false=>false
  | none=>ownAt rows l
theorem ownAt_ok {rows : List (Nat × Row)} : ∀ {l : List Nat},ownAt rows l = true → ∀ r ∈ l,∀ R,look rows r = some R → R.own = true
 | [],_,r,hr,_,_=>by simp at hr
 | q :: l,h,r,hr,R,hR=>by
  simp only [ownAt] at h
  split at h
  ·rename_i Q hQ
   split at h
   ·rename_i ho
    rcases List.mem_cons.1 hr with rfl | hr
    ·rw [hQ] at hR; cases hR; exact ho
    ·exact ownAt_ok h r hr R hR
   ·cases h
  ·rename_i hQ
   rcases List.mem_cons.1 hr with rfl | hr
   ·rw [hQ] at hR; cases hR
   ·exact ownAt_ok h r hr R hR
def isDraw (P : Program) (L : Nat) (c : Cfg) : Bool :=
 match drawOf c with
 | some (ops,_)=>P.follows .mixedOrders && (Region.noSelect ops && (lastB ops L || Nat.ble ops.size L))
 | none=>false
def loopX (P : Program) (T : List (Ent P)) (ops : Array Oper) (h0 : List (Nat × Blk)) (r0 : List (Nat × Row)) : Nat → DCfg → DCfg × List Prop
 | 0,d=>(d,[])
 | m + 1,d=>match Region.ready .any ops d.listed,d.fuel with
  | [i],n + 1=>match callD ops i d.st,ops[i]? with
   | some (none,f,xs),some o=>match callT T d.st.next f xs with
    | some (v,ob)=>match d.st.put o.dst v with
     | some s'=>match runDM P ops h0 r0 ops.size ⟨n,d.listed.setIfInBounds i true,s'⟩ with
      | (d',ob')=>match loopX P T ops h0 r0 m d' with
       | (d2,ob2)=>(d2,ob ++ (ob' ++ ob2))
     | none=>(d,[])
    | none=>(d,[])
   | _,_=>(d,[])
  | _,_=>(d,[])
def runX (P : Program) (E : List (Ent P)) (T TR : List Nat) (c0 : Cfg) (d : DCfg) : DCfg × List Prop :=
 match runDM P (dOps c0) (heldOf T c0.st.heap) (heldOf TR c0.st.rows) (dOps c0).size d with
 | (d1,ob1)=>match loopX P E (dOps c0) (heldOf T c0.st.heap) (heldOf TR c0.st.rows) 50 d1 with
  | (d2,ob2)=>(d2,ob1 ++ ob2)
def oneX (c0 : Cfg) (d : DCfg) : Option (Nat × Oper) :=
 match Region.ready .any (dOps c0) d.listed,d.fuel with
 | [i],_ + 1=>match (dOps c0)[i]? with
  | some o=>some (i,o)
  | none=>none
 | _,_=>none
theorem oneX_ok {c0 : Cfg} {d : DCfg} {i : Nat} {o : Oper} (h : oneX c0 d = some (i,o)) : Region.ready .any (dOps c0) d.listed = [i] ∧ (∃ n,d.fuel = n + 1) ∧ (dOps c0)[i]? = some o:=by
 unfold oneX at h
 split at h
 ·rename_i hr hf
  split at h
  ·rename_i ho
   simp only [Option.some.injEq,Prod.mk.injEq] at h
   obtain ⟨rfl,rfl⟩:=h
   exact ⟨hr,⟨_,hf⟩,ho⟩
  ·cases h
 ·cases h
def appX (P : Program) (c0 : Cfg) (d : DCfg) : Option App :=
 match oneX c0 d with
 | some (_,o)=>match grdOf d.st (dOps c0) o.guard,callAt o with
  | .yes,some cl=>appS P d.st cl
  | _,_=>none
 | none=>none
def pushD (c0 : Cfg) (d : DCfg) (r : Nat) (R : Row) : Option DCfg :=
 match oneX c0 d with
 | some (i,o)=>match (d.st.rowTo r R).put o.dst (.v (.one (.row d.st.nr R.s R.n R.cap))) with
  | some s'=>some ⟨d.fuel - 1,d.listed.setIfInBounds i true,s'⟩
  | none=>none
 | none=>none
def pushX (c0 : Cfg) (d : DCfg) (r : Nat) (R : Row) : DCfg:=(pushD c0 d r R).getD d
def atX (c0 : Cfg) (d : DCfg) : Cfg:=⟨[.inRegion (dOps c0) (Region.ready .any (dOps c0) d.listed)],d.st⟩
def rwIn (n : Nat) (T hs : List Nat) : List (Nat × Blk) → Bool
 | []=>true
 | (b,blk) :: l=>match blk.rw with
  | true=>match hasNat T (hs.getD b 0),Nat.blt (hs.getD b 0) n with
   | true,true=>rwIn n T hs l
   | _,_=>false
  | false=>rwIn n T hs l
theorem rwIn_ok {n : Nat} {T hs : List Nat} : ∀ {l : List (Nat × Blk)} {b : Nat} {blk : Blk},rwIn n T hs l = true → look l b = some blk → blk.rw = true → hs.getD b 0 ∈ T ∧ hs.getD b 0 < n
 | (q,x) :: l,b,blk,h,hl,hw=>by
  simp only [rwIn] at h
  simp only [look] at hl
  split at hl
  ·rename_i e
   have:=(beq_iff _ _).1 e
   subst this
   cases hl
   rw [hw] at h
   simp only at h
   split at h
   ·rename_i h1 h2; exact ⟨(hasNat_mem _ _).1 h1,blt_lt h2⟩
   ·cases h
  ·split at h
   ·split at h
    ·exact rwIn_ok h hl hw
    ·cases h
   ·exact rwIn_ok h hl hw
def callX (n0 : Nat) (S : Nat → Prop) (c0 : Cfg) (d : DCfg) (F' : St) (v : RV) : DCfg :=
 match oneX c0 d with
 | some (i,_)=>⟨d.fuel - 1,d.listed.setIfInBounds i true,(behindK n0 S (atX c0 d) F' v).st⟩
 | none=>d
theorem look_eraseK_ne {α : Type} {r q : Nat} (h : q ≠ r) : ∀ (l : List (Nat × α)),look (eraseK r l) q = look l q
 | []=>rfl
 | (j,u) :: l=>by
  simp only [eraseK]
  cases hb : Nat.beq j r with
  | true =>
   simp only [look]
   have hj:=(beq_iff _ _).1 hb
   have : Nat.beq j q = false:=by
    cases e : Nat.beq j q with
    | true=>have:=(beq_iff _ _).1 e; omega
    | false=>rfl
   rw [this]
   exact look_eraseK_ne h l
  | false =>
   simp only [look]
   split
   ·rfl
   ·exact look_eraseK_ne h l
theorem eraseAll_nil {α : Type} : ∀ (l : List (Nat × α)),eraseAll [] l = l
 | []=>rfl
 | (k,v) :: l=>by simp only [eraseAll,hasNat,eraseAll_nil l]
theorem look_bringRows_old {nr : Nat} {rows : List (Nat × Row)} {q : Nat} (hq : q < nr) : ∀ (l : List (Nat × Row)),look (bringRows nr rows l) q = look rows q
 | []=>rfl
 | (r,R) :: l=>by
  simp only [bringRows,look]
  have : Nat.beq (nr + r) q = false:=by
   cases e : Nat.beq (nr + r) q with
   | true=>have:=(beq_iff _ _).1 e; omega
   | false=>rfl
  rw [this]
  exact look_bringRows_old hq l
section
variable {C : Ctx} {T TR : List Nat} {L : Nat} {c0 : Cfg} {d : DCfg}
theorem V.drawX (T TR : List Nat) (L : Nat) {c : Cfg} (hc : (isDraw C.P L c && ownAt c.st.rows TR) = true) (h : VX C T TR L c (headX c)) : V C c:=by
 rw [Bool.and_eq_true] at hc
 obtain ⟨hc,hown⟩:=hc
 intro ρ a w hS
 have hlt : ∀ q Q,look c.st.rows q = some Q → q < c.st.nr:=fun q Q h=>(hS.rows q Q h).1
 revert ρ a w
 unfold isDraw at hc
 split at hc
 case h_2=>cases hc
 rename_i ops k hd
 obtain ⟨h1,h2,h3⟩:=and3 hc
 have e1 : dOps c = ops:=by unfold dOps; rw [hd]
 have e2 : dK c = k:=by unfold dK; rw [hd]
 have hL : LastOp ops L ∨ ops.size ≤ L:=by
  rw [Bool.or_eq_true] at h3
  rcases h3 with h | h
  ·exact .inl (lastB_ok h)
  ·exact .inr (Nat.le_of_ble_eq_true h)
 refine V.draw T TR L ops k hd h1 (fun D hD a1 a2 a3 a4 a5 hrw aT aTR=>?_) (ownAt_ok hown)
 have:=h D hD a1 a2 a3 a4 a5.1 a5.2 (by rw [e1]; exact hL) (by rw [e1]; exact h2) aT aTR hlt hrw
 unfold headX at this
 rw [e1,e2] at this
 exact this
theorem loopX_sound {E : List (Ent C.P)} {D : Held} {ops : Array Oper} {k : List Item} (hD : D.ok) (hL : LastOp ops D.L ∨ ops.size ≤ D.L) (hsel : Region.noSelect ops = true) :
  ∀ (m : Nat) (d : DCfg),(∀ p ∈ (loopX C.P E ops D.h0 D.r0 m d).2,p) → (∀ e ∈ E,∀ q ∈ e.sp.need,q ∈ d.st.pers) → D.rows d.st →
   (D.rows (loopX C.P E ops D.h0 D.r0 m d).1.st → VD C D ops k (loopX C.P E ops D.h0 D.r0 m d).1) → VD C D ops k d
 | 0,d,_,_,hrw,h=>h hrw
 | m + 1,d,hob,hn,hrw,h=>by
  unfold loopX at hob h
  split at hob
  case h_2=>exact (by
   rename_i hno
   split at h
   ·rename_i i n hr hf; exact absurd hf (hno i n hr)
   ·exact h hrw)
  rename_i i n hr hf
  rw [hr,hf] at h
  simp only at h
  split at hob
  case h_2=>exact (by
   rename_i hno
   split at h
   ·rename_i f xs o hc ho; exact absurd ho (hno f xs o hc)
   ·exact h hrw)
  rename_i f xs o hc ho
  rw [hc,ho] at h
  simp only at h
  split at hob
  case h_2=>exact (by
   rename_i hct; rw [hct] at h; exact h hrw)
  rename_i v ob1 hct
  rw [hct] at h
  simp only at h
  split at hob
  case h_2=>exact (by
   rename_i hput; rw [hput] at h; exact h hrw)
  rename_i s' hput
  rw [hput] at h
  simp only at h hob
  have hp1:=runDM_pers (P:=C.P) (ops:=ops) (h0:=D.h0) (r0:=D.r0) ops.size ⟨n,d.listed.setIfInBounds i true,s'⟩
  obtain ⟨b1,b2,b3⟩:=callT_ok (C:=C) hct (fun p hp=>hob p (List.mem_append_left _ hp)) hn
  obtain ⟨w1,w2⟩:=wfR_ok (W:=d.st.W) b2 rfl
  refine VD.call i f xs v hr hf ho hc (enters b1) hput w1 w2 b3 ?_
  have hW:=put_W hput
  have hrw2 : D.rows s':=⟨fun r R hR=>by rw [show s'.rows = d.st.rows from congrArg WF.rows hW]; exact hrw.1 r R hR,by rw [hW]; exact hrw.2⟩
  refine VD.runM hD hL hsel ops.size _ (fun p hp=>hob p (List.mem_append_right _ (List.mem_append_left _ hp))) hrw2 (fun hrw3=>?_)
  refine loopX_sound hD hL hsel m _ (fun p hp=>hob p (List.mem_append_right _ (List.mem_append_right _ hp))) (fun e he q hq=>?_) hrw3 h
  rw [hp1,put_pers hput]
  exact hn e he q hq
theorem VX.run (E : List (Ent C.P)) (ob : List Prop) (hr : (SX.runX C.P E T TR c0 d).2 = ob) (hn : needT E d.st.pers = wantT E) (ho : allP ob) (h : VX C T TR L c0 (SX.runX C.P E T TR c0 d).1) : VX C T TR L c0 d:=by
 intro D hD a1 a2 a3 a4 a5 a6 hL hsel aT aTR hlt hrw
 have hob:=hr ▸ allP_mem ho
 unfold SX.runX at hob h
 rw [← a1,← a3] at hob h
 have hp1:=runDM_pers (P:=C.P) (ops:=dOps c0) (h0:=D.h0) (r0:=D.r0) (dOps c0).size d
 refine VD.runM hD (by rw [a4]; exact hL) hsel (dOps c0).size d (fun p hp=>hob p (List.mem_append_left _ hp)) hrw (fun hrw1=>?_)
 refine loopX_sound hD (by rw [a4]; exact hL) hsel 50 _ (fun p hp=>hob p (List.mem_append_right _ hp)) (fun e he q hq=>?_) hrw1 (fun hrw2=>?_)
 ·rw [hp1]; exact needT_ok hn e he q hq
 ·exact h D hD a1 a2 a3 a4 a5 a6 hL hsel aT aTR hlt hrw2
theorem VX.fin (s1 : St) (hs : endD C.P (dOps c0) L d = some s1) (h : V C ⟨dK c0,s1⟩) : VX C T TR L c0 d :=
 fun _ _ _ _ _ a4 _ _ _ _ _ _ _ _=>VD.fin (by rw [a4]; exact hs) h
theorem VX.stop (hs : (endD C.P (dOps c0) L d).isSome = true) (h : V C ⟨dK c0,(endD C.P (dOps c0) L d).getD d.st⟩) : VX C T TR L c0 d:=by
 obtain ⟨s1,h1⟩:=Option.isSome_iff_exists.1 hs
 rw [h1] at h
 exact VX.fin s1 h1 h
theorem VX.push {α : Type} (f : α → List SV) (dl : α) (l : List α) (x : α) (r : Nat) (q : Option Addr) (cap : Nat) (e : TypeId) (sz : Nat) (xs : List SV) (bytes : Nat)
  (hA : (appX C.P c0 d).map appView = some (r,rowL f dl l q cap e sz true,1,xs,bytes)) (hr : hasNat TR r = true) (hlk : look c0.st.rows r = some (rowL f dl l q cap e sz true)) (hb : (l.length + 1) * bytes ≤ 140737488355328) (hx : f x = xs)
  (haf : ∀ q cap,(pushD c0 d r (rowL f dl (l ++ [x]) q cap e sz true)).isSome = true)
  (k : ∀ q cap,VX C T TR L c0 (pushX c0 d r (rowL f dl (l ++ [x]) q cap e sz true))) : VX C T TR L c0 d:=by
 intro D hD a1 a2 a3 a4 a5 a6 hL hsel aT aTR hlt hrw
 cases hA' : appX C.P c0 d with
 | none=>rw [hA'] at hA; cases hA
 | some A =>
  rw [hA'] at hA
  simp only [Option.map_some,appView,Option.some.injEq,Prod.mk.injEq] at hA
  obtain ⟨e1,e2,e3,e4,e5⟩:=hA
  have hlen : (l ++ [x]).length = l.length + 1:=by simp
  have hrow : ∀ q cap,A.R.next q A.m cap (fun i=>f ((l ++ [x]).getD i dl)) = rowL f dl (l ++ [x]) q cap e sz true:=by
   intro q cap
   rw [e2,e3]
   simp only [Row.next,rowL,hlen]
  have hn : A.R.n + A.m = (l ++ [x]).length:=by rw [e2,e3,hlen]; rfl
  unfold appX at hA'
  split at hA'
  case h_2=>cases hA'
  rename_i i o hone
  split at hA'
  case h_2=>cases hA'
  rename_i cl hg hcl
  obtain ⟨hready,⟨n,hf⟩,ho⟩:=oneX_ok hone
  have tail : ∀ q cap,∃ s',(d.st.rowTo r (rowL f dl (l ++ [x]) q cap e sz true)).put o.dst (.v (.one (.row d.st.nr q (l ++ [x]).length cap))) = some s' ∧
    pushX c0 d r (rowL f dl (l ++ [x]) q cap e sz true) = ⟨n,d.listed.setIfInBounds i true,s'⟩:=by
   intro q cap
   have h1:=haf q cap
   unfold pushX
   unfold pushD at h1 ⊢
   rw [hone] at h1 ⊢
   simp only at h1 ⊢
   split at h1
   ·rename_i s' hs'
    refine ⟨s',hs',?_⟩
    simp only [Option.getD_some,hf,Nat.add_sub_cancel]
   ·cases h1
  refine VD.append i A (fun i=>f ((l ++ [x]).getD i dl)) hready hf ho hg hcl hA' (by rw [hn,e5,hlen]; exact hb) ?_ ?_ (fun k hk=>aTR r ((hasNat_mem _ _).1 hr) _ hlk k (by rw [e2] at hk; exact hk)) (fun q cap=>?_) (fun q cap s' hs'=>?_)
  ·intro i hi
   rw [e2] at hi ⊢
   have hi' : i < l.length:=hi
   show f ((l ++ [x]).getD i dl) = f (l.getD i dl)
   rw [getD_left _ _ _ _ hi']
  ·intro i hi
   rw [e3] at hi
   have : i = 0:=by omega
   subst this
   rw [e4,← hx,e2]
   show f ((l ++ [x]).getD (l.length + 0) dl) = f x
   simp
  ·obtain ⟨s',hs',_⟩:=tail q cap
   rw [e1,hrow,hn,hs']; rfl
  ·obtain ⟨s2,hs2,hpx⟩:=tail q cap
   rw [e1,hrow,hn,hs2] at hs'
   cases hs'
   have hW:=put_W hs2
   have hrw2 : D.rows (d.st.rowTo r (rowL f dl (l ++ [x]) q cap e sz true)):=by
    refine ⟨fun q' Q hQ=>?_,hrw.2.trans' (rowTo_le _ r _)⟩
    have h1:=hrw.1 q' Q hQ
    rw [a3] at hQ
    obtain ⟨hne,hw⟩:=look_heldOf' hQ
    have hlt' : q' < d.st.nr:=Nat.lt_of_lt_of_le (hlt q' Q hw) (by rw [← a5]; exact hrw.2.nr)
    show look ((d.st.nr,_) :: eraseK r d.st.rows) q' = some Q
    simp only [look]
    have hb' : Nat.beq d.st.nr q' = false:=by
     cases hb : Nat.beq d.st.nr q' with
     | true=>have:=(beq_iff _ _).1 hb; omega
     | false=>rfl
    rw [hb']
    simp only
    rw [look_eraseK_ne (fun e=>hne (by rw [e]; exact (hasNat_mem _ _).1 hr))]
    exact h1
   have hrw3 : D.rows s':=⟨fun r R hR=>by rw [show s'.rows = _ from congrArg WF.rows hW]; exact hrw2.1 r R hR,by rw [hW]; exact hrw2.2⟩
   have:=k q cap
   rw [hpx] at this
   exact this D hD a1 a2 a3 a4 a5 a6 hL hsel aT aTR hlt hrw3
theorem VX.callK {α : Type} {f : FuncId} {ys : List CV} {F : St} {p : α → Prop} {v : α → RV} {F' : α → St} (pi : List (Nat × Bool)) (hk : CallsK C.P f ys F p v F')
  (hb : (entersB C.P f && ((oneX c0 d).isSome && (F.rows.isEmpty && rwIn c0.st.next T (hsrs (atX c0 d)).1 F.heap))) = true) (hc : frameOf (atX c0 d) = some (f,ys,fragOf F)) (hpi : getP pi d.st.pers = some (askP C.w0.heap.size C.S pi F.pers))
  (hu : ∀ x,okK (atX c0 d) (F' x) (v x) = true) (k : ∀ x,p x → VX C T TR L c0 (callX C.w0.heap.size C.S c0 d (F' x) (v x))) : VX C T TR L c0 d:=by
 intro D hD a1 a2 a3 a4 a5 a6 hL hsel aT aTR hlt hrw ρ a w hS hρ hn0 hch hcl hsz
 simp only [Bool.and_eq_true] at hb
 obtain ⟨hent,hone,hFr,hrwT⟩:=hb
 obtain ⟨⟨i,o⟩,hone⟩:=Option.isSome_iff_exists.1 hone
 obtain ⟨hready,⟨n,hf⟩,ho⟩:=oneX_ok hone
 have hFr : F.rows = []:=List.isEmpty_iff.1 hFr
 have hat : atX c0 d = ⟨[.inRegion (dOps c0) [i]],d.st⟩:=by unfold atX; rw [hready]
 rw [hat] at hc hrwT hu
 unfold frameOf at hc
 split at hc
 case h_2=>cases hc
 rename_i f1 xs hcall
 split at hc
 rename_i hs rs hcan
 split at hc
 case h_2=>cases hc
 rename_i ys1 s' hren hpk
 simp only [Option.some.injEq,Prod.mk.injEq] at hc
 obtain ⟨rfl,rfl,hfr⟩:=hc
 have hh : hsrs ⟨[.inRegion (dOps c0) [i]],d.st⟩ = (hs,rs):=by unfold hsrs; rw [hcall]; exact hcan
 rw [hh] at hrwT
 have hpk' : pickSt [] hs rs [] d.st = some s':=hpk
 have hFS:=hS.fragAt hpk' hfr pi hpi
 have hrs : rs = []:=by
  have h1 : s'.rows = F.rows:=by simp only [fragOf,Prod.mk.injEq] at hfr; exact hfr.2.2.1
  have h2 : s'.nr = rs.length:=by
   unfold pickSt at hpk'
   split at hpk'
   case h_2=>cases hpk'
   rw [← Option.some.inj hpk']
  cases rs with
  | nil=>rfl
  | cons r0 rs' =>
   exfalso
   unfold pickSt at hpk'
   split at hpk'
   case h_2=>cases hpk'
   rename_i _ _ rows _ _ _ _ hrows
   have h3:=Option.some.inj hpk'
   rw [← h3,hFr] at h1
   have h4 : rows = []:=h1
   simp only [pickRows] at hrows
   split at hrows
   ·split at hrows
    ·rename_i R _ q hq
     simp only [Option.some.injEq] at hrows
     rw [h4] at hrows; cases hrows
    ·cases hrows
   ·cases hrows
 subst hrs
 have hys : xs.map (CV.den ρ) = ys1.map (CV.den (fun i=>ρ (hs.getD i 0))):=by
  have hpk2:=hpk'
  unfold pickSt at hpk2
  split at hpk2
  case h_2=>cases hpk2
  rename_i sl hpp rows _ _ _ _ hrows
  have hRR : RowsRen [] d.st.W ⟨hs.length,([] : List Nat).length,rows⟩:=by
   intro r' r R hr hl
   obtain ⟨r2,_,h2,h3⟩:=pickRows_ok hrows r' R hl
   simp only [Nat.sub_zero] at h2
   rw [hr] at h2
   cases h2
   exact h3
  exact ((renC_ok (ρ:=ρ) (W:=d.st.W) (W':=⟨hs.length,([] : List Nat).length,rows⟩) rfl rfl hRR hren).1).symm
 have hi : i ∈ Region.ready .any (dOps c0) d.listed:=by rw [hready]; simp
 rw [hf]
 refine wpAnyE_all hready (by simp) (fun j hj=>?_)
 have : j = i:=by simpa using hj
 subst this
 unfold callOf at hcall
 simp only [ho] at hcall
 split at hcall
 case h_2=>cases hcall
 rename_i cl hop
 split at hcall
 case h_3=>cases hcall
 case h_2=>split at hcall <;> cases hcall
 rename_i hg
 split at hcall
 case h_2=>cases hcall
 rename_i f' caps zs h1 h2
 simp only [Option.some.injEq,Prod.mk.injEq,true_and] at hcall
 obtain ⟨rfl,rfl⟩:=hcall
 have hrun:=calleeS_sound (t:=o.type) hS.toP (GcOk.none d.st) h1 h2 (enters hent)
 unfold wpOp
 simp only [ho,grd_yes hS hg,if_true]
 refine .inl ?_
 unfold Oper.wp execOp
 rw [hop]
 simp only
 rw [hrun,hys]
 refine (hk _ w hFS).mono ?_
 rintro e w2 ⟨x,ρ',hp,rfl,k1,k2,k3,k4,k5,k6,k7,k8,k9,k10⟩
 have hux:=hu x
 unfold okK at hux
 rw [hh] at hux
 obtain ⟨u1,u2,u3⟩:=and3 hux
 have hfr' : (pickSt [] hs [] [] d.st).map fragOf = some (fragOf F):=by rw [hpk']; exact congrArg some hfr
 obtain ⟨ρ1,b1,b2,b3,b4⟩:=hS.bringK1 (F':=F' x) hfr' u1 k1 k2 k3 k4 k5 k7 k8 k9 k10
 have hc2 : Chg D.TS D.ws w2:=hch.trans k7 (fun m hm=>.inr (by
  rcases hm with ⟨b,blk,q1,q2,q3⟩ | ⟨r,R,q1,_⟩
  ·obtain ⟨t1,t2⟩:=rwIn_ok hrwT q1 q2
   have:=aT _ t1 t2
   rw [← hρ _ (by rw [a2]; exact t2)] at this
   rw [← q3]; exact this
  ·rw [hFr] at q1; cases q1))
 have hst : ∃ s2,(d.st.bringK hs [] C.w0.heap.size C.S (F' x)).put o.dst ((v x).bring (newHs hs d.st.next (F' x).next) d.st.nr) = some s2:=by
  have h3:=bringK_put d.st hs [] C.w0.heap.size 0 C.S (fun _=>False) (F' x) o.dst ((v x).bring (newHs hs d.st.next (F' x).next) d.st.nr)
  unfold afterOp at u3
  simp only [ho] at u3
  cases hq : (d.st.bringK hs [] C.w0.heap.size C.S (F' x)).put o.dst ((v x).bring (newHs hs d.st.next (F' x).next) d.st.nr) with
  | some s2=>exact ⟨s2,rfl⟩
  | none =>
   rw [hq] at h3
   cases hq2 : (d.st.bringK hs [] 0 (fun _=>False) (F' x)).put o.dst ((v x).bring (newHs hs d.st.next (F' x).next) d.st.nr) with
   | none=>rw [hq2] at u3; cases u3
   | some s2=>rw [hq2] at h3; cases h3
 obtain ⟨s2,hs2⟩:=hst
 have hcx : callX C.w0.heap.size C.S c0 d (F' x) (v x) = ⟨n,d.listed.setIfInBounds j true,s2⟩:=by
  unfold callX
  rw [hone]
  simp only [hf,Nat.add_sub_cancel]
  unfold behindK
  rw [hat,hh]
  unfold afterD afterOp
  simp only [ho,hs2,Option.getD_some]
 have hden : (v x).den ρ' = ((v x).bring (newHs hs d.st.next (F' x).next) d.st.nr).den ρ1:=by
  rw [RV.bring_den,RV.den_congr (W:=(F' x).W) (ρ:=ρ') b2 _ k6]
 have hng : ∀ g pol b y,(v x).bring (newHs hs d.st.next (F' x).next) d.st.nr ≠ .grd g pol b y:=by
  intro g pol b y e
  cases hvx : v x with
  | grd=>rw [hvx] at u2; cases u2
  | v=>rw [hvx] at e; cases e
  | tup=>rw [hvx] at e; cases e
 have hle : d.st.W.le (d.st.bringK hs [] C.w0.heap.size C.S (F' x)).W:=by
  refine ⟨Nat.le_add_right _ _,Nat.le_add_right _ _,fun q hq R hR=>?_⟩
  have h5 : look (bringRows d.st.nr (eraseAll [] d.st.rows) (F' x).rows) q = some R:=hR
  have hq' : q < d.st.nr:=hq
  rw [look_bringRows_old hq',eraseAll_nil] at h5
  exact h5
 have hW:=put_W hs2
 have hrw2 : D.rows s2:=by
  refine ⟨fun q R hR=>?_,by rw [hW]; exact hrw.2.trans' hle⟩
  rw [show s2.rows = _ from congrArg WF.rows hW]
  have h5:=hrw.1 q R hR
  rw [a3] at hR
  have h6:=hlt q R (look_heldOf' hR).2
  have h7 : q < d.st.nr:=Nat.lt_of_lt_of_le h6 (by rw [← a5]; exact hrw.2.nr)
  show look (bringRows d.st.nr (eraseAll [] d.st.rows) (F' x).rows) q = some R
  rw [look_bringRows_old h7,eraseAll_nil]
  exact h5
 have hkx:=k x hp
 rw [hcx] at hkx
 rw [hden]
 refine ⟨fun _=>hc2,hkx D hD a1 a2 a3 a4 a5 a6 hL hsel aT aTR hlt hrw2 ρ1 _ w2 (b1.put hs2 (b3 _ k6) (fun g pol b y e=>absurd e (hng g pol b y))) (fun b hb=>(b4 b (by omega)).trans (hρ b hb)) ?_ hc2 (hcl.set hi) (by simpa using hsz)⟩
 show D.n0 ≤ s2.next
 rw [put_next hs2]
 exact Nat.le_trans hn0 (Nat.le_add_right _ _)
theorem V.blkInL (t g : Nat) (cells : List SV) (e : TypeId) (rest : List Pers) {c : Cfg} (hl : look c.st.slots t = some (.v (.one (.val (.pointer (some ⟨g,0,none⟩)))))) (hg : hasNat c.st.gs t = false) (hp : c.st.pers = blkP g cells e :: rest)
  (hpl : cells.all plainB = true) (hrows : ownAll c.st.rows = true) (hdis : ∀ w,(blkP g cells e).φ w → (∀ p ∈ rest,p.φ w) → ∀ p ∈ rest,¬ p.D g)
  (h : V C ⟨c.todo,{ c.st with slots:=upd c.st.slots t (.v (.one (.ptr c.st.next 0))),heap:=(c.st.next,⟨cells,e,false⟩) :: c.st.heap,next:=c.st.next + 1,pers:=rest }⟩) : V C c:=by
 intro ρ a w hS
 obtain ⟨p1,_,p3⟩:=hS.pers (blkP g cells e) (by rw [hp]; simp)
 obtain ⟨q1,q2,q3⟩:=p3 g rfl
 have hdg : ∀ p ∈ rest,¬ p.D g:=hdis w p1 (fun p hp'=>(hS.pers p (by rw [hp]; exact List.mem_cons_of_mem _ hp')).1)
 have hpl' : ∀ x ∈ cells,x.plain:=fun x hx=>plainB_ok (List.all_eq_true.1 hpl x hx)
 let ρ' : Nat → Nat:=fun i=>if i = c.st.next then g else ρ i
 have hρ : ∀ b,b < c.st.next → ρ' b = ρ b:=fun b hb=>if_neg (by omega)
 have hρn : ρ' c.st.next = g:=if_pos rfl
 have hle : c.st.W.le ⟨c.st.next + 1,c.st.nr,c.st.rows⟩:=⟨Nat.le_succ _,Nat.le_refl _,fun _ _ _ h=>h⟩
 refine h ρ' a w ⟨hS.n,?_,?_,?_,?_,?_,hS.defers,hS.chg,?_,?_,?_,fun b hb=>?_⟩
 ·intro i v hv
  simp only [look_upd] at hv
  by_cases e' : t = i
  ·subst e'
   rw [if_pos rfl] at hv
   cases hv
   refine ⟨?_,Nat.lt_succ_self _⟩
   rw [(hS.slots t _ hl).1]
   show some (Value.pointer (some ⟨g,0,none⟩)) = some (.pointer (some ⟨ρ' c.st.next,0,none⟩))
   rw [hρn]
  ·rw [if_neg e'] at hv
   obtain ⟨k1,k2⟩:=hS.slots i v hv
   exact ⟨by rw [k1,RV.den_congr (W:=c.st.W) hρ v k2],RV.wf_mono hle v k2⟩
 ·intro i g' pol b x hv
  simp only [look_upd] at hv ⊢
  by_cases e' : t = i
  ·rw [if_pos e'] at hv; cases hv
  ·rw [if_neg e'] at hv
   obtain ⟨k1,k2⟩:=hS.grds i g' pol b x hv
   refine ⟨k1,?_⟩
   rw [if_neg (fun e2=>?_)]
   ·exact k2
   ·rw [← e2,hg] at k1; cases k1
 ·intro b blk hb
  simp only [look] at hb
  split at hb
  ·rename_i e'
   cases hb
   have:=(beq_iff _ _).1 e'
   subst this
   refine ⟨Nat.lt_succ_self _,?_,fun x hx=>SV.plain_wf (hpl' x hx) _,fun hh=>by cases hh⟩
   rw [hρn]
   have : cells.map (SV.den ρ') = cells.map SV.den0:=List.map_congr_left fun x hx=>SV.plain_den (hpl' x hx) _
   simp only [this]
   exact p1
  ·obtain ⟨k1,k2,k3,k4⟩:=hS.heap b blk hb
   refine ⟨Nat.lt_succ_of_lt k1,?_,fun x hx=>SV.wf_mono hle x (k3 x hx),?_⟩
   ·rw [hρ b k1,SV.den_map_congr (W:=c.st.W) hρ _ k3]; exact k2
   ·rw [hρ b k1]; exact k4
 ·intro b d hb hd he
  have hb' : b < c.st.next + 1:=hb
  have hd' : d < c.st.next + 1:=hd
  by_cases e1 : b = c.st.next <;> by_cases e2 : d = c.st.next
  ·omega
  ·subst e1; rw [hρn,hρ d (by omega)] at he; exact absurd he.symm (q2 d (by omega))
  ·subst e2; rw [hρn,hρ b (by omega)] at he; exact absurd he (q2 b (by omega))
  ·rw [hρ b (by omega),hρ d (by omega)] at he; exact hS.inj b d (by omega) (by omega) he
 ·intro b hb
  have hb' : b < c.st.next + 1:=hb
  by_cases e1 : b = c.st.next
  ·subst e1; rw [hρn]; exact q1
  ·rw [hρ b (by omega)]; exact hS.lt b (by omega)
 ·intro r R hR
  obtain ⟨k0,k1,k2⟩:=hS.rows r R hR
  refine ⟨k0,k1,fun k hk=>⟨(k2 k hk).1,fun b hb=>?_,(k2 k hk).2.2⟩⟩
  have hb' : b < c.st.next + 1:=hb
  by_cases e1 : b = c.st.next
  ·subst e1; rw [hρn]; intro e2; rw [← e2] at hk; exact q3 r R hR (ownAll_ok hrows hR) hk
  ·rw [hρ b (by omega)]; exact (k2 k hk).2.1 b (by omega)
 ·exact hS.rowsD
 ·intro p hp'
  obtain ⟨r1,r2,r3⟩:=hS.pers p (by rw [hp]; exact List.mem_cons_of_mem _ hp')
  refine ⟨r1,r2,fun k hD=>⟨(r3 k hD).1,fun b hb=>?_,(r3 k hD).2.2⟩⟩
  have hb' : b < c.st.next + 1:=hb
  by_cases e1 : b = c.st.next
  ·subst e1; rw [hρn]; intro e2; rw [← e2] at hD; exact hdg p hp' hD
  ·rw [hρ b (by omega)]; exact (r3 k hD).2.1 b (by omega)
 ·obtain ⟨k1,k2⟩:=hS.fix b hb
  exact ⟨Nat.lt_succ_of_lt k1,by rw [hρ b k1]; exact k2⟩
theorem V.cellAs (b j : Nat) (blk : Blk) (x x' : SV) {c : Cfg} (hb : look c.st.heap b = some blk) (hj : blk.cells[j]? = some x) (hpl : plainB x' = true) (hd : ∀ ρ,x'.den ρ = x.den ρ)
  (h : V C ⟨c.todo,{ c.st with heap:=upd c.st.heap b { blk with cells:=blk.cells.set j x' } }⟩) : V C c:=by
 intro ρ a w hS
 refine h ρ a w ⟨hS.n,hS.slots,hS.grds,?_,hS.inj,hS.lt,hS.defers,hS.chg,hS.rows,hS.rowsD,hS.pers,hS.fix⟩
 intro b' blk' hb'
 simp only [look_upd] at hb'
 by_cases e' : b = b'
 ·subst e'
  rw [if_pos rfl] at hb'
  cases hb'
  obtain ⟨k1,k2,k3,k4⟩:=hS.heap b blk hb
  refine ⟨k1,?_,?_,k4⟩
  ·rw [k2]
   have : (blk.cells.set j x').map (SV.den ρ) = blk.cells.map (SV.den ρ):=by
    rw [List.map_set]
    apply List.ext_getElem?
    intro i
    rw [List.getElem?_set]
    split
    ·rename_i e1
     subst e1
     split
     ·rw [List.getElem?_map,hj,hd]; rfl
     ·rename_i hlt
      rw [List.getElem?_eq_none (by omega)]
    ·rfl
   rw [this]
  ·intro y hy
   rcases List.mem_or_eq_of_mem_set hy with hy | rfl
   ·exact k3 y hy
   ·exact SV.plain_wf (plainB_ok hpl) _
 ·rw [if_neg e'] at hb'
  exact hS.heap b' blk' hb'
theorem blk_apart {g g' : Nat} {cells cells' : List SV} {e e' : TypeId} (he : e ≠ e') (w : World) (h1 : (blkP g cells e).φ w) (h2 : (blkP g' cells' e').φ w) : ¬ (blkP g' cells' e').D g:=by
 intro hd
 have hd' : g = g':=hd
 subst hd'
 have h1' : w.heap[g]? = some (.cells (cells.map SV.den0).toArray e (0,0)):=h1
 have h2' : w.heap[g]? = some (.cells (cells'.map SV.den0).toArray e' (0,0)):=h2
 rw [h1'] at h2'
 simp only [Option.some.injEq,Obj.cells.injEq] at h2'
 exact he h2'.2.1
end
end Go.SX
end
section
namespace Go.SX
open Go
def callT1 (P : Program) (E : List (Ent P)) (c0 : Cfg) (d : DCfg) (i : Nat) : Option (DCfg × List Prop) :=
 match callD (dOps c0) i d.st,(dOps c0)[i]? with
 | some (none,f,xs),some o=>match callT E d.st.next f xs with
  | some (v,ob)=>match d.st.put o.dst v with
   | some s'=>some (⟨d.fuel - 1,d.listed.setIfInBounds i true,s'⟩,ob)
   | none=>none
  | none=>none
 | _,_=>none
def memT1 (P : Program) (c0 : Cfg) (d : DCfg) (i : Nat) : Option DCfg :=
 match (dOps c0)[i]? with
 | some o=>match grdOf d.st (dOps c0) o.guard,opMem P d.st none o.op with
  | .yes,some (v,s1)=>match s1.put o.dst v with
   | some s'=>some ⟨d.fuel - 1,d.listed.setIfInBounds i true,s'⟩
   | none=>none
  | _,_=>none
 | none=>none
def callY (P : Program) (E : List (Ent P)) (c0 : Cfg) (d : DCfg) (i : Nat) : DCfg:=((callT1 P E c0 d i).map (·.1)).getD d
def memY (P : Program) (c0 : Cfg) (d : DCfg) (i : Nat) : DCfg:=(memT1 P c0 d i).getD d
section
variable {C : Ctx} {T TR : List Nat} {L : Nat} {c0 : Cfg} {d : DCfg}
theorem VX.two (E : List (Ent C.P)) (ob : List Prop) (i j : Nat) (hr : Region.ready .any (dOps c0) d.listed = [i,j]) (hf : Nat.blt 0 d.fuel = true) (hc : (callT1 C.P E c0 d i).map (·.2) = some ob) (hm : (memT1 C.P c0 d j).isSome = true) (hn : needT E d.st.pers = wantT E) (ho : allP ob)
  (h1 : VX C T TR L c0 (callY C.P E c0 d i)) (h2 : VX C T TR L c0 (memY C.P c0 d j)) : VX C T TR L c0 d:=by
 intro D hD a1 a2 a3 a4 a5 a6 hL hsel aT aTR hlt hrw ρ a w hS hρ hn0 hch hcl hsz
 obtain ⟨n,hn'⟩ : ∃ n,d.fuel = n + 1:=⟨d.fuel - 1,by have:=blt_lt hf; omega⟩
 have hready : ∀ m,m ∈ Region.ready .any (dOps c0) d.listed ↔ m = i ∨ m = j:=by intro m; rw [hr]; simp
 rw [hn']
 refine wpAnyE_all hr (by simp) (fun m hm'=>?_)
 rcases List.mem_cons.1 hm' with rfl | hm'
 ·-- the call
  obtain ⟨⟨d1,ob'⟩,hd1,rfl⟩:=Option.map_eq_some_iff.1 hc
  have hY : callY C.P E c0 d m = d1:=by unfold callY; rw [hd1]; rfl
  rw [hY] at h1
  unfold callT1 at hd1
  split at hd1
  case h_2=>cases hd1
  rename_i f xs o hcd hop
  split at hd1
  case h_2=>cases hd1
  rename_i v ob2 hct
  split at hd1
  case h_2=>cases hd1
  rename_i s' hput
  cases hd1
  obtain ⟨b1,b2,b3⟩:=callT_ok (C:=C) hct (allP_mem ho) (needT_ok hn)
  obtain ⟨w1,w2⟩:=wfR_ok (W:=d.st.W) b2 rfl
  have hW:=put_W hput
  have hrw2 : D.rows s':=⟨fun r R hR=>by rw [show s'.rows = d.st.rows from congrArg WF.rows hW]; exact hrw.1 r R hR,by rw [hW]; exact hrw.2⟩
  unfold callD callOf at hcd
  simp only [hop] at hcd
  split at hcd
  case h_2=>cases hcd
  rename_i cl hopc
  split at hcd
  case h_3=>cases hcd
  case h_2=>split at hcd <;> cases hcd
  rename_i hg
  split at hcd
  case h_2=>cases hcd
  rename_i f' caps ys q1 q2
  simp only [Option.some.injEq,Prod.mk.injEq,true_and] at hcd
  obtain ⟨rfl,rfl⟩:=hcd
  have hrun:=calleeS_sound (t:=o.type) hS.toP (GcOk.none d.st) q1 q2 (enters b1)
  unfold wpOp
  simp only [hop,grd_yes hS hg,if_true]
  refine .inl ?_
  unfold Oper.wp execOp
  rw [hopc]
  simp only
  rw [hrun]
  refine (b3 ρ a w hS).mono ?_
  rintro e w2' ⟨rfl,hcw⟩
  have hc2 : Chg D.TS D.ws w2':=hch.trans hcw (fun i hi=>hi.elim)
  have:=h1 D hD a1 a2 a3 a4 a5 a6 hL hsel aT aTR hlt hrw2 ρ _ w2' ((hS.below hcw).put hput w1 (fun g pol c x e=>absurd e (w2 g pol c x))) hρ (by show D.n0 ≤ s'.next; rw [put_next hput]; exact hn0) hc2 (hcl.set ((hready m).2 (.inl rfl))) (by simpa using hsz)
  simp only [hn',Nat.add_sub_cancel] at this
  exact ⟨fun _=>hc2,this⟩
 ·-- the new block
  have hmj : m = j:=by simpa using hm'
  subst hmj
  obtain ⟨d2,hd2⟩:=Option.isSome_iff_exists.1 hm
  have hY : memY C.P c0 d m = d2:=by unfold memY; rw [hd2]; rfl
  rw [hY] at h2
  unfold memT1 at hd2
  split at hd2
  case h_2=>cases hd2
  rename_i o hop
  split at hd2
  case h_2=>cases hd2
  rename_i v s1 hg hmem
  split at hd2
  case h_2=>cases hd2
  rename_i s' hput
  cases hd2
  obtain ⟨k1,k2,k3⟩:=opMem_rows hmem
  obtain ⟨ρ',w2,e1,e2,e3,e4,e5,e6,e7⟩:=opMem_sound hS (GcOk.none d.st) o hmem
  have hc2 : Chg D.TS D.ws w2:=hch.trans e7 (fun i hi=>hi.elim)
  have hW:=put_W hput
  have hrw2 : D.rows s':=by
   refine ⟨fun r R hR=>?_,?_⟩
   ·rw [show s'.rows = s1.rows from congrArg WF.rows hW,k1]; exact hrw.1 r R hR
   ·rw [hW]
    exact hrw.2.trans' ⟨k3,Nat.le_of_eq k2.symm,fun r _ R hR=>by
     have hR' : look s1.rows r = some R:=hR
     rw [k1] at hR'; exact hR'⟩
  unfold wpOp
  simp only [hop,grd_yes hS hg,if_true]
  refine .inl ?_
  unfold Oper.wp
  rw [e1]
  have:=h2 D hD a1 a2 a3 a4 a5 a6 hL hsel aT aTR hlt hrw2 ρ' _ w2 (e2.put hput e3 (fun g pol c x e=>absurd e (e4 g pol c x))) (fun b hb=>(e5 b (by omega)).trans (hρ b hb)) (by show D.n0 ≤ s'.next; rw [put_next hput]; omega) hc2 (hcl.set ((hready m).2 (.inr rfl))) (by simpa using hsz)
  simp only [hn',Nat.add_sub_cancel] at this
  exact ⟨fun _=>hc2,this⟩
theorem V.lookP (t kt et : TypeId) (kd : TypeDesc) (g : Nat) (kv : CV) (ok : Bool) (key : Value) (y : Option Value) (z : Value) (u : RV) {c : Cfg} (hc : lookOf c = some (t,g,kv,ok))
  (ht : C.P.underlying t = some (.map kt et)) (hk : C.P.underlying kt = some kd) (hkk : keyKind kd = true)
  (hb : ∀ ρ a w,Sat C ρ c.st a w → ∃ es clock x,w.heap[g]? = some (.map es clock) ∧ Instr.findNow kd key es.toList 0 = some x ∧ x.map (·.2) = y)
  (hkv : ∀ ρ,kv.den ρ = key) (hz : y = none → ∀ w,(zeroValue et).run C.P w = .ok z w)
  (hu : ∀ ρ,u.den ρ = cond ok (.tuple #[y.getD z,.bool y.isSome]) (y.getD z)) (huw : u.wf c.st.W) (hng : ∀ g pol b y,u ≠ .grd g pol b y)
  (haf : (afterOp c c.st u).isSome = true) (k : V C (afterD c c.st u)) : V C c:=by
 unfold lookOf at hc
 split at hc
 ·rename_i t' m k' ok' hop
  split at hc
  ·rename_i g' kv' hm hk'
   cases hc
   refine V.opM hop (fun ρ a w o ho hS=>⟨ρ,u,w,c.st,?_,hS,huw,hng,_,afterD_some haf,k⟩)
   obtain ⟨e1,_⟩:=ev_sound hS.toP (GcOk.none c.st) hm
   obtain ⟨e2,_⟩:=ev_sound hS.toP (GcOk.none c.st) hk'
   obtain ⟨es,clock,x,b1,b2,rfl⟩:=hb ρ a w hS
   unfold execOp
   rw [ho]
   refine execVal2 ?_
   rw [e1,e2,hkv,hu]
   have:=run_lookup ht hk hkk b1 b2 (z:=z) (fun e=>hz (by rw [e]; rfl) w) ok
   rw [show (x.map (·.2)).isSome = x.isSome by cases x <;> rfl]
   exact this
  ·cases hc
 ·cases hc
end
end Go.SX
end
section
namespace Go.SX
open Go
def absP (g : Nat → Nat) : List (List SV × TypeId) → Nat → List Pers
 | [],_=>[]
 | (cells,e) :: l,i=>blkP (g i) cells e :: absP g l (i + 1)
def absH : List (List SV × TypeId) → Nat → List (Nat × Blk)
 | [],_=>[]
 | (cells,e) :: l,i=>(i,⟨cells,e,true⟩) :: absH l (i + 1)
theorem absP_mem {g : Nat → Nat} : ∀ {l : List (List SV × TypeId)} {i : Nat} {p : Pers},p ∈ absP g l i → ∃ j cells e,look (absH l i) j = some ⟨cells,e,true⟩ ∧ p = blkP (g j) cells e ∧ i ≤ j ∧ j < i + l.length ∧ (cells,e) ∈ l
 | [],i,p,h=>by simp [absP] at h
 | (cells,e) :: l,i,p,h=>by
  rcases List.mem_cons.1 h with rfl | h
  ·exact ⟨i,cells,e,by simp [absH,look],rfl,Nat.le_refl _,by simp,List.mem_cons_self ..⟩
  ·obtain ⟨j,c',e',h1,h2,h3,h4,h5⟩:=absP_mem h
   refine ⟨j,c',e',?_,h2,by omega,by simp only [List.length_cons]; omega,List.mem_cons_of_mem _ h5⟩
   simp only [absH,look]
   have : Nat.beq i j = false:=by
    cases hb : Nat.beq i j with
    | true=>have:=(beq_iff _ _).1 hb; omega
    | false=>rfl
   rw [this]
   exact h1
theorem CallsK.abs {P : Program} {f : FuncId} {ys : List CV} {F : St} {v : RV} (bl : List (List SV × TypeId)) (hF : F.heap = [] ∧ F.next = 0 ∧ F.rows = []) (hpl : (bl.all fun b=>b.1.all plainB) = true)
  (h : CallsK P f ys F (fun _ : Unit=>True) (fun _=>v) (fun _=>{ n:=0,slots:=[],gs:=[],heap:=absH bl 0,next:=bl.length,rows:=[],nr:=0,pers:=[],wr:=false })) (v' : (Nat → Nat) → RV)
  (hv : ∀ g ρ,(v' g).den ρ = v.den g) (hw : ∀ g,(v' g).wf ⟨0,0,[]⟩) :
  CallsK P f ys F (fun _ : Nat → Nat=>True) v' (fun g=>{ n:=0,slots:=[],gs:=[],heap:=[],next:=0,rows:=[],nr:=0,pers:=absP g bl 0,wr:=false }):=by
 obtain ⟨f1,f2,f3⟩:=hF
 intro ρ w hS
 refine (h ρ w hS).mono ?_
 rintro e w' ⟨x,ρ',_,he,k1,k2,k3,k4,k5,k6,k7,k8,k9,k10⟩
 refine ⟨ρ',ρ,trivial,by rw [hv ρ' ρ]; exact he,fun _ _=>rfl,by rw [f2]; exact Nat.le_refl _,fun b _ h2=>absurd h2 (Nat.not_lt_zero b),
    ⟨fun b blk hb=>(by cases hb),fun b c hb=>absurd hb (Nat.not_lt_zero b),fun b hb=>absurd hb (Nat.not_lt_zero b),fun r R hR=>(by cases hR),fun r r' R R' hR=>(by cases hR),?_⟩,
    fun b hb=>(by rw [f2] at hb; exact absurd hb (Nat.not_lt_zero b)),hw ρ',k7,fun b blk hb=>(by rw [f2] at hb; exact absurd hb (Nat.not_lt_zero b)),fun r R hR=>(by cases hR),?_⟩
 ·intro p hp
  obtain ⟨j,cells,e',h1,rfl,_,h4,h5⟩:=absP_mem hp
  obtain ⟨q1,q2,q3⟩:=k4.heap j _ h1
  have hpc : ∀ y ∈ cells,y.plain:=fun y hy=>plainB_ok (List.all_eq_true.1 (List.all_eq_true.1 hpl _ h5) y hy)
  have hφ : w'.heap[ρ' j]? = some (.cells (cells.map SV.den0).toArray e' (0,0)):=by
   rw [q2]
   have : cells.map (SV.den ρ') = cells.map SV.den0:=List.map_congr_left fun y hy=>SV.plain_den (hpc y hy) _
   simp only [this]
  refine ⟨hφ,fun w2 hw2=>(hw2 _ rfl).trans hφ,fun k hD=>⟨?_,fun b hb=>absurd hb (Nat.not_lt_zero b),fun r R hR=>(by cases hR)⟩⟩
  have hk : k = ρ' j:=hD
  subst hk
  exact k4.lt j q1
 ·intro p hp k hD
  obtain ⟨j,cells,e',h1,rfl,_,h4,h5⟩:=absP_mem hp
  have hk : k = ρ' j:=hD
  subst hk
  exact k3 j (by rw [f2]; exact Nat.zero_le _) (by simpa using h4)
theorem CallsK.args {α : Type} {P : Program} {f : FuncId} {ys : List CV} {F : St} {p : α → Prop} {v : α → RV} {F' : α → St} (h : CallsK P f ys F p v F') (ys' : List CV) (hd : ∀ ρ,ys'.map (CV.den ρ) = ys.map (CV.den ρ)) : CallsK P f ys' F p v F':=by
 intro ρ w hF
 rw [hd]
 exact h ρ w hF
end Go.SX
end
section
namespace Go.SX
open Go
open Go.ChangeMaps (setBlock)
def Stab (p : Pers) : Prop:=∀ w w' : World,(∀ k,p.D k → w'.heap[k]? = w.heap[k]?) → p.φ w → p.φ w'
def objP (g : Nat) (o : Obj) : Pers:=⟨fun k=>k = g,fun w=>w.heap[g]? = some o⟩
theorem objP_stab (g : Nat) (o : Obj) : Stab (objP g o):=fun _ _ h hw=>(h g rfl).trans hw
theorem blkP_stab (g : Nat) (cells : List SV) (e : TypeId) : Stab (blkP g cells e):=fun _ _ h hw=>(h g rfl).trans hw
theorem rowP_stab (R : Row) : Stab (rowP R):=rowP_stable R
def manyP (l : List Pers) : Pers:=⟨fun k=>∃ q ∈ l,q.D k,fun w=>∀ q ∈ l,q.φ w⟩
theorem manyP_stab {l : List Pers} (h : ∀ q ∈ l,Stab q) : Stab (manyP l):=fun w w' hk hw q hq=>h q hq w w' (fun k hD=>hk k ⟨q,hq,hD⟩) (hw q hq)
theorem absP_stab {g : Nat → Nat} {l : List (List SV × TypeId)} {i : Nat} : ∀ p ∈ absP g l i,Stab p:=by
 intro p hp
 obtain ⟨j,cells,e,_,rfl,_⟩:=absP_mem hp
 exact blkP_stab _ _ _
section
variable {C : Ctx} {ρ : Nat → Nat} {s : St} {a : Act} {w : World}
theorem V.pickP (i : Nat) (l : List Pers) (q : Pers) {c : Cfg} (hi : c.st.pers[i]? = some (manyP l)) (hq : q ∈ l) (hs : Stab q)
  (h : V C ⟨c.todo,{ c.st with pers:=q :: c.st.pers }⟩) : V C c:=by
 refine V.persAs [(i,false)] [manyP l] q ?_ (fun k hD=>⟨_,List.mem_singleton.2 rfl,q,hq,hD⟩) (fun w hw=>hw _ (List.mem_singleton.2 rfl) q hq) hs h
 simp only [getP,hi,askP]
theorem V.freezeObj (r g : Nat) (o : Obj) {c : Cfg} (hR : look c.st.rows r = some (objRow g o))
  (h : V C ⟨c.todo,{ c.st with rows:=eraseK r c.st.rows,pers:=newP C.w0.heap.size C.S (objP g o) :: c.st.pers }⟩) : V C c:=by
 intro ρ a w hS
 obtain ⟨r1,r2,r3⟩:=hS.rows r _ hR
 have hob:=hS.obj hR
 have hu : (objRow g o).uses g:=objRow_uses.2 rfl
 have hle : c.st.W.le ({ c.st with rows:=eraseK r c.st.rows,pers:=newP C.w0.heap.size C.S (objP g o) :: c.st.pers } : St).W:=⟨Nat.le_refl _,Nat.le_refl _,fun q _ Q hQ=>(look_eraseK hQ).2⟩
 refine h ρ a w ⟨hS.n,fun i v hv=>⟨(hS.slots i v hv).1,RV.wf_mono hle v (hS.slots i v hv).2⟩,hS.grds,?_,hS.inj,hS.lt,hS.defers,hS.chg,?_,?_,?_,hS.fix⟩
 ·intro b blk hb
  obtain ⟨k1,k2,k3,k4⟩:=hS.heap b blk hb
  exact ⟨k1,k2,fun x hx=>SV.wf_mono hle x (k3 x hx),k4⟩
 ·intro q Q hQ
  exact hS.rows q Q (look_eraseK hQ).2
 ·intro q q' Q Q' h1 h2
  exact hS.rowsD q q' Q Q' (look_eraseK h1).2 (look_eraseK h2).2
 ·intro p hp
  rcases List.mem_cons.1 hp with rfl | hp
  ·have hpure : ∀ k,(objP g o).D k → C.w0.heap.size ≤ k ∨ C.S k:=fun k hk=>by
    have e : k = g:=hk
    subst e
    exact (r3 k hu).2.2 rfl
   refine ⟨⟨hob,hpure⟩,fun w2 hw2=>⟨objP_stab g o w w2 hw2 hob,hpure⟩,fun k hk=>?_⟩
   have e : k = g:=hk
   subst e
   refine ⟨(r3 k hu).1,(r3 k hu).2.1,fun q Q hQ hQo hu'=>?_⟩
   obtain ⟨hne,h2⟩:=look_eraseK hQ
   exact hS.rowsD r q _ Q hR h2 (fun e=>hne e.symm) rfl k hu hu'
  ·obtain ⟨p1,p2,p3⟩:=hS.pers p hp
   exact ⟨p1,p2,fun k hk=>⟨(p3 k hk).1,(p3 k hk).2.1,fun q Q hQ=>(p3 k hk).2.2 q Q (look_eraseK hQ).2⟩⟩
def objOf (R : Row) : Option (Nat × Obj) :=
 match R.n,R.cap,R.elem,R.size,R.own,R.obj,R.s with
 | 0,0,0,0,true,some o,some ⟨g,0,none⟩=>some (g,o)
 | _,_,_,_,_,_,_=>none
theorem objOf_eq {R : Row} {g : Nat} {o : Obj} (h : objOf R = some (g,o)) : R.n = 0 ∧ { R with get:=fun _=>[] } = objRow g o:=by
 obtain ⟨s,n,cap,elem,size,get,own,obj⟩:=R
 unfold objOf at h
 simp only at h
 split at h
 ·cases h
  exact ⟨rfl,rfl⟩
 ·cases h
theorem upd_upd {α : Type} (r : Nat) (x y : α) : ∀ l : List (Nat × α),upd (upd l r x) r y = upd l r y
 | []=>by simp [upd,Nat.beq_refl]
 | (k,v) :: l=>by
  simp only [upd]
  cases hk : Nat.beq k r with
  | true=>simp only [upd,hk]
  | false=>simp only [upd,hk,upd_upd r x y l]
theorem Sat.setObjR (h : Sat C ρ s a w) {r g : Nat} {o : Obj} {R : Row} (hr : look s.rows r = some R) (ho : objOf R = some (g,o)) (o' : Obj) : Sat C ρ (s.setObj r g o') a (setBlock w g o') ∧ w.heap[g]? = some o:=by
 obtain ⟨hn,he⟩:=objOf_eq ho
 have h1:=h.rowAs hr (fun _=>[]) (fun i hi=>by omega)
 rw [he] at h1
 have hl : look (upd s.rows r (objRow g o)) r = some (objRow g o):=by rw [look_upd,if_pos rfl]
 refine ⟨?_,h1.obj (r:=r) (g:=g) hl⟩
 have h2:=h1.setObj (r:=r) (g:=g) hl o'
 unfold St.setObj at h2 ⊢
 simp only [upd_upd] at h2
 exact h2
def insStep (P : Program) (r : Nat) (c : Cfg) : Option (Cfg × (Nat × Nat)) :=
 match insOf c with
 | some (t,g,kv,xv)=>match look c.st.rows r with
  | some R=>match objOf R with
   | some (g',.map es clock)=>match P.underlying t with
    | some (.map kt _)=>match P.underlying kt with
     | some kd=>match keyKind kd,plainC kv && plainC xv with
      | true,true=>match Instr.findNow kd (kv.den fun _=>0) es.toList 0 with
       | some none=>match afterOp c (c.st.setObj r g' (.map (es.push { key:=kv.den fun _=>0,val:=xv.den fun _=>0,born:=clock }) (clock + 1))) (.v (.one (.val undef))) with
        | some c'=>some (c',(g,g'))
        | none=>none
       | _=>none
      | _,_=>none
     | none=>none
    | _=>none
   | _=>none
  | none=>none
 | none=>none
theorem insStep_sound {r : Nat} {c c' : Cfg} {g g' : Nat} (hs : insStep C.P r c = some (c',(g,g'))) (hg : g = g') (k : V C c') : V C c:=by
 unfold insStep at hs
 split at hs
 case h_2=>cases hs
 rename_i t g0 kv xv hc
 split at hs
 case h_2=>cases hs
 rename_i R hR
 split at hs
 case h_2=>cases hs
 rename_i g1 es clock hob
 split at hs
 case h_2=>cases hs
 rename_i kt et ht
 split at hs
 case h_2=>cases hs
 rename_i kd hk
 split at hs
 case h_2=>cases hs
 rename_i hkk hpl
 split at hs
 case h_2=>cases hs
 rename_i hf
 split at hs
 case h_2=>cases hs
 rename_i c1 haf
 cases hs
 subst hg
 rw [Bool.and_eq_true] at hpl
 have hkv : ∀ ρ,kv.den ρ = kv.den fun _=>0:=fun ρ=>plainC_den hpl.1 ρ _
 have hxv : ∀ ρ,xv.den ρ = xv.den fun _=>0:=fun ρ=>plainC_den hpl.2 ρ _
 generalize hkey : kv.den (fun _=>0) = key at *
 generalize hval : xv.den (fun _=>0) = val at *
 unfold insOf at hc
 split at hc
 ·rename_i op hop
  split at hc
  ·rename_i t' m k' x hins
   split at hc
   ·rename_i g'' kv' xv' hm hk' hx'
    cases hc
    refine V.opU hop (fun ρ a w o ho hS=>?_)
    obtain ⟨e1,_⟩:=ev_sound hS.toP (GcOk.none c.st) hm
    obtain ⟨e2,_⟩:=ev_sound hS.toP (GcOk.none c.st) hk'
    obtain ⟨e3,_⟩:=ev_sound hS.toP (GcOk.none c.st) hx'
    obtain ⟨s1,s2⟩:=hS.setObjR hR hob (.map (es.push { key:=key,val:=val,born:=clock }) (clock + 1))
    refine ⟨_,_,?_,s1,_,haf,k⟩
    have hrun:=run_mapInsert (P:=C.P) (v:=val) ht hk hkk s2 hf
    unfold insOp at hins
    unfold execOp
    rw [ho]
    split at hins
    ·cases hins
     simp only [e1,e2,e3,hkv,hxv]
     have : CV.den ρ (.one (.val (.map (some g)))) = .map (some g):=rfl
     rw [this,Sem.run_bind,hrun]
     rfl
    ·cases hins
     simp only [e1,e2,e3,hkv,hxv]
     have : CV.den ρ (.one (.val (.map (some g)))) = .map (some g):=rfl
     rw [this,Sem.run_bind,hrun]
     rfl
    ·cases hins
   ·cases hc
  ·cases hc
 ·cases hc
def runM (P : Program) (T : List (Ent P)) (r : Nat) : Nat → Cfg → Cfg × List Prop × List (Nat × Nat)
 | 0,c=>(c,[],[])
 | n + 1,c=>match runT P T 1000 c with
  | (c1,ob)=>match insStep P r c1 with
   | some (c2,gg)=>match runM P T r n c2 with
    | (c3,ob3,l)=>(c3,ob ++ ob3,gg :: l)
   | none=>(c1,ob,[])
theorem insStep_pers {P : Program} {r : Nat} {c c' : Cfg} {gg : Nat × Nat} (h : insStep P r c = some (c',gg)) : c'.st.pers = c.st.pers:=by
 unfold insStep at h
 repeat' split at h
 all_goals first
  | (cases h; done)
  | skip
 cases h
 rename_i c1 haf
 unfold afterOp at haf
 split at haf
 ·split at haf
  ·split at haf
   ·rename_i s' hp
    cases haf
    unfold St.put at hp
    split at hp
    ·cases hp; rfl
    ·split at hp
     ·cases hp
     ·split at hp
      ·cases hp
      ·cases hp; rfl
   ·cases haf
  ·cases haf
 ·cases haf
theorem V.runM (T : List (Ent C.P)) (r n : Nat) (ob : List Prop) (l : List (Nat × Nat)) {c : Cfg} (hr : (SX.runM C.P T r n c).2 = (ob,l)) (hn : needT T c.st.pers = wantT T) (ho : allP ob) (hl : ∀ p ∈ l,p.1 = p.2)
  (h : V C (SX.runM C.P T r n c).1) : V C c:=by
 have hob:=allP_mem ho
 clear ho
 have hn':=needT_ok hn
 clear hn
 induction n generalizing c ob l with
 | zero=>exact h
 | succ n ih =>
  unfold SX.runM at hr h
  have hpp:=runT_pers (P:=C.P) (T:=T) 1000 c
  have hrs:=runT_sound (C:=C) (T:=T) 1000 c
  generalize SX.runT C.P T 1000 c = x at hr h hpp hrs
  obtain ⟨c1,ob1⟩:=x
  simp only at hr h hpp hrs
  split at hr
  ·rename_i c2 gg hst
   rw [hst] at h
   simp only at h hr
   cases hr
   obtain ⟨g,g'⟩:=gg
   have hp2:=insStep_pers hst
   refine hrs (fun p hp=>hob p (List.mem_append_left _ hp)) hn' (insStep_sound hst (hl _ (List.mem_cons_self ..)) ?_)
   exact ih _ _ rfl (fun p hp=>hl p (List.mem_cons_of_mem _ hp)) h (fun p hp=>hob p (List.mem_append_right _ hp)) (fun e he q hq=>by rw [hp2,hpp]; exact hn' e he q hq)
  ·rename_i hst
   rw [hst] at h
   cases hr
   exact hrs hob hn' h
end
end Go.SX
end
section
namespace Go.SX
open Go
def SV.absz (b g : Nat) : SV → SV
 | .ptr b' off=>match Nat.beq b b' with
  | true=>.val (.pointer (some ⟨g,off,none⟩))
  | false=>.ptr b' off
 | .sli b' n cap=>match Nat.beq b b' with
  | true=>.val (.slice (some ⟨g,0,none⟩) n cap)
  | false=>.sli b' n cap
 | x=>x
def CV.absz (b g : Nat) : CV → CV
 | .one x=>.one (x.absz b g)
 | .agg xs=>.agg (xs.map (SV.absz b g))
def RV.absz (b g : Nat) : RV → RV
 | .v x=>.v (x.absz b g)
 | .tup xs=>.tup (xs.map (CV.absz b g))
 | .grd q pol c x=>.grd q pol c (x.absz b g)
def St.absz (s : St) (b g : Nat) : St:={ s with slots:=mapK (RV.absz b g) s.slots,heap:=mapK (fun k=>⟨k.cells.map (SV.absz b g),k.elem,k.rw⟩) s.heap }
theorem SV.absz_den {b g : Nat} {ρ : Nat → Nat} (h : ρ b = g) (x : SV) : (x.absz b g).den ρ = x.den ρ:=by
 cases x with
 | ptr b' off =>
  simp only [SV.absz]
  split
  ·rename_i e; have:=(beq_iff _ _).1 e; subst this; simp only [SV.den,h]
  ·rfl
 | sli b' n cap =>
  simp only [SV.absz]
  split
  ·rename_i e; have:=(beq_iff _ _).1 e; subst this; simp only [SV.den,h]
  ·rfl
 | _=>rfl
theorem CV.absz_den {b g : Nat} {ρ : Nat → Nat} (h : ρ b = g) (x : CV) : (x.absz b g).den ρ = x.den ρ:=by
 cases x with
 | one x=>exact SV.absz_den h x
 | agg xs =>
  simp only [CV.absz,CV.den,List.map_map]
  congr 2
  exact List.map_congr_left fun x _=>SV.absz_den h x
theorem RV.absz_den {b g : Nat} {ρ : Nat → Nat} (h : ρ b = g) (x : RV) : (x.absz b g).den ρ = x.den ρ:=by
 cases x with
 | v x=>exact CV.absz_den h x
 | tup xs =>
  simp only [RV.absz,RV.den,List.map_map]
  congr 2
  exact List.map_congr_left fun x _=>CV.absz_den h x
 | grd q pol c x=>simp only [RV.absz,RV.den,CV.absz_den h x]
theorem SV.absz_wf {b g : Nat} {W : WF} (x : SV) (h : x.wf W) : (x.absz b g).wf W:=by
 cases x with
 | ptr b' off=>simp only [SV.absz]; split <;> first | trivial | exact h
 | sli b' n cap=>simp only [SV.absz]; split <;> first | trivial | exact h
 | _=>exact h
theorem CV.absz_wf {b g : Nat} {W : WF} (x : CV) (h : x.wf W) : (x.absz b g).wf W:=by
 cases x with
 | one x=>exact SV.absz_wf x h
 | agg xs=>intro y hy; obtain ⟨z,hz,rfl⟩:=List.mem_map.1 hy; exact SV.absz_wf z (h z hz)
theorem RV.absz_wf {b g : Nat} {W : WF} (x : RV) (h : x.wf W) : (x.absz b g).wf W:=by
 cases x with
 | v x=>exact CV.absz_wf x h
 | tup xs=>intro y hy; obtain ⟨z,hz,rfl⟩:=List.mem_map.1 hy; exact CV.absz_wf z (h z hz)
 | grd q pol c x=>exact fun hc=>CV.absz_wf x (h hc)
section
variable {C : Ctx} {ρ : Nat → Nat} {s : St} {a : Act} {w : World}
theorem Sat.absz (h : Sat C ρ s a w) (b : Nat) : Sat C ρ (s.absz b (ρ b)) a w:=by
 refine ⟨h.n,?_,?_,?_,h.inj,h.lt,h.defers,h.chg,h.rows,h.rowsD,h.pers,h.fix⟩
 ·intro i v hv
  simp only [St.absz,look_mapK] at hv
  obtain ⟨u,hu,rfl⟩:=Option.map_eq_some_iff.1 hv
  obtain ⟨k1,k2⟩:=h.slots i u hu
  exact ⟨by rw [RV.absz_den rfl]; exact k1,RV.absz_wf u k2⟩
 ·intro i g pol b' x hv
  simp only [St.absz,look_mapK] at hv ⊢
  obtain ⟨u,hu,hu'⟩:=Option.map_eq_some_iff.1 hv
  cases u with
  | grd g' pol' b'' x' =>
   simp only [RV.absz,RV.grd.injEq] at hu'
   obtain ⟨rfl,rfl,rfl,rfl⟩:=hu'
   obtain ⟨k1,k2⟩:=h.grds i _ _ _ _ hu
   exact ⟨k1,by rw [k2]; rfl⟩
  | v x=>cases hu'
  | tup x=>cases hu'
 ·intro b' blk hb
  simp only [St.absz,look_mapK] at hb
  obtain ⟨u,hu,rfl⟩:=Option.map_eq_some_iff.1 hb
  obtain ⟨k1,k2,k3,k4⟩:=h.heap b' u hu
  refine ⟨k1,?_,?_,k4⟩
  ·have : (u.cells.map (SV.absz b (ρ b))).map (SV.den ρ) = u.cells.map (SV.den ρ):=by rw [List.map_map]; exact List.map_congr_left fun x _=>SV.absz_den rfl x
   simp only [this]; exact k2
  ·intro x hx; obtain ⟨y,hy,rfl⟩:=List.mem_map.1 hx; exact SV.absz_wf y (k3 y hy)
def freeKeys : List (Nat × RV) → List Nat
 | []=>[]
 | (k,v) :: l=>match v with
  | .grd _ _ _ _=>freeKeys l
  | _=>k :: freeKeys l
def hsNo (b : Nat) (hp : List (Nat × Blk)) : Nat → Nat → List Nat
 | 0,_=>[]
 | n + 1,i=>match Nat.beq b i with
  | true=>hsNo b hp n (i + 1)
  | false=>match look hp i with
   | some _=>i :: hsNo b hp n (i + 1)
   | none=>hsNo b hp n (i + 1)
theorem hsNo_ne {b : Nat} {hp : List (Nat × Blk)} : ∀ {n i x : Nat},x ∈ hsNo b hp n i → x ≠ b ∧ x < i + n
 | 0,i,x,h=>by simp [hsNo] at h
 | n + 1,i,x,h=>by
  simp only [hsNo] at h
  split at h
  ·obtain ⟨h1,h2⟩:=hsNo_ne h; exact ⟨h1,by omega⟩
  ·rename_i e
   split at h
   ·rcases List.mem_cons.1 h with rfl | h
    ·exact ⟨fun e'=>beq_false e e'.symm,by omega⟩
    ·obtain ⟨h1,h2⟩:=hsNo_ne h; exact ⟨h1,by omega⟩
   ·obtain ⟨h1,h2⟩:=hsNo_ne h; exact ⟨h1,by omega⟩
def rKeys : List (Nat × Row) → List Nat
 | []=>[]
 | (k,_) :: l=>k :: rKeys l
def allTrue : List Pers → List Bool
 | []=>[]
 | _ :: l=>true :: allTrue l
def absB (b g : Nat) (s : St) : Option St:=pickSt (freeKeys s.slots) (hsNo b s.heap s.next 0) (rKeys s.rows) (allTrue s.pers) (s.absz b g)
def absS (b g : Nat) (s : St) : St:=(absB b g s).getD s
theorem Sat.absB (h : Sat C ρ s a w) {b : Nat} (hb : b < s.next) (hp : (SX.absB b (ρ b) s).isSome = true) :
  ∃ ρ',Sat C ρ' (absS b (ρ b) s) a w ∧ (∀ c,c < (absS b (ρ b) s).next → ρ' c ≠ ρ b) ∧ (∀ r R,look (absS b (ρ b) s).rows r = some R → ∃ r',look s.rows r' = some R) ∧ ∀ p ∈ (absS b (ρ b) s).pers,p ∈ s.pers:=by
 obtain ⟨s',hs'⟩:=Option.isSome_iff_exists.1 hp
 have e : absS b (ρ b) s = s':=by unfold absS; rw [hs']; rfl
 rw [e]
 refine ⟨_,(h.absz b).pick hs',?_,?_,?_⟩
 ·intro c hc e'
  have hpk : pickSt (freeKeys s.slots) (hsNo b s.heap s.next 0) (rKeys s.rows) (allTrue s.pers) (s.absz b (ρ b)) = some s':=hs'
  unfold pickSt at hpk
  split at hpk
  case h_2=>cases hpk
  cases hpk
  have hc' : c < (hsNo b s.heap s.next 0).length:=hc
  have hm : (hsNo b s.heap s.next 0).getD c 0 ∈ hsNo b s.heap s.next 0:=by
   rw [List.getD,List.getElem?_eq_getElem hc']
   exact List.getElem_mem hc'
  obtain ⟨h1,h2⟩:=hsNo_ne hm
  exact h1 (h.inj _ _ (by omega) hb e')
 ·intro r R hR
  have hpk : pickSt (freeKeys s.slots) (hsNo b s.heap s.next 0) (rKeys s.rows) (allTrue s.pers) (s.absz b (ρ b)) = some s':=hs'
  unfold pickSt at hpk
  split at hpk
  case h_2=>cases hpk
  rename_i sl hpp rows hnd1 hnd2 hsl hhp hrows
  cases hpk
  obtain ⟨r2,_,_,h3⟩:=pickRows_ok hrows r R hR
  exact ⟨r2,h3⟩
 ·intro p hp2
  have hpk : pickSt (freeKeys s.slots) (hsNo b s.heap s.next 0) (rKeys s.rows) (allTrue s.pers) (s.absz b (ρ b)) = some s':=hs'
  unfold pickSt at hpk
  split at hpk
  case h_2=>cases hpk
  cases hpk
  exact keepP_sub _ _ p hp2
theorem V.absB (b : Nat) (blk : Blk) {c : Cfg} (hb : look c.st.heap b = some blk) (hpl : (blk.cells.all plainB && blk.rw) = true) (hp : ∀ g,(SX.absB b g c.st).isSome = true)
  (h : ∀ g,V C ⟨c.todo,{ absS b g c.st with pers:=newP C.w0.heap.size C.S (blkP g blk.cells blk.elem) :: (absS b g c.st).pers }⟩) : V C c:=by
 intro ρ a w hS
 rw [Bool.and_eq_true] at hpl
 obtain ⟨k1,k2,k3,k4⟩:=hS.heap b blk hb
 obtain ⟨ρ',h1,h2,h3,h5⟩:=hS.absB k1 (hp (ρ b))
 refine h (ρ b) ρ' a w ⟨h1.n,h1.slots,h1.grds,h1.heap,h1.inj,h1.lt,h1.defers,h1.chg,h1.rows,h1.rowsD,?_,h1.fix⟩
 intro p hp'
 rcases List.mem_cons.1 hp' with rfl | hp'
 ·have hφ : w.heap[ρ b]? = some (.cells (blk.cells.map SV.den0).toArray blk.elem (0,0)):=by
   rw [k2]
   have : blk.cells.map (SV.den ρ) = blk.cells.map SV.den0:=List.map_congr_left fun y hy=>SV.plain_den (plainB_ok (List.all_eq_true.1 hpl.1 y hy)) _
   simp only [this]
  have hpure : ∀ k,(blkP (ρ b) blk.cells blk.elem).D k → C.w0.heap.size ≤ k ∨ C.S k:=fun k hk=>by
   have e : k = ρ b:=hk
   subst e; exact k4 hpl.2
  refine ⟨⟨hφ,hpure⟩,fun w2 hw2=>⟨(hw2 _ rfl).trans hφ,hpure⟩,fun k hk=>?_⟩
  have e : k = ρ b:=hk
  subst e
  refine ⟨hS.lt b k1,h2,fun r R hR ho hu=>?_⟩
  obtain ⟨r',hr'⟩:=h3 r R hR
  exact ((hS.rows r' R hr').2.2 _ hu).2.1 b k1 rfl
 ·exact h1.pers p hp'
theorem range_map_getD {α : Type} (l : List α) (d : α) : (List.range l.length).map (fun i=>l.getD i d) = l:=by
 apply List.ext_getElem?
 intro i
 rw [List.getElem?_map]
 by_cases hi : i < l.length
 ·rw [List.getElem?_range hi,Option.map_some,List.getD,List.getElem?_eq_getElem hi]; rfl
 ·rw [List.getElem?_eq_none (by simp; omega),List.getElem?_eq_none (by omega)]; rfl
theorem rowL_flat {α : Type} (f : α → List SV) (d : α) (l : List α) (q : Option Addr) (cap : Nat) (e : TypeId) (sz : Nat) (own : Bool) : (rowL f d l q cap e sz own).flat = (l.flatMap f).map SV.den0:=by
 show (List.range l.length).flatMap (fun i=>(f (l.getD i d)).map SV.den0) = _
 conv=>rhs; rw [← range_map_getD l d]
 rw [List.flatMap_map,List.map_flatMap]
theorem flat_at {α : Type} {f : α → List SV} {sz : Nat} (hf : ∀ x,(f x).length = sz) (d : α) : ∀ {l : List α} {i j : Nat},i < l.length → j < sz → (l.flatMap f)[i * sz + j]? = (f (l.getD i d))[j]?
 | x :: l,0,j,_,hj=>by
  rw [List.flatMap_cons,List.getElem?_append_left (by rw [hf]; omega)]
  simp
 | x :: l,i + 1,j,hi,hj=>by
  rw [List.flatMap_cons,List.getElem?_append_right (by rw [hf,Nat.succ_mul]; omega),hf]
  rw [show (i + 1) * sz + j - sz = i * sz + j by rw [Nat.succ_mul]; omega]
  rw [flat_at hf d (by simpa using hi) hj]
  simp
theorem flat_len {α : Type} {f : α → List SV} {sz : Nat} (hf : ∀ x,(f x).length = sz) : ∀ l : List α,(l.flatMap f).length = l.length * sz
 | []=>by simp
 | x :: l=>by rw [List.flatMap_cons,List.length_append,hf,flat_len hf l,List.length_cons,Nat.succ_mul]; omega
theorem rowL_ok {α : Type} {w : World} {g : Nat} {f : α → List SV} {d : α} {l : List α} {e : TypeId} {sz : Nat} {own : Bool} (hg : w.heap[g]? = some (.cells ((l.flatMap f).map SV.den0).toArray e (0,0))) (hf : ∀ x,(f x).length = sz)
  (hpl : ∀ x,∀ y ∈ f x,y.plain) (hm : l.length ≤ maxLen) : (rowL f d l (some ⟨g,0,none⟩) l.length e sz own).ok w:=by
 have hsz : ((l.flatMap f).map SV.den0).length = l.length * sz:=by rw [List.length_map,flat_len hf]
 refine ⟨fun i hi=>⟨hf _,hpl _⟩,fun hp=>⟨g,0,rfl,fun i j x hi hx=>?_⟩,fun _ _=>⟨by rw [rowL_flat]; exact hsz,.inr ⟨g,l.length,_,rfl,Nat.zero_le _,hg,Nat.le_refl _,hm,(by show ((l.flatMap f).map SV.den0).toArray.size = l.length * sz; rw [List.size_toArray]; exact hsz),?_⟩⟩,fun o ho=>(by cases ho)⟩
 ·have hi' : i < l.length:=hi
  have hx' : (f (l.getD i d))[j]? = some x:=hx
  have hj : j < sz:=by
   rw [← hf (l.getD i d)]
   exact (List.getElem?_eq_some_iff.1 hx').1
  rw [Lib.cell_of_heap hg]
  show ((l.flatMap f).map SV.den0).toArray[0 + (i * sz + j)]? = _
  rw [Nat.zero_add,List.getElem?_toArray,List.getElem?_map,flat_at hf d hi' hj,hx']
  rfl
 ·rw [rowL_flat]
  simp only [rowL]
  rw [← hsz]
  exact List.take_length
theorem rowP_of_blk {α : Type} {f : α → List SV} {d : α} {l : List α} {g : Nat} {e : TypeId} {sz : Nat} (hf : ∀ x,(f x).length = sz) (hpl : ∀ x,∀ y ∈ f x,y.plain) (hm : l.length ≤ maxLen) (w : World) (h : (blkP g (l.flatMap f) e).φ w) :
  (rowP (rowL f d l (some ⟨g,0,none⟩) l.length e sz false)).φ w:=rowL_ok h hf hpl hm
theorem V.rowB {α : Type} (f : α → List SV) (d : α) (l : List α) (e : TypeId) (sz : Nat) (b : Nat) {c : Cfg} (hb : look c.st.heap b = some ⟨l.flatMap f,e,true⟩) (hf : ∀ x,(f x).length = sz) (hpl : ∀ x,∀ y ∈ f x,y.plain) (hm : l.length ≤ maxLen) (hp : ∀ g,(SX.absB b g c.st).isSome = true)
  (h : ∀ g,V C ⟨c.todo,{ absS b g c.st with rows:=((absS b g c.st).nr,rowL f d l (some ⟨g,0,none⟩) l.length e sz true) :: (absS b g c.st).rows,nr:=(absS b g c.st).nr + 1 }⟩) : V C c:=by
 intro ρ a w hS
 obtain ⟨k1,k2,k3,k4⟩:=hS.heap b _ hb
 obtain ⟨ρ',h1,h2,h3,h5⟩:=hS.absB k1 (hp (ρ b))
 have hφ : w.heap[ρ b]? = some (.cells ((l.flatMap f).map SV.den0).toArray e (0,0)):=by
  rw [k2]
  have : (l.flatMap f).map (SV.den ρ) = (l.flatMap f).map SV.den0:=List.map_congr_left fun y hy=>by
   obtain ⟨x,_,hx⟩:=List.mem_flatMap.1 hy
   exact SV.plain_den (hpl x y hx) _
  simp only [this]
 have hnu : ∀ r R,look (absS b (ρ b) c.st).rows r = some R → ¬ R.uses (ρ b):=fun r R hR hu=>by
  obtain ⟨r',hr'⟩:=h3 r R hR
  exact ((hS.rows r' R hr').2.2 _ hu).2.1 b k1 rfl
 have huse : ∀ k,(rowL f d l (some ⟨ρ b,0,none⟩) l.length e sz true).uses k → k = ρ b:=by
  rintro k ⟨ad,h1,h2,_⟩
  cases h1; exact h2.symm
 have hlk : ∀ r R,look (((absS b (ρ b) c.st).nr,rowL f d l (some ⟨ρ b,0,none⟩) l.length e sz true) :: (absS b (ρ b) c.st).rows) r = some R →
   (r = (absS b (ρ b) c.st).nr ∧ R = rowL f d l (some ⟨ρ b,0,none⟩) l.length e sz true) ∨ look (absS b (ρ b) c.st).rows r = some R:=by
  intro r R hR
  simp only [look] at hR
  split at hR
  ·rename_i e; cases hR; exact .inl ⟨((beq_iff _ _).1 e).symm,rfl⟩
  ·exact .inr hR
 have hle : (absS b (ρ b) c.st).W.le ({ absS b (ρ b) c.st with rows:=((absS b (ρ b) c.st).nr,rowL f d l (some ⟨ρ b,0,none⟩) l.length e sz true) :: (absS b (ρ b) c.st).rows,nr:=(absS b (ρ b) c.st).nr + 1 } : St).W :=
  ⟨Nat.le_refl _,Nat.le_succ _,fun q hq Q hQ=>by
   rcases hlk q Q hQ with ⟨e,_⟩ | h4
   ·have hq' : q < (absS b (ρ b) c.st).nr:=hq
    omega
   ·exact h4⟩
 refine h (ρ b) ρ' a w ⟨h1.n,fun i v hv=>⟨(h1.slots i v hv).1,RV.wf_mono hle v (h1.slots i v hv).2⟩,h1.grds,?_,h1.inj,h1.lt,h1.defers,h1.chg,?_,?_,?_,h1.fix⟩
 ·intro b' blk hb'
  obtain ⟨q1,q2,q3,q4⟩:=h1.heap b' blk hb'
  exact ⟨q1,q2,fun x hx=>SV.wf_mono hle x (q3 x hx),q4⟩
 ·intro r R hR
  rcases hlk r R hR with ⟨rfl,rfl⟩ | h4
  ·refine ⟨Nat.lt_succ_self _,rowL_ok hφ hf hpl hm,fun k hk=>?_⟩
   rw [huse k hk]
   exact ⟨hS.lt b k1,h2,fun _=>k4 rfl⟩
  ·obtain ⟨q1,q2,q3⟩:=h1.rows r R h4
   exact ⟨Nat.lt_succ_of_lt q1,q2,q3⟩
 ·intro r r' R R' hR hR' hne ho k hk hk'
  rcases hlk r R hR with ⟨rfl,rfl⟩ | h4 <;> rcases hlk r' R' hR' with ⟨rfl,rfl⟩ | h6
  ·exact hne rfl
  ·rw [huse k hk] at hk'; exact hnu _ _ h6 hk'
  ·rw [huse k hk'] at hk; exact hnu _ _ h4 hk
  ·exact h1.rowsD r r' R R' h4 h6 hne ho k hk hk'
 ·intro p hp'
  obtain ⟨p1,p2,p3⟩:=h1.pers p hp'
  refine ⟨p1,p2,fun k hD=>⟨(p3 k hD).1,(p3 k hD).2.1,fun r R hR ho hu=>?_⟩⟩
  rcases hlk r R hR with ⟨rfl,rfl⟩ | h4
  ·rw [huse k hu] at hD
   exact ((hS.pers p (h5 p hp')).2.2 _ hD).2.1 b k1 rfl
  ·exact (p3 k hD).2.2 r R h4 ho hu
end
end Go.SX
end
section
namespace Go.SX
open Go
def Drv (ps : List Pers) (q : Pers) : Prop:=Stab q ∧ ∃ p ∈ ps,(∀ k,q.D k → p.D k) ∧ ∀ w,p.φ w → q.φ w
theorem Drv.self {ps : List Pers} {q : Pers} (hs : Stab q) (h : q ∈ ps) : Drv ps q:=⟨hs,q,h,fun _ h=>h,fun _ h=>h⟩
theorem Drv.many {ps l : List Pers} {q : Pers} (hs : Stab q) (hl : manyP l ∈ ps) (h : q ∈ l) : Drv ps q:=⟨hs,manyP l,hl,fun k hk=>⟨q,h,hk⟩,fun w hw=>hw q h⟩
theorem CallsK.pers {α : Type} {P : Program} {f : FuncId} {ys : List CV} {F : St} {p : α → Prop} {v : α → RV} {F' : α → St} (h : CallsK P f ys F p v F') (ps : List Pers) (hd : ∀ q ∈ F.pers,Drv ps q) :
  CallsK P f ys { F with pers:=ps } p v F':=by
 intro ρ w hF
 have hF' : FSat ρ F w:=FSat.withPers (s':={ F with pers:=ps }) hF rfl (fun q hq=>by
  obtain ⟨hs,p,hp,h1,h2⟩:=hd q hq
  obtain ⟨a1,a2,a3⟩:=hF.pers p hp
  exact ⟨h2 w a1,fun w' hw'=>hs w w' hw' (h2 w a1),fun k hk=>a3 k (h1 k hk)⟩)
 exact h ρ w hF'
theorem CallsK.to {α β : Type} {P : Program} {f : FuncId} {ys : List CV} {F : St} {p : α → Prop} {v : α → RV} {F' : α → St} (h : CallsK P f ys F p v F') {p' : β → Prop} {v' : β → RV} {F'' : β → St}
  (g : ∀ x,p x → ∃ y,p' y ∧ v' y = v x ∧ F'' y = F' x) : CallsK P f ys F p' v' F'':=by
 intro ρ w hF
 refine (h ρ w hF).mono ?_
 rintro e w' ⟨x,ρ',hx,h⟩
 obtain ⟨y,hy,e1,e2⟩:=g x hx
 refine ⟨y,ρ',hy,?_⟩
 rw [e1,e2]
 exact h
def stP (ps : List Pers) : St:={ n:=0,slots:=[],gs:=[],heap:=[],next:=0,rows:=[],nr:=0,pers:=ps,wr:=false }
theorem CallsK.ofGives {P : Program} {f : FuncId} {ys : List CV} {ps : List Pers} {v : RV} (hv : plainR v = true) (h : ∀ (ρ : Nat → Nat) (w : World),PersOk ps w → Calls P f (ys.map (CV.den ρ)).toArray w (Gives (v.den ρ) w)) :
  CallsK P f ys (stP ps) (fun _ : Unit=>True) (fun _=>v) (fun _=>stP []):=by
 intro ρ w hF
 refine (h ρ w (fun p hp=>by obtain ⟨a,b,c⟩:=hF.pers p hp; exact ⟨a,b,fun k hk=>(c k hk).1⟩)).mono ?_
 rintro e w' ⟨rfl,hc⟩
 exact ⟨(),ρ,trivial,rfl,fun _ _=>rfl,Nat.le_refl _,fun b h1 h2=>absurd h2 (Nat.not_lt_zero b),
    ⟨fun b blk hb=>(by cases hb),fun b c hb=>absurd hb (Nat.not_lt_zero b),fun b hb=>absurd hb (Nat.not_lt_zero b),fun r R hR=>(by cases hR),fun r r' R R' hR=>(by cases hR),fun p hp=>(by cases hp)⟩,
    fun b hb=>absurd hb (Nat.not_lt_zero b),(plainR_wf hv _).1,hc.mono (fun _ h=>h.elim),fun b blk hb=>absurd hb (Nat.not_lt_zero b),fun r R hR=>(by cases hR),fun p hp=>(by cases hp)⟩
section
variable {C : Ctx}
theorem V.have {p : Prop} {c : Cfg} (h : ∀ ρ a w,Sat C ρ c.st a w → p) (k : p → V C c) : V C c:=fun ρ a w hS=>k (h ρ a w hS) ρ a w hS
theorem V.callL {α : Type} {f : FuncId} {ys : List CV} {F : St} {p : α → Prop} {v : α → RV} {F' : α → St} {c : Cfg} (pi : List (Nat × Bool)) (hs rs : List Nat) (hk : CallsK C.P f ys F p v F')
  (hb : entersB C.P f = true) (hc : frameOf c = some (f,ys,fragOf F)) (hh : hsrs c = (hs,rs)) (hpi : getP pi c.st.pers = some (askP C.w0.heap.size C.S pi F.pers))
  (hu : ∀ x,(noKeyDup (F' x).heap && (ngB (v x) && (afterOp c (c.st.bringK hs rs 0 (fun _=>False) (F' x)) ((v x).bring (newHs hs c.st.next (F' x).next) c.st.nr)).isSome)) = true)
  (k : ∀ x,p x → V C (afterD c (c.st.bringK hs rs C.w0.heap.size C.S (F' x)) ((v x).bring (newHs hs c.st.next (F' x).next) c.st.nr))) : V C c:=by
 refine V.callK pi hk hb hc hpi (fun x=>?_) (fun x hx=>?_)
 ·unfold okK; rw [hh]; exact hu x
 ·unfold behindK; rw [hh]; exact k x hx
end
end Go.SX
end
section
namespace Go.SX
open Go
open Go.ChangeMaps (setBlock)
section
variable {C : Ctx} {T TR : List Nat} {L : Nat} {c0 : Cfg} {d : DCfg}
theorem VX.insert (t kt et : TypeId) (kd : TypeDesc) (g r : Nat) (kv xv : CV) (key val : Value) (es : Array MapEntry) (clock : Nat) (hone : (oneX c0 d).map (fun x=>(x.1,x.2.dst)) = some (L,none)) (hc : insOf (atX c0 d) = some (t,g,kv,xv))
  (ht : C.P.underlying t = some (.map kt et)) (hk : C.P.underlying kt = some kd) (hkk : keyKind kd = true) (hr : look d.st.rows r = some (objRow g (.map es clock)))
  (hkv : ∀ ρ,kv.den ρ = key) (hxv : ∀ ρ,xv.den ρ = val) (hf : Instr.findNow kd key es.toList 0 = some none)
  (he : (Region.ready .any (dOps c0) (d.listed.setIfInBounds L true)).isEmpty = true)
  (h : V C ⟨dK c0,d.st.setObj r g (.map (es.push { key:=key,val:=val,born:=clock }) (clock + 1))⟩) : VX C T TR L c0 d:=by
 intro D hD a1 a2 a3 a4 a5 a6 hL hsel aT aTR hlt hrw ρ a w hS hρ hn0 hch hcl hsz
 cases hx : oneX c0 d with
 | none=>rw [hx] at hone; cases hone
 | some p =>
  obtain ⟨i,o⟩:=p
  rw [hx] at hone
  simp only [Option.map_some,Option.some.injEq,Prod.mk.injEq] at hone
  obtain ⟨rfl,hd⟩:=hone
  obtain ⟨hready,⟨n,hfu⟩,ho⟩:=oneX_ok hx
  unfold insOf at hc
  split at hc
  case h_2=>cases hc
  rename_i op hop
  split at hc
  case h_2=>cases hc
  rename_i t' m k' x hins
  split at hc
  case h_2=>cases hc
  rename_i g' kv' xv' hm hk' hx'
  cases hc
  unfold headOp atX at hop
  simp only [hready,ho] at hop
  split at hop
  case h_2=>cases hop
  rename_i hg
  have hop':=Option.some.inj hop
  obtain ⟨e1,_⟩:=ev_sound hS.toP (GcOk.none d.st) hm
  obtain ⟨e2,_⟩:=ev_sound hS.toP (GcOk.none d.st) hk'
  obtain ⟨e3,_⟩:=ev_sound hS.toP (GcOk.none d.st) hx'
  have hrun:=run_mapInsert (P:=C.P) (v:=val) ht hk hkk (hS.obj hr) hf
  have hex : (execOp a.eval o).run C.P w = .ok .skip (setBlock w g (.map (es.push { key:=key,val:=val,born:=clock }) (clock + 1))):=by
   unfold insOp at hins
   unfold execOp
   rw [hop']
   split at hins
   ·cases hins
    simp only [e1,e2,e3,hkv,hxv]
    have : CV.den ρ (.one (.val (.map (some g)))) = .map (some g):=rfl
    rw [this,Sem.run_bind,hrun]
    rfl
   ·cases hins
    simp only [e1,e2,e3,hkv,hxv]
    have : CV.den ρ (.one (.val (.map (some g)))) = .map (some g):=rfl
    rw [this,Sem.run_bind,hrun]
    rfl
   ·cases hins
  rw [hfu]
  refine wpAnyE_all hready (by simp) (fun j hj=>?_)
  have hj' : j = i:=by simpa using hj
  unfold wpOp
  simp only [hj',ho,grd_yes hS hg,if_true]
  refine .inl ?_
  unfold Oper.wp
  rw [hex]
  refine ⟨fun hne=>absurd a4.symm hne,?_⟩
  rw [hd]
  exact wpAnyE_done (by simpa using he) (h ρ a _ (hS.setObj hr _)) n
def storeT1 (P : Program) (T : List Nat) (c0 : Cfg) (d : DCfg) (i : Nat) : Option DCfg :=
 match (dOps c0)[i]? with
 | some o=>match grdOf d.st (dOps c0) o.guard,opStore P d.st none o.op,o.dst,storeBlk d.st none o.op with
  | .yes,some s1,none,some b=>match hasNat T b,Nat.blt b c0.st.next with
   | true,true=>some ⟨d.fuel - 1,d.listed.setIfInBounds i true,s1⟩
   | _,_=>none
  | _,_,_,_=>none
 | none=>none
def storeY (P : Program) (T : List Nat) (c0 : Cfg) (d : DCfg) (i : Nat) : DCfg:=(storeT1 P T c0 d i).getD d
theorem opStore_W {P : Program} {s s1 : St} {gc : Option (Nat × Bool)} {op : Op} (h : opStore P s gc op = some s1) : s1.W = s.W:=by
 unfold opStore at h
 split at h
 case h_2=>cases h
 split at h
 case h_2=>cases h
 split at h
 case h_2=>cases h
 split at h
 case h_2=>cases h
 cases h
 rfl
theorem VX.storeL (rs : List Nat) (hne : rs ≠ []) (hr : Region.ready .any (dOps c0) d.listed = rs) (hf : Nat.blt 0 d.fuel = true) (hall : ∀ m ∈ rs,(storeT1 C.P T c0 d m).isSome = true ∧ VX C T TR L c0 (storeY C.P T c0 d m)) : VX C T TR L c0 d:=by
 intro D hD a1 a2 a3 a4 a5 a6 hL hsel aT aTR hlt hrw ρ a w hS hρ hn0 hch hcl hsz
 obtain ⟨n,hn'⟩ : ∃ n,d.fuel = n + 1:=⟨d.fuel - 1,by have:=blt_lt hf; omega⟩
 have one : ∀ m,m ∈ rs → (storeT1 C.P T c0 d m).isSome = true → VX C T TR L c0 (storeY C.P T c0 d m) →
   wpOp C.P (dOps c0) (Qd C (dK c0)) m (fun a' w'=>(m ≠ D.L → Chg D.TS D.ws w') ∧ wpAnyE C.P (dOps c0) (Qd C (dK c0)) (Chg D.TS D.ws) D.L n (d.listed.setIfInBounds m true) a' w') a w:=by
  intro m hm hs hk
  obtain ⟨d2,hd2⟩:=Option.isSome_iff_exists.1 hs
  have hY : storeY C.P T c0 d m = d2:=by unfold storeY; rw [hd2]; rfl
  rw [hY] at hk
  unfold storeT1 at hd2
  split at hd2
  case h_2=>cases hd2
  rename_i o ho
  split at hd2
  case h_2=>cases hd2
  rename_i s1 b hg hst hdst hblk
  split at hd2
  case h_2=>cases hd2
  rename_i hT hb
  cases hd2
  have hb':=blt_lt hb
  obtain ⟨b',w2,e0,e1,e2,e3,e4,e5⟩:=opStore_sound hS (GcOk.none d.st) o hst
  rw [hblk] at e0
  cases e0
  have hbn : b < D.n0:=by rw [a2]; exact hb'
  have hTS : D.TS (D.ρ0 b):=aT b ((hasNat_mem _ _).1 hT) hb'
  have hc2 : Chg D.TS D.ws w2:=hch.trans e4 (fun i hi=>.inr (by rw [hi,hρ b hbn]; exact hTS))
  have hW:=opStore_W hst
  have hrw2 : D.rows s1:=⟨fun r R hR=>by rw [show s1.rows = d.st.rows from congrArg WF.rows hW]; exact hrw.1 r R hR,by rw [hW]; exact hrw.2⟩
  unfold wpOp
  simp only [ho,grd_yes hS hg,if_true]
  refine .inl ?_
  unfold Oper.wp
  rw [e2]
  have:=hk D hD a1 a2 a3 a4 a5 a6 hL hsel aT aTR hlt hrw2 ρ a w2 e3 hρ (by show D.n0 ≤ s1.next; rw [e5]; exact hn0) hc2 (hcl.set (by rw [hr]; exact hm)) (by simpa using hsz)
  simp only [hn',Nat.add_sub_cancel] at this
  refine ⟨fun _=>hc2,?_⟩
  rw [hdst]
  exact this
 rw [hn']
 exact wpAnyE_all hr hne (fun m hm'=>one m hm' (hall m hm').1 (hall m hm').2)
theorem VX.store (i : Nat) (hr : Region.ready .any (dOps c0) d.listed = [i]) (hf : Nat.blt 0 d.fuel = true) (hi : (storeT1 C.P T c0 d i).isSome = true) (h1 : VX C T TR L c0 (storeY C.P T c0 d i)) : VX C T TR L c0 d :=
 VX.storeL [i] (by simp) hr hf (fun m hm=>by rw [List.mem_singleton.1 hm]; exact ⟨hi,h1⟩)
end
end Go.SX
end
