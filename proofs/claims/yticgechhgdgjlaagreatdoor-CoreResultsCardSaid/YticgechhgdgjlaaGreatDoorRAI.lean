/- A symbolic run of the program that Lean checks, and what the functions of the program come to by it: part 9 of 11. -/
import Derived.Shelf.Strings.OnBuilder
import Derived.Shelf.LaysM
import Derived.Shelf.Strconv.Itoa3
import Derived.Test.YticgechhgdgjlaaGreatDoorProg
import Derived.Test.YticgechhgdgjlaaGreatDoorRows
import Derived.LaidMore
import Derived.Lay
import Derived.Lib.LaidTab
import Derived.Shelf.Vars
import Derived.MakeChecks
import Derived.Shelf.Spec.SlicesInsertGrow
import Derived.Laws.CopyRow
import Derived.Lib.Overlaps
import Derived.Test.YticgechhgdgjlaaGreatDoorRAH
set_option linter.unusedVariables false
set_option linter.unusedSimpArgs false
section
namespace Go.SX
open Go
def GivesA {α : Type} (ρ : Nat → Nat) (p : α → Prop) (v : α → RV) (fs : α → List Row) (w : World) (e : Ending) (w' : World) : Prop :=
 ∃ x,p x ∧ e = .returned ((v x).den ρ) ∧ Chg (fun _=>False) w w' ∧ ∀ R ∈ fs x,R.ok w' ∧ ∀ k,R.uses k → w.heap.size ≤ k ∧ k < w'.heap.size
def CallsA {α : Type} (P : Program) (f : FuncId) (ys : List CV) (F : St) (p : α → Prop) (v : α → RV) (fs : α → List Row) : Prop :=
 ∀ ρ w,FSat ρ F w → Calls P f (ys.map (CV.den ρ)).toArray w (GivesA ρ p v fs w)
theorem CallsA.mk {α : Type} {P : Program} {f : FuncId} {fn : Func} {ys : List CV} {F : St} {p : α → Prop} {v : α → RV} {fs : α → List Row} (wr : Bool) (hf : P.funcs[f]? = some fn) (hb : (fn.body.isSome && (Nat.ble ys.length fn.ntmps && F.rows.isEmpty)) = true) (hw : fixA F ys = some ys)
  (h : ∀ ρ w,V ⟨P,f,GivesA ρ p v fs w,fun _=>False,w,ρ,none⟩ ⟨[.code (bodyOf fn)],stO fn.ntmps ys F wr⟩) : CallsA P f ys F p v fs:=by
 intro ρ w hF
 simp only [Bool.and_eq_true] at hb
 obtain ⟨hb1,hb2,hb3⟩:=hb
 have hr : F.rows = []:=List.isEmpty_iff.1 hb3
 refine Calls.of_V (fun _=>False) ρ ρ ys (stO fn.ntmps ys F wr) hf hb1 hb2 (fun a h1 h2 h3=>?_) (h ρ w)
 refine ⟨h1,?_,?_,?_,hF.inj,hF.lt,h2,Chg.refl _ _,?_,hF.rowsD,hF.pers,fun b hb=>⟨hb,rfl⟩⟩
 ·intro i v hv
  obtain ⟨x,rfl,_,hx⟩:=look_enum _ 0 i v hv
  exact ⟨h3 i x (by simpa using hx),fixA_wf hw x (List.mem_of_getElem? hx)⟩
 ·intro i g pol c x hv
  obtain ⟨y,e,_⟩:=look_enum _ 0 i _ hv
  cases e
 ·intro b blk hb
  obtain ⟨b0,h0,rfl⟩:=look_roH hb
  obtain ⟨k1,k2,k3⟩:=hF.heap b b0 h0
  exact ⟨k1,k2,k3,fun e=>by cases e⟩
 ·intro r R hR
  have hR' : look F.rows r = some R:=hR
  rw [hr] at hR'; cases hR'
theorem CallsA.ro {α : Type} {P : Program} {f : FuncId} {ys : List CV} {F : St} {p : α → Prop} {v : α → RV} {fs : α → List Row} (h : CallsA P f ys F p v fs) : CallsA P f ys { F with heap:=roH F.heap } p v fs:=by
 intro ρ w hS
 refine h ρ w ⟨fun b blk hb=>?_,hS.inj,hS.lt,hS.rows,hS.rowsD,hS.pers⟩
 have:=hS.heap b _ (look_roH2 hb)
 exact this
section
variable {C : Ctx}
theorem V.callNew {α : Type} {f : FuncId} {ys : List CV} {F : St} {p : α → Prop} {v : α → RV} {fs : α → List Row} {c : Cfg} (pi : List (Nat × Bool)) (hk : CallsA C.P f ys F p v fs)
  (hb : entersB C.P f = true) (hc : frameOf c = some (f,ys,fragOf F)) (hpi : getP pi c.st.pers = some (askP C.w0.heap.size C.S pi F.pers))
  (hv : ∀ x,(plainR (v x) && (afterOp c { c.st with pers:=(fs x).map rowP ++ c.st.pers } (v x)).isSome) = true)
  (kr : ∀ x,p x → V C (afterD c { c.st with pers:=(fs x).map rowP ++ c.st.pers } (v x))) : V C c:=by
 unfold frameOf at hc
 split at hc
 case h_2=>cases hc
 rename_i f1 xs hcall
 split at hc
 rename_i hs rs hcan
 split at hc
 case h_2=>cases hc
 rename_i ys1 s' hren hpk
 simp only [Option.some.injEq,Prod.mk.injEq] at hc
 obtain ⟨rfl,rfl,hfr⟩:=hc
 have hargs : ∀ ρ : Nat → Nat,ys1.map (CV.den (fun i=>ρ (hs.getD i 0))) = xs.map (CV.den ρ):=by
  intro ρ
  have hpk2:=hpk
  unfold pickSt at hpk2
  split at hpk2
  case h_2=>cases hpk2
  rename_i sl hpp rows _ _ _ _ hrows
  have hRR : RowsRen rs c.st.W ⟨hs.length,rs.length,rows⟩:=by
   intro r' r R hr hl
   obtain ⟨r2,_,h2,h3⟩:=pickRows_ok hrows r' R hl
   simp only [Nat.sub_zero] at h2
   rw [hr] at h2
   cases h2
   exact h3
  exact (renC_ok (ρ:=ρ) (W:=c.st.W) (W':=⟨hs.length,rs.length,rows⟩) rfl rfl hRR hren).1
 have hcalls : ∀ ρ a w,Sat C ρ c.st a w → Calls C.P f1 (xs.map (CV.den ρ)).toArray w (GivesA (fun i=>ρ (hs.getD i 0)) p v fs w):=fun ρ a w hS=>by
  have:=hk (fun i=>ρ (hs.getD i 0)) w (hS.fragAt hpk hfr pi hpi)
  rw [hargs ρ] at this
  exact this
 refine V.callM hcall (enters hb) (fun ρ a w hS=>⟨_,hcalls ρ a w hS,?_⟩)
 rintro e w' ⟨x,hpx,he,hch,hfs⟩
 have h1:=hv x
 rw [Bool.and_eq_true] at h1
 have hS1:=hS.below hch
 have hS2 : Sat C ρ { c.st with pers:=(fs x).map rowP ++ c.st.pers } a w':=by
  refine ⟨hS1.n,hS1.slots,hS1.grds,hS1.heap,hS1.inj,hS1.lt,hS1.defers,hS1.chg,hS1.rows,hS1.rowsD,fun q hq=>?_,hS1.fix⟩
  rcases List.mem_append.1 hq with hq | hq
  ·obtain ⟨R,hR,rfl⟩:=List.mem_map.1 hq
   obtain ⟨m1,m2⟩:=hfs R hR
   refine ⟨m1,fun w2 hw2=>m1.congr hw2,fun k hk=>⟨(m2 k hk).2,fun b hb e=>?_,fun r Q hQ _ hu=>?_⟩⟩
   ·have:=hS.lt b hb
    have:=(m2 k hk).1
    omega
   ·have:=((hS.rows r Q hQ).2.2 k hu).1
    have:=(m2 k hk).1
    omega
  ·exact hS1.pers q hq
 exact ⟨ρ,v x,{ c.st with pers:=(fs x).map rowP ++ c.st.pers },_,by rw [plainR_den h1.1 ρ (fun i=>ρ (hs.getD i 0))]; exact he,hS2,(plainR_wf h1.1 _).1,(plainR_wf h1.1 c.st.W).2,afterD_some h1.2,kr x hpx⟩
def litR (L : List (List SV)) (q : Option Addr) (cap : Nat) (e : TypeId) (sz : Nat) (own : Bool) : Row:=⟨q,L.length,cap,e,sz,fun i=>L.getD i [],own,none⟩
theorem litR_ok {R : Row} {L : List (List SV)} {w : World} (hR : R.ok w) (hg : (List.range R.n).map R.get = L) (ho : R.obj = none) (own : Bool) (hown : own = true → R.own = true) : (litR L R.s R.cap R.elem R.size own).ok w:=by
 have hn : L.length = R.n:=by rw [← hg]; simp
 have hget : ∀ i,i < R.n → L.getD i [] = R.get i:=fun i hi=>by
  rw [← hg]
  simp [List.getD,hi]
 refine ⟨fun i hi=>?_,fun hp=>?_,fun h1 _=>?_,fun o h=>by cases h⟩
 ·have hi' : i < R.n:=by rw [← hn]; exact hi
  show (L.getD i []).length = R.size ∧ ∀ x ∈ L.getD i [],x.plain
  rw [hget i hi']
  exact hR.len i hi'
 ·obtain ⟨b,off,k1,k2⟩:=hR.addr (by rw [← hn]; exact hp)
  refine ⟨b,off,k1,fun i j x hi hx=>?_⟩
  have hi' : i < R.n:=by rw [← hn]; exact hi
  refine k2 i j x hi' ?_
  rw [← hget i hi']
  exact hx
 ·have hf : (litR L R.s R.cap R.elem R.size own).flat = R.flat:=by
   show (List.range L.length).flatMap (fun i=>(L.getD i []).map SV.den0) = (List.range R.n).flatMap (fun i=>(R.get i).map SV.den0)
   rw [hn,List.flatMap_def,List.flatMap_def]
   congr 1
   exact List.map_congr_left fun i hi=>by rw [hget i (List.mem_range.1 hi)]
  rw [hf]
  have:=hR.own (hown h1) ho
  show w.ownsRow 0 R.elem R.size (.slice R.s L.length R.cap) L.length R.flat
  rw [hn]
  exact this
def rowsAt (rows : List (Nat × Row)) : List (Nat × List (List SV)) → Option (List Row × List (List (List SV)))
 | []=>some ([],[])
 | (r,L) :: l=>match look rows r with
  | some R=>match R.own,R.obj,rowsAt rows l with
   | true,none,some (m,k)=>some (litR L R.s R.cap R.elem R.size false :: m,(List.range R.n).map R.get :: k)
   | _,_,_=>none
  | none=>none
theorem rowsAt_mem {rows : List (Nat × Row)} : ∀ {l : List (Nat × List (List SV))} {m : List Row} {R : Row},rowsAt rows l = some (m,l.map (·.2)) → R ∈ m → ∃ r R0 L,look rows r = some R0 ∧ R0.own = true ∧ R0.obj = none ∧ R = litR L R0.s R0.cap R0.elem R0.size false ∧ (List.range R0.n).map R0.get = L
 | [],m,R,h,hR=>by cases h; exact absurd hR List.not_mem_nil
 | (r,L) :: l,m,R,h,hR=>by
  simp only [rowsAt] at h
  split at h
  ·rename_i R0 hl
   split at h
   ·rename_i m' k ho hob hm
    simp only [Option.some.injEq,Prod.mk.injEq,List.map_cons,List.cons.injEq] at h
    obtain ⟨h1,h2,h3⟩:=h
    subst h1
    rcases List.mem_cons.1 hR with rfl | hR
    ·exact ⟨r,R0,L,hl,ho,hob,rfl,h2⟩
    ·exact rowsAt_mem (l:=l) (by rw [hm,h3]) hR
   ·cases h
  ·cases h
theorem V.retA {α : Type} {P : Program} {f : FuncId} {ρ base : Nat → Nat} {w : World} {p : α → Prop} {v : α → RV} {fs : α → List Row} (x : α) (u : RV) (rs : List (Nat × List (List SV))) {c : Cfg} (hr : resOf P f c.st = some u) (he : isEnd c.todo = true) (hu : pvR u = v x) (hv : plainR (v x) = true)
  (hrs : rowsAt c.st.rows rs = some (fs x,rs.map (·.2))) (hp : p x) : V ⟨P,f,GivesA ρ p v fs w,fun _=>False,w,base,none⟩ c :=
 V.ret u hr he (fun ρ' a w' hS=>⟨x,hp,by
  have h1:=pvR_den u ρ'
  rw [hu] at h1
  rw [← h1,plainR_den hv ρ' ρ],hS.chg,fun R hR=>by
   obtain ⟨r,R0,L,h1,h2,h3,rfl,h4⟩:=rowsAt_mem hrs hR
   obtain ⟨_,k1,k2⟩:=hS.rows r R0 h1
   refine ⟨litR_ok k1 h4 h3 false (fun e=>by cases e),fun k hk=>?_⟩
   have hk' : R0.uses k:=by
    obtain ⟨ad,m1,m2,_⟩:=hk
    exact ⟨ad,m1,m2,.inl h2⟩
   refine ⟨?_,(k2 k hk').1⟩
   rcases (k2 k hk').2.2 h2 with h | h
   ·exact h
   ·exact h.elim⟩)
end
theorem CallsA.toK {α : Type} {P : Program} {f : FuncId} {ys : List CV} {F : St} {p : α → Prop} {v : α → RV} {fs : α → List Row} (h : CallsA P f ys F p v fs) (hr : F.rows = []) (ht : told F.next F.heap = true) (hv : ∀ x,plainR (v x) = true) :
  CallsK P f ys F p v (fun x=>{ F with pers:=(fs x).map rowP }):=by
 intro ρ w hF
 refine (h ρ w hF).mono ?_
 rintro e w' ⟨x,hp,he,hch,hfs⟩
 have hsame : ∀ k,k < w.heap.size → w'.heap[k]? = w.heap[k]?:=fun k hk=>hch.block k hk (fun h=>h.elim)
 have hno : ∀ r R,look F.rows r = some R → False:=fun r R hR=>by rw [hr] at hR; cases hR
 refine ⟨x,ρ,hp,he,fun _ _=>rfl,Nat.le_refl _,fun b h1 h2=>absurd h2 (Nat.not_lt_of_le h1),⟨fun b blk hb=>?_,hF.inj,fun b hb=>Nat.lt_of_lt_of_le (hF.lt b hb) hch.size,fun r R hR=>(hno r R hR).elim,fun r r' R R' hR=>(hno r R hR).elim,fun q hq=>?_⟩,
    fun b hb=>told_ok ht hb,(plainR_wf (hv x) _).1,hch.mono (fun _ h=>h.elim),fun b blk hb h1 h2=>⟨blk,h1,h2⟩,fun r R hR=>(hno r R hR).elim,fun q hq k hk=>?_⟩
 ·obtain ⟨k1,k2,k3⟩:=hF.heap b blk hb
  exact ⟨k1,(hsame _ (hF.lt b k1)).trans k2,k3⟩
 ·obtain ⟨R,hR,rfl⟩:=List.mem_map.1 hq
  obtain ⟨m1,m2⟩:=hfs R hR
  refine ⟨m1,fun w2 hw2=>m1.congr hw2,fun k hk=>⟨(m2 k hk).2,fun b hb e=>?_,fun r Q hQ=>(hno r Q hQ).elim⟩⟩
  have:=hF.lt b hb
  have:=(m2 k hk).1
  omega
 ·obtain ⟨R,hR,rfl⟩:=List.mem_map.1 hq
  exact .inl ((hfs R hR).2 k hk).1
end Go.SX
end
section
namespace Go.Proofs
open Go Go.SX
set_option maxRecDepth 100000
set_option maxHeartbeats 4000000
def oneR (n : Int) (q : Option Addr) (cap : Nat) : Row:=litR [[.int .i64 n]] q cap 3 1 false
theorem calls0 : CallsA Tryz.prog 82 [exP,i64 0] (exE 48) (fun _ : Option Addr × Nat=>True) (fun x=>.v (.one (.val (.slice x.1 1 x.2)))) (fun x=>[oneR 1 x.1 x.2]):=by
 refine CallsA.mk true Tryz.func82 kq kq (fun ρ w=>V.lit ?_)
 refine V.runZ ev0 [] [] 2000 (fun os=>kq) kq kq (fun o0=>?_)
 refine V.absPc [2,3,5,6] [0,1,4,7,8,9,10,11,12,13,14] (fun γ=>kq) (fun γ=>?_)
 refine V.dfQ0 ?_
 refine V.rangeFcE (fun (_ : Unit) h=>h) (fun i n=>True) (ndE yA 7) (encV:=(fun _=>#[(CV.agg (exK yA 7 [] 0)).den fun _=>0])) (fun _ _=>rfl) () [2,5,14,15,16] kpT [(1,false),(2,false)] (itA (γ 2) (γ 3) xA yA 7) [] kq
  kq kq rfl kq trivial kq kq kq (fun _=>kq) (fun _=>kq) (fun i x ρ1 W l r q hi hx=>?_) (fun x0 l0 r0 q0 hx0=>?_)
 ·refine V.lit ?_
  refine V.runZ ev0 [] [] 200 (fun os=>kq) kq kq (fun o1=>?_)
  refine V.begin 1 l (recOf q none) kq rfl kq rfl ?_
  refine V.runZ ev0 [] [] 200 (fun os=>kq) kq kq (fun o2=>?_)
  exact V.roundEnd [2,5,14,15,16] kpT none () kq kq kq kq kq trivial
 refine V.defP 0 r0 [] ((exRows γ).map rowP ++ gl) kq kq ?_
 refine V.lit ?_
 refine V.runZ ev0 [] [] 2000 (fun os=>kq) kq kq (fun o3=>?_)
 refine V.rangeFcE (fun (_ : Unit) h=>h) (fun i n=>True) (fun _=>dumC) (encV:=(fun _=>#[.int .i64 0])) (fun _ _=>rfl) () [2,5,14,15,16] kpT [] (it0 _) (collL [r0]) kq
  kq kq rfl kq trivial kq kq kq (fun _=>kq) (fun _=>kq) (fun i x ρ1 W l r q hi hx=>?_) (fun x1 l1 r1 q1 hx1=>?_)
 ·exact absurd hi (Nat.not_lt_zero _)
 refine V.defP 1 r1 [r0] ((exRows γ).map rowP ++ gl) kq kq ?_
 refine V.lit ?_
 refine V.runZ ev0 [] [] 2000 (fun os=>kq) kq kq (fun o4=>?_)
 refine V.retDs [r1,r0] ((exRows γ).map rowP ++ gl) kq rfl (by rintro e w ⟨x,_,h,_⟩; exact ⟨_,h⟩) kq kq kq ?_
 exact V.retA ((o3 0).1,(o3 0).2) (.v (.one (.row 0 (o3 0).1 1 (o3 0).2))) [(0,[[.int .i64 1]])] kq kq kq kq kq trivial
theorem calls1 : CallsA Tryz.prog 82 [exP,i64 1] (exE 48) (fun _ : Unit=>True) (fun _=>.v (.one nilS)) (fun _=>[]):=by
 refine CallsA.mk true Tryz.func82 kq kq (fun ρ w=>V.lit ?_)
 refine V.runZ ev0 [] [] 2000 (fun os=>kq) kq kq (fun os=>?_)
 refine V.absPc [2,3,5,6] [0,1,4,7,8,9,10,11,12,13,14] (fun γ=>kq) (fun γ=>?_)
 refine V.dfQ0 ?_
 refine V.rangeFcE (fun (_ : Unit) h=>h) (fun i n=>True) (ndE yB 1250) (encV:=(fun _=>#[(CV.agg (exK yB 1250 [] 0)).den fun _=>0])) (fun _ _=>rfl) () [2,5,14,15,16] kpT [(3,false),(4,false)] (itA (γ 5) (γ 6) xB yB 1250) [] kq
  kq kq rfl kq trivial kq kq kq (fun _=>kq) (fun _=>kq) (fun i x ρ1 W l r q hi hx=>?_) (fun x0 l0 r0 q0 hx0=>?_)
 ·refine V.lit ?_
  refine V.runZ ev0 [] [] 200 (fun os=>kq) kq kq (fun os=>?_)
  refine V.begin 1 l (recOf q none) kq rfl kq rfl ?_
  refine V.runZ ev0 [] [] 200 (fun os=>kq) kq kq (fun os=>?_)
  exact V.roundEnd [2,5,14,15,16] kpT none () kq kq kq kq kq trivial
 refine V.defP 0 r0 [] ((exRows γ).map rowP ++ gl) kq kq ?_
 refine V.lit ?_
 refine V.runZ ev0 [] [] 2000 (fun os=>kq) kq kq (fun os=>?_)
 refine V.retDs [r0] ((exRows γ).map rowP ++ gl) kq rfl (by rintro e w ⟨x,_,h,_⟩; exact ⟨_,h⟩) kq kq kq ?_
 exact V.retA () (.v (.one nilS)) [] kq kq kq kq kq trivial
end Go.Proofs
end
section
namespace Go.Proofs
open Go Go.SX
set_option maxRecDepth 100000
set_option maxHeartbeats 4000000
def exRo : St:={ exE 48 with heap:=roH (exE 48).heap }
theorem iv_pl : ∀ x,∀ y ∈ iv x,y.plain:=fun x y hy=>by
 have : y = .int .i64 x:=by simpa [iv] using hy
 subst this; trivial
theorem calls0K : CallsK Tryz.prog 82 [exP,i64 0] exRo (fun _ : Option Addr × Nat=>True) (fun x=>.v (.one (.val (.slice x.1 1 x.2)))) (fun x=>{ exRo with pers:=[oneR 1 x.1 x.2].map rowP }) :=
 CallsA.toK (F:=exRo) calls0.ro rfl kq (fun _=>rfl)
theorem calls1K : CallsK Tryz.prog 82 [exP,i64 1] exRo (fun _ : Unit=>True) (fun _=>.v (.one nilS)) (fun _=>{ exRo with pers:=([] : List Row).map rowP }) :=
 CallsA.toK (F:=exRo) calls1.ro rfl kq (fun _=>rfl)
theorem reached30 : CallsA Tryz.prog 30 [exP] (exE 48) (fun _ : Option Addr × Nat=>True) (fun x=>.tup [.one (.val (.slice x.1 2 x.2)),i64 0]) (fun x=>[litR [[.int .i64 0],[.int .i64 1]] x.1 x.2 3 1 false]):=by
 refine CallsA.mk true Tryz.func30 kq kq (fun ρ w=>V.lit ?_)
 refine V.runZ ev0 [] [21] 200 (fun os=>kq) kq kq (fun os=>?_)
 refine V.callO [(0,false),(1,false),(2,false)] (check21 48 0 chkOk).ro kq kq kq (fun v hv=>⟨?_,?_⟩) (fun ch hc=>by cases hc)
 ·cases hv; kernel_rfl
 ·cases hv
  refine V.runZ ev0 [] [82] 2000 (fun os=>kq) kq kq (fun os=>?_)
  refine V.rowB iv 0 [(0 : Int)] 3 1 10 kq (fun _=>rfl) iv_pl (by decide) (fun g=>kq) (fun g=>?_)
  refine V.lit ?_
  refine V.slotRow 6 0 (rowL iv 0 [(0 : Int)] (some ⟨g,0,none⟩) 1 3 1 true) kq kq kq ?_
  refine V.drawX [] [] 8 kq ?_
  refine @VX.run _ [] [] 8 _ _ ([] : List (Ent Tryz.prog)) [] kq kq trivial ?_
  refine @VX.callK _ [] [] 8 _ _ (Option Addr × Nat) 82 [exP,i64 0] exRo _ _ _ [(0,false),(1,false),(2,false)] calls0K kq kq kq (fun _=>kq) (fun x _=>?_)
  refine @VX.run _ [] [] 8 _ _ ([] : List (Ent Tryz.prog)) [] kq kq trivial ?_
  refine @VX.stop _ [] [] 8 _ _ kq ?_
  refine V.persAs [(0,true)] [rowP (oneR 1 x.1 x.2)] (rowP (oneR 1 x.1 x.2)) kq (fun k hk=>⟨_,List.mem_singleton.2 rfl,hk⟩) (fun w hw=>hw _ (List.mem_singleton.2 rfl)) (rowP_stab _) ?_
  refine V.asRow 28 0 (oneR 1 x.1 x.2) kq kq kq kq ?_
  refine V.runZ ev0 [] [82] 2000 (fun os=>kq) kq kq (fun o1=>?_)
  refine V.drawX [] [] 8 kq ?_
  refine @VX.run _ [] [] 8 _ _ ([] : List (Ent Tryz.prog)) [] kq kq trivial ?_
  refine @VX.callK _ [] [] 8 _ _ Unit 82 [exP,i64 1] exRo _ _ _ [(2,false),(3,false),(4,false)] calls1K kq kq kq (fun _=>kq) (fun _ _=>?_)
  refine @VX.run _ [] [] 8 _ _ ([] : List (Ent Tryz.prog)) [] kq kq trivial ?_
  refine @VX.stop _ [] [] 8 _ _ kq ?_
  refine V.runZ ev0 [] [82] 2000 (fun os=>kq) kq kq (fun o2=>?_)
  exact V.retA ((o1 0).1,(o1 0).2) (.tup [.one (.row 2 (o1 0).1 2 (o1 0).2),i64 0]) [(2,[[.int .i64 0],[.int .i64 1]])] kq kq kq kq kq trivial
end Go.Proofs
end
section
namespace Go.Proofs
open Go.Shelf Go.RowKit Go.Sort Go.Lib
def Tryz.lays156_ren : Go.Shelf.Ren:=⟨fun | 156=>156 | 165=>214 | 166=>215 | 169=>216 | 240=>260 | 241=>261 | 276=>278 | 277=>279 | n=>n,fun | 31=>35 | 9=>9 | 3=>3 | 4=>4 | 0=>0 | 20=>20 | 72=>255 | 76=>258 | 70=>253 | 37=>229 | 75=>257 | 127=>289 | 164=>305 | 5=>5 | 80=>260 | n=>n,fun | n=>n⟩
theorem Tryz.lays156 : Go.Proofs.Lays.n156 Tryz.prog Tryz.lays156_ren:={
  mixed:=kq
  f156:=Tryz.func156.trans (congrArg some kq)
  f165:=Tryz.func214.trans (congrArg some kq)
  f166:=Tryz.func215.trans (congrArg some kq)
  f169:=Tryz.func216.trans (congrArg some kq)
  f240:=Tryz.func260.trans (congrArg some kq)
  f241:=Tryz.func261.trans (congrArg some kq)
  f276:=Tryz.func278.trans (congrArg some kq)
  f277:=Tryz.func279.trans (congrArg some kq)
  t0:=Tryz.underlying0
  a0:=Tryz.isAgg0
  z0:=Tryz.sizeOf0
  v0:=Tryz.zeroValue0
  t3:=Tryz.underlying3
  a3:=Tryz.isAgg3
  z3:=Tryz.sizeOf3
  v3:=Tryz.zeroValue3
  t4:=Tryz.underlying4
  a4:=Tryz.isAgg4
  z4:=Tryz.sizeOf4
  v4:=Tryz.zeroValue4
  t9:=Tryz.underlying9
  a9:=Tryz.isAgg9
  z9:=Tryz.sizeOf9
  v9:=Tryz.zeroValue9
  t20:=Tryz.underlying20
  a20:=Tryz.isAgg20
  z20:=Tryz.sizeOf20
  v20:=Tryz.zeroValue20
  t31:=Tryz.underlying35
  a31:=Tryz.isAgg35
  z31:=Tryz.sizeOf35
  v31:=Tryz.zeroValue35
  t37:=Tryz.underlying229
  a37:=Tryz.isAgg229
  z37:=Tryz.sizeOf229
  v37:=Tryz.zeroValue229
  t70:=Tryz.underlying253
  a70:=Tryz.isAgg253
  z70:=Tryz.sizeOf253
  v70:=Tryz.zeroValue253
  t72:=Tryz.underlying255
  a72:=Tryz.isAgg255
  z72:=Tryz.sizeOf255
  v72:=Tryz.zeroValue255
  t75:=Tryz.underlying257
  a75:=Tryz.isAgg257
  z75:=Tryz.sizeOf257
  v75:=Tryz.zeroValue257
  t76:=Tryz.underlying258
  a76:=Tryz.isAgg258
  z76:=Tryz.sizeOf258
  v76:=Tryz.zeroValue258
  t127:=Tryz.underlying289
  a127:=Tryz.isAgg289
  z127:=Tryz.sizeOf289
  v127:=Tryz.zeroValue289
  t164:=Tryz.underlying305
  a164:=Tryz.isAgg305
  z164:=Tryz.sizeOf305
  v164:=Tryz.zeroValue305 }
theorem Tryz.Builder_Extra_156 : Builder.Extra Tryz.prog Tryz.lays156_ren:={
  sizeBuilder:=kq
  liesBuilder:=kq
  t5:=Tryz.underlying5
  a5:=Tryz.isAgg5
  z5:=Tryz.sizeOf5
  v5:=Tryz.zeroValue5
  infoByte:=kq
  cellsByte:=kq
  sizeByte:=kq
  neB5:=by decide }
theorem Tryz.strings_Join_none (a : Option Addr) (c : Nat) (sep : ByteArray) (w : World) :
    Calls Tryz.prog 156 #[.slice a 0 c,.string sep] w fun e w'=>e = .returned (.string ⟨#[]⟩) ∧ w' = w:=Any.strings_Join_none Tryz.lays156 Tryz.Builder_Extra_156 a c sep w
theorem Tryz.strings_Join (bk o c : Nat) (xs : List ByteArray) (sep : ByteArray) (w : World) (hcells : ∀ (j : Nat) x,xs[j]? = some x → w.cell? ⟨bk,o + j,none⟩ = some (.string x)) (hbk : bk < w.heap.size) (hN : xs.length ≤ 140737488355328) (hcap : xs.length ≤ c) (hlen : (Lib.join (xs.map (·.data.toList)) sep.data.toList).length ≤ 140737488355328) :
    Calls Tryz.prog 156 #[.slice (some ⟨bk,o,none⟩) xs.length c,.string sep] w fun e w'=>e = .returned (.string ⟨(Lib.join (xs.map (·.data.toList)) sep.data.toList).toArray⟩) ∧ Below w.heap.size w w':=Any.strings_Join Tryz.lays156 Tryz.Builder_Extra_156 bk o c xs sep w hcells hbk hN hcap hlen
def Tryz.laysM171_ren : Go.Shelf.Ren:=⟨fun | 171=>195 | 243=>249 | 246=>275 | 283=>299 | 284=>300 | 285=>301 | 286=>302 | 129=>144 | 317=>340 | 318=>341 | 319=>342 | 320=>343 | 337=>368 | 338=>369 | n=>n,fun | 3=>3 | 9=>9 | 2=>2 | 4=>4 | 171=>320 | 0=>0 | 53=>192 | 37=>229 | 5=>5 | 173=>322 | 212=>351 | 51=>190 | 20=>20 | 213=>352 | 46=>132 | 232=>384 | 233=>385 | n=>n,fun | 17=>3 | 18=>7 | 19=>8 | n=>n⟩
theorem Tryz.laysM171 : Go.Proofs.LaysM.n171 Tryz.prog Tryz.laysM171_ren:={
  mixed:=kq
  f129:=Tryz.func144.trans (congrArg some kq)
  f171:=Tryz.func195.trans (congrArg some kq)
  f243:=Tryz.func249.trans (congrArg some kq)
  f246:=Tryz.func275.trans (congrArg some kq)
  f283:=Tryz.func299.trans (congrArg some kq)
  f284:=Tryz.func300.trans (congrArg some kq)
  f285:=Tryz.func301.trans (congrArg some kq)
  f286:=Tryz.func302.trans (congrArg some kq)
  f317:=Tryz.func340.trans (congrArg some kq)
  f318:=Tryz.func341.trans (congrArg some kq)
  f319:=Tryz.func342.trans (congrArg some kq)
  f320:=Tryz.func343.trans (congrArg some kq)
  f337:=Tryz.func368.trans (congrArg some kq)
  f338:=Tryz.func369.trans (congrArg some kq)
  t0:=Tryz.underlying0
  a0:=Tryz.isAgg0
  z0:=Tryz.sizeOf0
  v0:=Tryz.zeroValue0
  t2:=Tryz.underlying2
  a2:=Tryz.isAgg2
  z2:=Tryz.sizeOf2
  v2:=Tryz.zeroValue2
  t3:=Tryz.underlying3
  a3:=Tryz.isAgg3
  z3:=Tryz.sizeOf3
  v3:=Tryz.zeroValue3
  t4:=Tryz.underlying4
  a4:=Tryz.isAgg4
  z4:=Tryz.sizeOf4
  v4:=Tryz.zeroValue4
  t5:=Tryz.underlying5
  a5:=Tryz.isAgg5
  z5:=Tryz.sizeOf5
  v5:=Tryz.zeroValue5
  t9:=Tryz.underlying9
  a9:=Tryz.isAgg9
  z9:=Tryz.sizeOf9
  v9:=Tryz.zeroValue9
  t20:=Tryz.underlying20
  a20:=Tryz.isAgg20
  z20:=Tryz.sizeOf20
  v20:=Tryz.zeroValue20
  t37:=Tryz.underlying229
  a37:=Tryz.isAgg229
  z37:=Tryz.sizeOf229
  v37:=Tryz.zeroValue229
  t46:=Tryz.underlying132
  a46:=Tryz.isAgg132
  z46:=Tryz.sizeOf132
  v46:=Tryz.zeroValue132
  t51:=Tryz.underlying190
  a51:=Tryz.isAgg190
  z51:=Tryz.sizeOf190
  v51:=Tryz.zeroValue190
  t53:=Tryz.underlying192
  a53:=Tryz.isAgg192
  z53:=Tryz.sizeOf192
  v53:=Tryz.zeroValue192
  t171:=Tryz.underlying320
  a171:=Tryz.isAgg320
  z171:=Tryz.sizeOf320
  v171:=Tryz.zeroValue320
  t173:=Tryz.underlying322
  a173:=Tryz.isAgg322
  z173:=Tryz.sizeOf322
  v173:=Tryz.zeroValue322
  t212:=Tryz.underlying351
  a212:=Tryz.isAgg351
  z212:=Tryz.sizeOf351
  v212:=Tryz.zeroValue351
  t213:=Tryz.underlying352
  a213:=Tryz.isAgg352
  z213:=Tryz.sizeOf352
  t232:=Tryz.underlying384
  a232:=Tryz.isAgg384
  z232:=Tryz.sizeOf384
  v232:=Tryz.zeroValue384
  t233:=Tryz.underlying385
  a233:=Tryz.isAgg385
  z233:=Tryz.sizeOf385
  v233:=Tryz.zeroValue385
  g17:=kq
  g18:=kq
  g19:=kq
  i0:=kq
  i2:=kq
  i3:=kq
  i4:=kq
  i5:=kq
  i9:=kq
  i20:=kq
  i37:=kq
  i46:=kq
  i51:=kq
  i53:=kq
  i171:=kq
  i173:=kq
  i212:=kq
  i232:=kq
  i233:=kq
  m17:=kq
  m18:=kq
  m19:=kq }
theorem Tryz.strconv_Itoa (n : Int) (h0 : -9223372036854775808 ≤ n) (h1 : n ≤ 9223372036854775807) (w : World) (htab : Lib.TabIs Tryz.prog w "internal/strconv.uint64pow10" .u64 Lib.pow10Tab) :
    Calls Tryz.prog 195 #[.int .i64 n] w fun e w'=>e = .returned (.string ⟨(Lib.itoa n).toArray⟩) ∧ ∃ k os,w' = grow (w.drewN k) os:=Any.strconv_Itoa Tryz.laysM171 n h0 h1 w htab
end Go.Proofs
end
section
namespace Go.SX
open Go
section
variable {C : Ctx} {T TR : List Nat} {L : Nat} {c0 : Cfg} {d : DCfg}
theorem VX.push1 (R : Row) (get : Nat → List SV) (r : Nat) (xs : List SV) (bytes : Nat)
  (hA : (appX C.P c0 d).map appView = some (r,R,1,xs,bytes)) (hr : hasNat TR r = true) (hlk : look c0.st.rows r = some R) (hb : (R.n + 1) * bytes ≤ 140737488355328) (hgt : ∀ i,i < R.n → get i = R.get i) (hx : get R.n = xs)
  (haf : ∀ q cap,(pushD c0 d r (R.next q 1 cap get)).isSome = true)
  (k : ∀ q cap,VX C T TR L c0 (pushX c0 d r (R.next q 1 cap get))) : VX C T TR L c0 d:=by
 intro D hD a1 a2 a3 a4 a5 a6 hL hsel aT aTR hlt aN hrw
 cases hA' : appX C.P c0 d with
 | none=>rw [hA'] at hA; cases hA
 | some A =>
  rw [hA'] at hA
  simp only [Option.map_some,appView,Option.some.injEq,Prod.mk.injEq] at hA
  obtain ⟨e1,e2,e3,e4,e5⟩:=hA
  have hrow : ∀ q cap,A.R.next q A.m cap get = R.next q 1 cap get:=by
   intro q cap
   rw [e2,e3]
  have hn : A.R.n + A.m = R.n + 1:=by rw [e2,e3]
  unfold appX at hA'
  split at hA'
  case h_2=>cases hA'
  rename_i i o hone
  split at hA'
  case h_2=>cases hA'
  rename_i cl hg hcl
  obtain ⟨hready,⟨n,hf⟩,ho⟩:=oneX_ok hone
  have tail : ∀ q cap,∃ s',(d.st.rowTo r (R.next q 1 cap get)).put o.dst (.v (.one (.row d.st.nr q (R.n + 1) cap))) = some s' ∧
    pushX c0 d r (R.next q 1 cap get) = ⟨n,d.listed.setIfInBounds i true,s'⟩:=by
   intro q cap
   have h1:=haf q cap
   unfold pushX
   unfold pushD at h1 ⊢
   rw [hone] at h1 ⊢
   simp only at h1 ⊢
   split at h1
   ·rename_i s' hs'
    refine ⟨s',hs',?_⟩
    simp only [Option.getD_some,hf,Nat.add_sub_cancel]
   ·cases h1
  refine VD.append i A get hready hf ho hg hcl hA' (by rw [hn,e5]; exact hb) ?_ ?_ (fun k hk=>aTR r ((hasNat_mem _ _).1 hr) _ hlk k (by rw [e2] at hk; exact hk)) (fun q cap=>?_) (fun q cap s' hs'=>?_)
  ·intro i hi
   rw [e2] at hi ⊢
   exact hgt i hi
  ·intro i hi
   rw [e3] at hi
   have : i = 0:=by omega
   subst this
   rw [e4,← hx,e2]
   rfl
  ·obtain ⟨s',hs',_⟩:=tail q cap
   rw [e1,hrow,hn,hs']; rfl
  ·obtain ⟨s2,hs2,hpx⟩:=tail q cap
   rw [e1,hrow,hn,hs2] at hs'
   cases hs'
   have hW:=put_W hs2
   have hrw2 : D.rows (d.st.rowTo r (R.next q 1 cap get)):=by
    refine ⟨fun q' Q hQ=>?_,hrw.2.trans' (rowTo_le _ r _)⟩
    have h1:=hrw.1 q' Q hQ
    rw [a3] at hQ
    obtain ⟨hne,hw⟩:=look_heldOf' hQ
    have hlt' : q' < d.st.nr:=Nat.lt_of_lt_of_le (hlt q' Q hw) (by rw [← a5]; exact hrw.2.nr)
    show look ((d.st.nr,_) :: eraseK r d.st.rows) q' = some Q
    simp only [look]
    have hb' : Nat.beq d.st.nr q' = false:=by
     cases hb : Nat.beq d.st.nr q' with
     | true=>have:=(beq_iff _ _).1 hb; omega
     | false=>rfl
    rw [hb']
    simp only
    rw [look_eraseK_ne (fun e=>hne (by rw [e]; exact (hasNat_mem _ _).1 hr))]
    exact h1
   have hrw3 : D.rows s':=⟨fun r R hR=>by rw [show s'.rows = _ from congrArg WF.rows hW]; exact hrw2.1 r R hR,by rw [hW]; exact hrw2.2⟩
   have:=k q cap
   rw [hpx] at this
   exact this D hD a1 a2 a3 a4 a5 a6 hL hsel aT aTR hlt aN hrw3
end
end Go.SX
end
section
namespace Go.Proofs
open Go Go.SX
set_option maxRecDepth 100000
set_option maxHeartbeats 1000000
theorem chg_grow (w : World) (k : Nat) (os : Array Obj) : Chg (fun _=>False) w (Sort.grow (w.drewN k) os) :=
 ⟨rfl,rfl,rfl,by simp [Sort.grow,World.drewN],fun i hi _=>by simp [Sort.grow,World.drewN,Array.getElem?_append_left hi]⟩
def varP (name : String) (cs : Array Value) : Pers:=⟨fun k=>Tryz.prog.globalNamed name = some k,fun w=>w.var? Tryz.prog name = some cs⟩
theorem varP_stab (name : String) (cs : Array Value) : Stab (varP name cs):=fun w w' hk h=>by
 show w'.var? Tryz.prog name = some cs
 have h' : w.var? Tryz.prog name = some cs:=h
 unfold World.var? at h' ⊢
 cases hg : Tryz.prog.globalNamed name with
 | none=>rw [hg] at h'; cases h'
 | some g =>
  rw [hg] at h'
  simp only [Option.bind_some] at h' ⊢
  rw [hk g hg]; exact h'
def tabP : Pers:=varP "internal/strconv.uint64pow10" (Lib.pow10Tab.map fun z=>Value.int .u64 z).toArray
theorem itoa_calls (n : Int) (h0 : -9223372036854775808 ≤ n) (h1 : n ≤ 9223372036854775807) (w : World) (htab : tabP.φ w) :
  Calls Tryz.prog 195 #[.int .i64 n] w (Gives (.string ⟨(Lib.itoa n).toArray⟩) w):=by
 refine (Tryz.strconv_Itoa n h0 h1 w htab).mono ?_
 rintro e w' ⟨rfl,k,os,rfl⟩
 exact ⟨rfl,chg_grow w k os⟩
def digF : Nat → Nat → List UInt8
 | 0,_=>[]
 | k + 1,u=>match Nat.blt u 10 with
  | true=>[UInt8.ofNat (48 + u)]
  | false=>digF k (u / 10) ++ [UInt8.ofNat (48 + u % 10)]
theorem digF_eq : ∀ (k u : Nat),u < 10 ^ (k + 1) → digF (k + 1) u = Lib.decDigits u
 | k,u,h=>by
  rw [digF,Lib.decDigits]
  by_cases hu : u < 10
  ·rw [show Nat.blt u 10 = true from by rw [Nat.blt_eq]; exact hu,dif_pos hu]
  ·rw [show Nat.blt u 10 = false from by
    cases hb : Nat.blt u 10 with
    | false=>rfl
    | true=>rw [Nat.blt_eq] at hb; exact absurd hb hu,dif_neg hu]
   cases k with
   | zero=>exact absurd (by simpa using h) hu
   | succ k =>
    simp only
    rw [digF_eq k (u / 10) (by rw [Nat.pow_succ] at h; omega)]
def itoF (n : Int) : List UInt8:=match n with
 | .ofNat u=>digF 20 u
 | .negSucc u=>45 :: digF 20 (u + 1)
theorem itoF_eq (n : Int) (h : inK .i64 n) : itoF n = Lib.itoa n:=by
 simp only [inK] at h
 unfold itoF Lib.itoa
 cases n with
 | ofNat u =>
  have hu : u < 10 ^ 20:=by
   have : (u : Int) ≤ 9223372036854775807:=h.2
   have h2 : (10 : Nat) ^ 20 = 100000000000000000000:=by decide
   omega
  simp only
  rw [if_neg (by simp),digF_eq 19 u hu]
  rfl
 | negSucc u =>
  have hu : u + 1 < 10 ^ 20:=by
   have h2 : (10 : Nat) ^ 20 = 100000000000000000000:=by decide
   have:=h.1
   omega
  simp only
  rw [if_pos (by omega),digF_eq 19 (u + 1) hu]
  rfl
def sItoa : Con Tryz.prog where
 f:=195
 need:=[tabP]
 fn:=fun xs=>match xs with
  | [.one (.int .i64 n)]=>some (.v (.one (.str (itoF n))),[inK .i64 n])
  | _=>none
 ok:=by
  intro xs v ob hx hob ρ w hp hl
  split at hx
  case h_2=>cases hx
  rename_i n
  cases hx
  have hn : inK .i64 n:=hob _ (List.mem_singleton.2 rfl)
  have:=itoa_calls n hn.1 hn.2 w (hp tabP (List.mem_singleton.2 rfl)).1
  rw [← itoF_eq n hn] at this
  exact this
end Go.Proofs
end
section
namespace Go.Proofs
open Go Go.SX
set_option maxRecDepth 100000
set_option maxHeartbeats 1000000
abbrev QC:=Option Addr × Nat
def wrR (m : Nat) (get : Nat → List SV) (x : QC) : Row:=⟨x.1,m,x.2,9,1,get,true,none⟩
def wrN (m : Nat) (get : Nat → List SV) (x : QC) : St:={ noF with heap:=[(0,⟨[.row 0 x.1 m x.2],195,true⟩)],next:=1,rows:=[(0,wrR m get x)],nr:=1 }
def wrF (m : Nat) (get : Nat → List SV) (x : QC) : St:={ wrN m get x with pers:=[tabP] }
def nxG (m : Nat) (get : Nat → List SV) (w : List UInt8) (i : Nat) : List SV:=match Nat.blt i m with
 | true=>get i
 | false=>[.str w]
theorem nxG_old {m : Nat} {get : Nat → List SV} {w : List UInt8} {i : Nat} (h : i < m) : nxG m get w i = get i:=by
 unfold nxG
 rw [show Nat.blt i m = true from by rw [Nat.blt_eq]; exact h]
theorem nxG_new {m : Nat} {get : Nat → List SV} {w : List UInt8} : nxG m get w m = [.str w]:=by
 unfold nxG
 rw [show Nat.blt m m = false from by
  cases hb : Nat.blt m m with
  | false=>rfl
  | true=>rw [Nat.blt_eq] at hb; omega]
theorem cNumber (m : Nat) (get : Nat → List SV) (x : QC) (n : Int) (hm : m ≤ 1000000) (hn : inK .i64 n) :
  CallsK Tryz.prog 148 [.one (.ptr 0 0),.one (.int .i64 n)] (wrF m get x) (fun _ : QC=>True) (fun _=>.tup []) (fun y=>wrN (m + 1) (nxG m get (itoF n)) y):=by
 refine CallsK.mk true Tryz.func148 kq kq (fun ρ w=>?_)
 refine V.drawX [] [0] 11 kq ?_
 refine @VX.run _ [] [0] 11 _ _ ([⟨sItoa,[0]⟩] : List (Ent Tryz.prog)) [inK .i64 n] kq kq hn ?_
 refine @VX.push1 _ [] [0] 11 _ _ (wrR m get x) (nxG m get (itoF n)) 0 [.str (itoF n)] 16 kq kq kq (by show (m + 1) * 16 ≤ _; omega) (fun i hi=>nxG_old hi) nxG_new (fun _ _=>kq) (fun q cap=>?_)
 refine @VX.run _ [] [0] 11 _ _ ([] : List (Ent Tryz.prog)) [] kq kq trivial ?_
 refine @VX.stop _ [] [0] 11 _ _ kq ?_
 refine V.runT ([] : List (Ent Tryz.prog)) [] kq kq trivial ?_
 exact V.retK (q,cap) [] kq kq kq trivial
end Go.Proofs
end
section
namespace Go.Proofs
open Go Go.SX
set_option maxRecDepth 100000
set_option maxHeartbeats 2000000
def dg16 : List UInt8:=[48,49,50,51,52,53,54,55,56,57,97,98,99,100,101,102]
def hq (c : UInt8) : Int:=(c.toNat : Int).fdiv (2 ^ (min (4 : Int).toNat IntKind.u8.bits))
def hr (c : UInt8) : Int:=IntKind.u8.wrap ((BitVec.ofInt IntKind.u8.bits (c.toNat : Int) &&& BitVec.ofInt IntKind.u8.bits 15).toNat : Int)
def hd (n : Int) : UInt8:=dg16.getD n.toNat 0
def hexP (s : List UInt8) : List UInt8:=61 :: s.flatMap (fun c=>[hd (hq c),hd (hr c)])
theorem hqr_fin : ∀ i : Fin 256,(0 ≤ hq (UInt8.ofNat i.val) ∧ hq (UInt8.ofNat i.val) < 16) ∧ (0 ≤ hr (UInt8.ofNat i.val) ∧ hr (UInt8.ofNat i.val) < 16):=by decide +kernel
theorem hqr (c : UInt8) : (0 ≤ hq c ∧ hq c < 16) ∧ (0 ≤ hr c ∧ hr c < 16):=by
 have:=hqr_fin ⟨c.toNat,c.toNat_lt⟩
 simpa using this
def hxG (c : UInt8) (j : Nat) : List SV:=(([.int .u8 ((hd (hq c)).toNat : Int),.int .u8 ((hd (hr c)).toNat : Int)] : List SV).drop (j * 1)).take 1
theorem hxG_eq (c : UInt8) (i : Nat) (hi : i < 2) : bsv (([hd (hq c),hd (hr c)] : List UInt8).getD i 0) = hxG c i:=by
 match i,hi with
 | 0,_=>rfl
 | 1,_=>rfl
structure HXI where
 l : List UInt8
 q : Option Addr
 c : Nat
 i : Nat
def txSt (m : Nat) (get : Nat → List SV) (x : QC) (s : List UInt8) (gb gc : Nat) (j : HXI) : St :=
 { n:=36,slots:=[(0,.v (.one (.ptr 0 0))),(4,.v (.one (.row 1 j.q j.l.length j.c))),(9,.v (.one (.row 2 (some ⟨gb,0,none⟩) s.length gc))),(10,.v (.one (.int .i64 (s.length : Int)))),(11,.v (.one (.int .i64 (j.i : Int))))],gs:=[],
    heap:=[(0,⟨[.row 0 x.1 m x.2],195,true⟩)],next:=1,rows:=[(0,wrR m get x),(1,rowL bsv 0 j.l j.q j.c 5 1 true),(2,bytesR s gb gc 5)],nr:=3,pers:=[],wr:=true,fx:=1 }
theorem hex_next {s : List UInt8} {i : Nat} (h : i < s.length) : hexP (s.take (i + 1)) = hexP (s.take i) ++ [hd (hq (s.getD i 0)),hd (hr (s.getD i 0))]:=by
 unfold hexP
 rw [List.take_add_one,List.flatMap_append,List.getElem?_eq_getElem h]
 simp [List.getD,List.getElem?_eq_getElem h]
theorem hex_len2 : ∀ s : List UInt8,(s.flatMap (fun c=>[hd (hq c),hd (hr c)])).length = 2 * s.length
 | []=>rfl
 | c :: s=>by
  rw [List.flatMap_cons,List.length_append,hex_len2 s]
  simp only [List.length_cons,List.length_nil]
  omega
theorem hex_len (s : List UInt8) : (hexP s).length = 2 * s.length + 1:=by
 unfold hexP
 rw [List.length_cons,hex_len2]
def txO (c : UInt8) : List Prop:=[(0 : Int) ≤ 4,0 ≤ hq c ∧ hq c < 16,0 ≤ hr c ∧ hr c < 16]
theorem wrap_n1 {n : Nat} (h : n < 4611686018427387904) : IntKind.i64.wrap ((n : Int) + 1) = ((n + 1 : Nat) : Int):=by
 simp [IntKind.wrap,IntKind.bits,IntKind.signed]
 omega
theorem cText (m : Nat) (get : Nat → List SV) (x : QC) (s : List UInt8) (hm : m ≤ 1000000) (hs : s.length ≤ 1000000) :
  CallsK Tryz.prog 154 [.one (.ptr 0 0),.one (.str s)] (wrF m get x) (fun _ : QC=>True) (fun _=>.tup []) (fun y=>wrN (m + 1) (nxG m get (hexP s)) y):=by
 refine CallsK.mk true Tryz.func154 kq kq (fun ρ w=>?_)
 refine V.q ?_
 refine V.rowB bsv 0 [61] 5 1 1 kq (fun _=>rfl) (fun x y hy=>by simp only [bsv,List.mem_singleton] at hy; subst hy; trivial) (by show 1 ≤ maxLen; decide) (fun g=>kq) (fun g=>?_)
 refine V.slotRow 4 1 (rowL bsv 0 [61] (some ⟨g,0,none⟩) 1 5 1 true) kq kq kq ?_
 refine V.toBytes 5 s kq (fun q cap=>kq) (fun gb gc=>?_)
 refine V.q ?_
 refine V.loopK [0,4,9,10,11] [] (fun j : HXI=>s.length - j.i) (txSt m get x s gb gc) (fun j=>j.i ≤ s.length ∧ j.l = hexP (s.take j.i)) ⟨[61],some ⟨g,0,none⟩,1,0⟩ kq ⟨Nat.zero_le _,rfl⟩ (fun j hj ih=>?_)
 obtain ⟨l,q,c,i⟩:=j
 obtain ⟨hi,hl⟩:=hj
 simp only at hi hl
 have hlen : l.length = 2 * i + 1:=by rw [hl,hex_len,List.length_take,Nat.min_eq_left hi]
 refine V.q ?_
 refine V.branch 12 (decide ((i : Int) < s.length)) kq (fun hb=>?_) (fun hb=>?_)
 ·have hlt : i < s.length:=by simpa using hb
  refine V.runT [] [(0 : Int) ≤ i ∧ (i : Int) < s.length] kq kq ⟨by omega,by omega⟩ ?_
  refine V.drawX [] [1] 10 kq ?_
  refine @VX.run _ [] [1] 10 _ _ ([] : List (Ent Tryz.prog)) (txO (s.getD i 0)) kq kq ⟨by decide,(hqr (s.getD i 0)).1,(hqr (s.getD i 0)).2⟩ ?_
  refine @VX.pushes _ [] [1] 10 _ _ _ bsv 0 l [hd (hq (s.getD i 0)),hd (hr (s.getD i 0))] 1 q c 5 1 2 (hxG (s.getD i 0)) 1 kq rfl kq kq (by rw [hlen]; omega) (hxG_eq (s.getD i 0)) (fun _ _=>kq) (fun q' c'=>?_)
  refine @VX.run _ [] [1] 10 _ _ ([] : List (Ent Tryz.prog)) [] kq kq trivial ?_
  refine @VX.stop _ [] [1] 10 _ _ kq ?_
  refine V.q ?_
  refine V.slotAs 11 (.one (.int .i64 (IntKind.i64.wrap ((i : Int) + 1)))) (.one (.int .i64 ((i + 1 : Nat) : Int))) kq kq (fun _=>by rw [wrap_n1 (by omega)]) ?_
  refine V.againK [0,4,9,10,11] [] (ih ⟨l ++ [hd (hq (s.getD i 0)),hd (hr (s.getD i 0))],q',c',i + 1⟩ ⟨hlt,?_⟩ (by simp only; omega)) kq kq
  simp only
  rw [hl,hex_next hlt]
 ·have hle : i = s.length:=by
   have : ¬ i < s.length:=by simpa using hb
   omega
  rw [hle,List.take_length] at hl
  subst hl
  refine V.q ?_
  refine V.drawX [] [0] 11 kq ?_
  refine @VX.run _ [] [0] 11 _ _ ([] : List (Ent Tryz.prog)) [] kq kq trivial ?_
  refine @VX.bytes _ [] [0] 11 _ _ 1 (rowL bsv 0 (hexP s) q c 5 1 true) (hexP s) kq rfl (fun _ _=>rfl) kq ?_
  refine @VX.run _ [] [0] 11 _ _ ([] : List (Ent Tryz.prog)) [] kq kq trivial ?_
  refine @VX.push1 _ [] [0] 11 _ _ (wrR m get x) (nxG m get (hexP s)) 0 [.str (hexP s)] 16 kq kq kq (by show (m + 1) * 16 ≤ _; omega) (fun i hi=>nxG_old hi) nxG_new (fun _ _=>kq) (fun q cap=>?_)
  refine @VX.run _ [] [0] 11 _ _ ([] : List (Ent Tryz.prog)) [] kq kq trivial ?_
  refine @VX.stop _ [] [0] 11 _ _ kq ?_
  refine V.runT ([] : List (Ent Tryz.prog)) [] kq kq trivial ?_
  exact V.retK (q,cap) [] kq kq kq trivial
end Go.Proofs
end
section
namespace Go.Proofs
open Go Go.SX
set_option maxRecDepth 100000
set_option maxHeartbeats 1000000
def okI64 (n : Int) : Bool:=decide (-9223372036854775808 ≤ n) && decide (n ≤ 9223372036854775807)
def wOf (c : Cfg) : Option (Row × List UInt8 × FuncId × SV) :=
 match frameOf c with
 | some (f,[.one (.ptr 0 0),.one a],([(0,⟨[.row 0 _ _ _],e,true⟩)],1,[(0,R)],1))=>match Nat.beq e 195,R.own,R.obj,Nat.beq R.elem 9,Nat.beq R.size 1,Nat.ble R.n 1000000 with
  | true,true,none,true,true,true=>match Nat.beq f 148,Nat.beq f 154,a with
   | true,_,.int .i64 n=>match okI64 n with
    | true=>some (R,itoF n,f,a)
    | false=>none
   | _,true,.str s=>match Nat.ble s.length 1000000 with
    | true=>some (R,hexP s,f,a)
    | false=>none
   | _,_,_=>none
  | _,_,_,_,_,_=>none
 | _=>none
def stepW (c : Cfg) (y : QC) : Option Cfg :=
 match wOf c with
 | some (R,w,_,_)=>match okK c (wrN (R.n + 1) (nxG R.n R.get w) y) (.tup []) with
  | true=>some (behindK 0 (fun _=>False) c (wrN (R.n + 1) (nxG R.n R.get w) y) (.tup []))
  | false=>none
 | none=>none
theorem behindK_nil {n0 : Nat} {S : Nat → Prop} {c : Cfg} {F : St} {v : RV} (h : F.pers = []) : behindK n0 S c F v = behindK 0 (fun _=>False) c F v:=by
 unfold behindK St.bringK
 rw [h]
 rfl
theorem V.stepW {C : Ctx} {c : Cfg} (i : Nat) (hP : C.P = Tryz.prog) (hi : c.st.pers[i]? = some tabP) (h : ∀ y,∃ c',Go.Proofs.stepW c y = some c' ∧ V C c') : V C c:=by
 obtain ⟨P,Cf,CR,CS,Cw,Cb,Cr⟩:=C
 simp only at hP
 subst hP
 obtain ⟨c0,h0,hv0⟩:=h (none,0)
 clear hv0
 cases hw : wOf c with
 | none=>unfold Go.Proofs.stepW at h0; rw [hw] at h0; cases h0
 | some p =>
  obtain ⟨R,w,f0,a0⟩:=p
  have hst : ∀ y,Go.Proofs.stepW c y = match okK c (wrN (R.n + 1) (nxG R.n R.get w) y) (.tup []) with
    | true=>some (behindK 0 (fun _=>False) c (wrN (R.n + 1) (nxG R.n R.get w) y) (.tup []))
    | false=>none:=fun y=>by
   unfold Go.Proofs.stepW
   rw [hw]
  have hu : ∀ y,okK c (wrN (R.n + 1) (nxG R.n R.get w) y) (.tup []) = true:=fun y=>by
   obtain ⟨c',h1,_⟩:=h y
   rw [hst] at h1
   split at h1
   ·assumption
   ·cases h1
  have hk : ∀ y,V ⟨Tryz.prog,Cf,CR,CS,Cw,Cb,Cr⟩ (behindK Cw.heap.size CS c (wrN (R.n + 1) (nxG R.n R.get w) y) (.tup [])):=fun y=>by
   obtain ⟨c',h1,h2⟩:=h y
   rw [hst,hu y] at h1
   cases h1
   rw [behindK_nil (n0:=Cw.heap.size) (S:=CS) (F:=wrN (R.n + 1) (nxG R.n R.get w) y) rfl]
   exact h2
  clear h hst h0 c0
  unfold wOf at hw
  split at hw
  case h_2=>cases hw
  rename_i f a q1 n1 c1 e R1 hfr
  split at hw
  case h_2=>cases hw
  rename_i he ho hob hel hsz hn
  have hnL:=Nat.le_of_ble_eq_true hn
  have he:=(beq_iff _ _).1 he
  subst he
  intro ρ act wd hS
  -- what stands in the writer is the row
  have hcell : R1.s = q1 ∧ R1.n = n1 ∧ R1.cap = c1:=by
   have hfr2:=hfr
   unfold frameOf at hfr2
   split at hfr2
   case h_2=>cases hfr2
   rename_i f1 xs hcall
   split at hfr2
   rename_i hs rs hcan
   split at hfr2
   case h_2=>cases hfr2
   rename_i ys1 s' hren hpk
   simp only [Option.some.injEq,Prod.mk.injEq,fragOf] at hfr2
   obtain ⟨_,_,g1,g2,g3,g4⟩:=hfr2
   have hF:=(hS.pick hpk).toF
   have hb:=hF.heap 0 ⟨[.row 0 q1 n1 c1],195,true⟩ (by rw [g1]; rfl)
   have hwf:=hb.2.2 (.row 0 q1 n1 c1) (List.mem_singleton.2 rfl)
   exact hwf.2 R1 (by show SX.look s'.rows 0 = some R1; rw [g3]; rfl)
  obtain ⟨rq,rn,rc,re,rs,rg,ro,rob⟩:=R1
  simp only at ho hob hel hsz hnL hcell
  have hel:=(beq_iff _ _).1 hel
  have hsz:=(beq_iff _ _).1 hsz
  obtain ⟨rfl,rfl,rfl⟩:=hcell
  subst ho hob hel hsz
  have hF : ∀ (get : Nat → List SV),fragOf (wrF rn rg (rq,rc)) = ([(0,⟨[.row 0 rq rn rc],195,true⟩)],1,[(0,⟨rq,rn,rc,9,1,rg,true,none⟩)],1):=fun _=>rfl
  split at hw
  ·rename_i n hf1
   split at hw
   case h_2=>cases hw
   rename_i hnn
   cases hw
   simp only [okI64,Bool.and_eq_true,decide_eq_true_eq] at hnn
   have hf:=(beq_iff _ _).1 hf1
   subst hf
   exact V.callK (C:=⟨Tryz.prog,Cf,CR,CS,Cw,Cb,Cr⟩) [(i,false)] (cNumber rn rg (rq,rc) n hnL hnn) kq hfr (by simp only [getP,hi]; rfl) hu (fun y _=>hk y) ρ act wd hS
  ·rename_i s hf2
   split at hw
   case h_2=>cases hw
   rename_i hnn
   cases hw
   have hf:=(beq_iff _ _).1 hf2
   subst hf
   exact V.callK (C:=⟨Tryz.prog,Cf,CR,CS,Cw,Cb,Cr⟩) [(i,false)] (cText rn rg (rq,rc) s hnL (Nat.le_of_ble_eq_true hnn)) kq hfr (by simp only [getP,hi]; rfl) hu (fun y _=>hk y) ρ act wd hS
  ·cases hw
theorem stepW_le {c c' : Cfg} {y : QC} (h : Go.Proofs.stepW c y = some c') : c.st.W.sh c'.st.W ∧ c'.st.pers = c.st.pers:=by
 unfold Go.Proofs.stepW at h
 split at h
 case h_2=>cases h
 rename_i R w f a hw
 split at h
 case h_2=>cases h
 rename_i hok
 cases h
 unfold okK at hok
 simp only [Bool.and_eq_true] at hok
 have haf:=afterD_some hok.2.2
 have h1:=afterOp_rn haf
 have h2:=afterOp_pers haf
 refine ⟨⟨Nat.le_trans (Nat.le_add_right _ _) h1.next,?_,fun r hr Q hQ=>?_⟩,h2⟩
 ·have e:=h1.nr
  show c.st.nr ≤ (behindK 0 (fun _=>False) c (wrN (R.n + 1) (nxG R.n R.get w) y) (.tup [])).st.nr
  unfold behindK
  rw [e]
  exact Nat.le_add_right _ _
 ·have hQ' : SX.look (behindK 0 (fun _=>False) c (wrN (R.n + 1) (nxG R.n R.get w) y) (.tup [])).st.rows r = some Q:=hQ
  unfold behindK at hQ'
  rw [h1.rows] at hQ'
  have hr' : r < c.st.nr:=hr
  have hQ2 : SX.look (bringRows c.st.nr (eraseAll (hsrs c).2 c.st.rows) (wrN (R.n + 1) (nxG R.n R.get w) y).rows) r = some Q:=hQ'
  rw [look_bringRows_old hr'] at hQ2
  exact ⟨Q,(look_eraseAll hQ2).2,rfl,rfl,rfl,rfl⟩
theorem VI.stepW {C : Ctx} (i : Nat) (hP : C.P = Tryz.prog) : ∀ {stk : List (FuncId × Cfg)} {f : FuncId} {c : Cfg},c.st.pers[i]? = some tabP → (∀ y,∃ c',Go.Proofs.stepW c y = some c' ∧ VI C stk f c') → VI C stk f c
 | [],_,_,hi,h=>V.stepW i hP hi h
 | (_,_) :: _,f,c,hi,h=>fun R base hW=>V.stepW (C:=C.inl f R base) i hP hi (fun y=>by
   obtain ⟨c',h1,h2⟩:=h y
   exact ⟨c',h1,h2 R base hW⟩)
end Go.Proofs
end
section
namespace Go.Proofs
open Go Go.SX
def runW (P : Program) (ev : EvT) (ap : Bool) (T : List (Ent P)) (no : List FuncId) (dec : Bool) : Nat → (Nat → Option Addr × Nat) → ICfg → ICfg × List Prop
 | 0,_,i=>(i,[])
 | n + 1,os,i=>match stepI P T no dec i with
  | some (i',[])=>runW P ev ap T no dec n os i'
  | some (i',p :: ob)=>match runW P ev ap T no dec n os i' with
   | (i'',ob')=>(i'',(p :: ob) ++ ob')
  | none=>match stepX P ev i.c with
   | some (c',[])=>runW P ev ap T no dec n os ⟨i.stk,i.f,c'⟩
   | some (c',p :: ob)=>match runW P ev ap T no dec n os ⟨i.stk,i.f,c'⟩ with
    | (i'',ob')=>(i'',(p :: ob) ++ ob')
   | none=>match stepN P i.c with
   | some c'=>runW P ev ap T no dec n os ⟨i.stk,i.f,c'⟩
   | none=>match ap with
    | true=>match wOf i.c with
     | some _=>match Go.Proofs.stepW i.c (os 0) with
      | some c'=>runW P ev ap T no dec n (fun k=>os (k + 1)) ⟨i.stk,i.f,c'⟩
      | none=>(i,[])
     | none=>match SX.stepA P i.c (os 0) with
      | some c'=>runW P ev ap T no dec n (fun k=>os (k + 1)) ⟨i.stk,i.f,c'⟩
      | none=>(i,[])
    | false=>(i,[])
section
variable {C : Ctx}
theorem runW_sound (hP : C.P = Tryz.prog) {ev : EvT} {ap : Bool} (hev : EvOk C.P ev) {T : List (Ent C.P)} (hT : ∃ e ∈ T,tabP ∈ e.sp.need) {no : List FuncId} {dec : Bool} (hF : (C.P.funcs[C.f]?).isSome = true) : ∀ (n : Nat) (i : ICfg),(∀ e ∈ T,∀ q ∈ e.sp.need,q ∈ i.c.st.pers) → fnStk C.P i.stk i.f → leStk i.stk i.c.st.W →
  (∀ os,(∀ p ∈ (runW C.P ev ap T no dec n os i).2,p) ∧ VI C (runW C.P ev ap T no dec n os i).1.stk (runW C.P ev ap T no dec n os i).1.f (runW C.P ev ap T no dec n os i).1.c) → VI C i.stk i.f i.c
 | 0,i,_,_,_,h=>(h (fun _=>(none,0))).2
 | n + 1,i,hn,hS,hl,h=>by
  unfold runW at h
  cases hs : stepI C.P T no dec i with
  | some r =>
   obtain ⟨i',ob⟩:=r
   rw [hs] at h
   cases ob with
   | nil =>
    obtain ⟨k1,k2,k3,k4⟩:=stepI_sound hs (by simp) hn hF hS hl
    exact k4 (runW_sound hP hev hT hF n i' k1 k2 k3 h)
   | cons p ob =>
    have hob : ∀ q ∈ p :: ob,q:=fun q hq=>by
     refine (h (fun _=>(none,0))).1 q ?_
     exact List.mem_append_left _ hq
    obtain ⟨k1,k2,k3,k4⟩:=stepI_sound hs hob hn hF hS hl
    exact k4 (runW_sound hP hev hT hF n i' k1 k2 k3 (fun os=>⟨fun q hq=>(h os).1 q (List.mem_append_right _ hq),(h os).2⟩))
  | none =>
   rw [hs] at h
   cases hX : SX.stepX C.P ev i.c with
   | some r =>
    obtain ⟨c',ob⟩:=r
    rw [hX] at h
    obtain ⟨e1,e2,e3⟩:=stepX_ok hev hX
    have e4 : ∀ f R base,(∀ p ∈ ob,p) → V (C.inl f R base) c' → V (C.inl f R base) i.c:=fun f R base=>(stepX_ok (C:=C.inl f R base) hev hX).2.2
    have hgo : (∀ p ∈ ob,p) → (∀ os,(∀ p ∈ (runW C.P ev ap T no dec n os ⟨i.stk,i.f,c'⟩).2,p) ∧ VI C (runW C.P ev ap T no dec n os ⟨i.stk,i.f,c'⟩).1.stk (runW C.P ev ap T no dec n os ⟨i.stk,i.f,c'⟩).1.f (runW C.P ev ap T no dec n os ⟨i.stk,i.f,c'⟩).1.c) → VI C i.stk i.f i.c:=fun ho hk =>
     VI.lift (e3 ho) (fun f R base=>e4 f R base ho) (runW_sound hP (ap:=ap) (no:=no) (dec:=dec) hev hT hF n ⟨i.stk,i.f,c'⟩ (fun e he q hq=>by rw [e1]; exact hn e he q hq) hS (hl.mono e2.le.sh) hk)
    cases ob with
    | nil=>exact hgo (fun p hp=>absurd hp List.not_mem_nil) h
    | cons p ob=>exact hgo (fun q hq=>(h (fun _=>(none,0))).1 q (List.mem_append_left _ hq)) (fun os=>⟨fun q hq=>(h os).1 q (List.mem_append_right _ hq),(h os).2⟩)
   | none =>
    rw [hX] at h
    cases hN : SX.stepN C.P i.c with
    | some c' =>
     obtain ⟨h1,h2⟩:=stepN_le hN
     refine VI.stepN hN (runW_sound hP (ap:=ap) (no:=no) (dec:=dec) hev hT hF n ⟨i.stk,i.f,c'⟩ (fun e he q hq=>by rw [h2]; exact hn e he q hq) hS (hl.mono h1.sh) (fun os=>?_))
     have:=h os
     simp only [hN] at this
     exact this
    | none =>
    cases ap with
    | false =>
     have:=(h (fun _=>(none,0))).2
     simp only [hN] at this
     exact this
    | true =>
     cases hW : wOf i.c with
     | some pw =>
      obtain ⟨e0,he0,hq0⟩:=hT
      obtain ⟨kk,hkk⟩:=List.mem_iff_getElem?.1 (hn e0 he0 tabP hq0)
      by_cases hall : ∀ x,∃ c',Go.Proofs.stepW i.c x = some c'
      ·refine VI.stepW kk hP hkk (fun x=>?_)
       obtain ⟨c',hc⟩:=hall x
       refine ⟨c',hc,?_⟩
       obtain ⟨h1,h2⟩:=stepW_le hc
       refine runW_sound hP (ap:=true) (no:=no) (dec:=dec) hev ⟨e0,he0,hq0⟩ hF n ⟨i.stk,i.f,c'⟩ (fun e he q hq=>by rw [h2]; exact hn e he q hq) hS (hl.mono h1) (fun os=>?_)
       have:=h (fun k=>match k with | 0=>x | k + 1=>os k)
       simp only [hN,hW,hc] at this
       exact this
      ·have hex : ∃ x,Go.Proofs.stepW i.c x = none:=by
        refine Classical.byContradiction fun hne=>hall (fun x=>?_)
        cases hx : Go.Proofs.stepW i.c x with
        | none=>exact absurd ⟨x,hx⟩ hne
        | some c'=>exact ⟨c',rfl⟩
       obtain ⟨x,hx⟩:=hex
       have:=(h (fun _=>x)).2
       simp only [hx,hN,hW] at this
       exact this
     | none =>
      by_cases hall : ∀ x,∃ c',SX.stepA C.P i.c x = some c'
      ·refine VI.stepA (fun x=>?_)
       obtain ⟨c',hc⟩:=hall x
       refine ⟨c',hc,?_⟩
       obtain ⟨h1,h2⟩:=stepA_le hc
       refine runW_sound hP (ap:=true) (no:=no) (dec:=dec) hev hT hF n ⟨i.stk,i.f,c'⟩ (fun e he q hq=>by rw [h2]; exact hn e he q hq) hS (hl.mono h1.sh) (fun os=>?_)
       have:=h (fun k=>match k with | 0=>x | k + 1=>os k)
       simp only [hN,hW,hc] at this
       exact this
      ·have hex : ∃ x,SX.stepA C.P i.c x = none:=by
        refine Classical.byContradiction fun hne=>hall (fun x=>?_)
        cases hx : SX.stepA C.P i.c x with
        | none=>exact absurd ⟨x,hx⟩ hne
        | some c'=>exact ⟨c',rfl⟩
       obtain ⟨x,hx⟩:=hex
       have:=(h (fun _=>x)).2
       simp only [hx,hN,hW] at this
       exact this
end
theorem V.runW {C : Ctx} (hP : C.P = Tryz.prog) {ev : EvT} (hev : EvOk C.P ev) (T : List (Ent C.P)) (hT : ∃ e ∈ T,tabP ∈ e.sp.need) (no : List FuncId) (n : Nat) {c : Cfg} (hr : ∀ os,nilStk (runW C.P ev true T no true n os ⟨[],C.f,c⟩) = true) (hn : needT T c.st.pers = wantT T) (hF : (C.P.funcs[C.f]?).isSome = true)
  (h : ∀ os,V C (runW C.P ev true T no true n os ⟨[],C.f,c⟩).1.c) : V C c:=by
 have hone : ∀ r : ICfg × List Prop,nilStk r = true → V C r.1.c → r.2 = [] ∧ VI C r.1.stk r.1.f r.1.c:=by
  rintro ⟨⟨stk,g,c⟩,ob⟩ h k
  unfold nilStk at h
  split at h
  case h_2=>cases h
  rename_i g' c' heq
  cases heq
  exact ⟨rfl,k⟩
 exact runW_sound hP hev hT hF n ⟨[],C.f,c⟩ (needT_ok hn) trivial trivial (fun os=>by
  have:=hone _ (hr os) (h os)
  exact ⟨fun p hp=>(by rw [this.1] at hp; exact absurd hp List.not_mem_nil),this.2⟩)
end Go.Proofs
end
section
namespace Go.SX
open Go
theorem V.rowGet {C : Ctx} (r : Nat) (R R' : Row) {c : Cfg} (hr : look c.st.rows r = some R) (he : (R'.s,R'.n,R'.cap,R'.elem,R'.size,R'.own,R'.obj) = (R.s,R.n,R.cap,R.elem,R.size,R.own,R.obj)) (hg : (List.range R.n).map R'.get = (List.range R.n).map R.get)
  (h : V C ⟨c.todo,{ c.st with rows:=upd c.st.rows r R' }⟩) : V C c:=by
 obtain ⟨q',n',k',e',z',g',o',b'⟩:=R'
 obtain ⟨q,n,k,e,z,g,o,b⟩:=R
 simp only [Prod.mk.injEq] at he
 obtain ⟨rfl,rfl,rfl,rfl,rfl,rfl,rfl⟩:=he
 simp only at hg
 have hget : ∀ i,i < n' → g' i = g i:=fun i hi=>by
  have:=congrArg (fun l=>l[i]?) hg
  simpa [hi] using this
 intro ρ a w hS
 have hW : ∀ j R2,look (upd c.st.rows r ⟨q',n',k',e',z',g',o',b'⟩) j = some R2 → ∃ R0,look c.st.rows j = some R0 ∧ R2.s = R0.s ∧ R2.n = R0.n ∧ R2.cap = R0.cap ∧ R2.size = R0.size ∧ R2.own = R0.own ∧ R2.obj = R0.obj ∧ (R0.ok w → R2.ok w):=by
  intro j R2 h2
  rw [look_upd] at h2
  by_cases hj : r = j
  ·rw [if_pos hj] at h2
   cases h2
   subst hj
   refine ⟨_,hr,rfl,rfl,rfl,rfl,rfl,rfl,fun hok=>?_⟩
   refine ⟨fun i hi=>?_,fun hp=>?_,fun ho hno=>?_,hok.obj⟩
   ·have:=hok.len i hi
    simp only at this ⊢
    rw [hget i hi]; exact this
   ·obtain ⟨bk,off,k1,k2⟩:=hok.addr hp
    refine ⟨bk,off,k1,fun i j x hi hx=>k2 i j x hi ?_⟩
    have hx' : (g' i)[j]? = some x:=hx
    rw [hget i hi] at hx'
    exact hx'
   ·have:=hok.own ho hno
    have hf : (⟨q',n',k',e',z',g',o',b'⟩ : Row).flat = (⟨q',n',k',e',z',g,o',b'⟩ : Row).flat:=by
     show (List.range n').flatMap (fun i=>(g' i).map SV.den0) = (List.range n').flatMap (fun i=>(g i).map SV.den0)
     rw [List.flatMap_def,List.flatMap_def]
     congr 1
     exact List.map_congr_left fun i hi=>by rw [hget i (List.mem_range.1 hi)]
    rw [hf]
    exact this
  ·rw [if_neg hj] at h2
   exact ⟨R2,h2,rfl,rfl,rfl,rfl,rfl,rfl,id⟩
 have hu : ∀ {R2 R0 : Row},R2.s = R0.s → R2.n = R0.n → R2.own = R0.own → R2.obj = R0.obj → ∀ k,R2.uses k → R0.uses k:=by
  rintro R2 R0 e1 e2 e3 e4 k ⟨ad,m1,m2,m3⟩
  exact ⟨ad,by rw [← e1]; exact m1,m2,by rw [← e2,← e3,← e4]; exact m3⟩
 have hsh : c.st.W.sh ⟨c.st.next,c.st.nr,upd c.st.rows r ⟨q',n',k',e',z',g',o',b'⟩⟩:=⟨Nat.le_refl _,Nat.le_refl _,fun j _ R2 h2=>by
  obtain ⟨R0,h0,e1,e2,e3,e4,_⟩:=hW j R2 h2
  exact ⟨R0,h0,e1,e2,e3,e4⟩⟩
 refine h ρ a w ⟨hS.n,fun j v hv=>⟨(hS.slots j v hv).1,RV.wf_sh hsh v (hS.slots j v hv).2⟩,hS.grds,fun b blk hb=>?_,hS.inj,hS.lt,hS.defers,hS.chg,fun j R2 h2=>?_,fun j j' R2 R2' h2 h2' hne ho k hk=>?_,fun p hp=>?_,hS.fix⟩
 ·obtain ⟨k1,k2,k3,k4⟩:=hS.heap b blk hb
  exact ⟨k1,k2,fun x hx=>SV.wf_sh hsh x (k3 x hx),k4⟩
 ·obtain ⟨R0,h0,e1,e2,e3,e4,e5,e6,e7⟩:=hW j R2 h2
  obtain ⟨m1,m2,m3⟩:=hS.rows j R0 h0
  exact ⟨m1,e7 m2,fun k hk=>⟨(m3 k (hu e1 e2 e5 e6 k hk)).1,(m3 k (hu e1 e2 e5 e6 k hk)).2.1,fun ho=>(m3 k (hu e1 e2 e5 e6 k hk)).2.2 (by rw [← e5]; exact ho)⟩⟩
 ·obtain ⟨R0,h0,e1,e2,e3,e4,e5,e6,e7⟩:=hW j R2 h2
  obtain ⟨R0',h0',f1,f2,f3,f4,f5,f6,f7⟩:=hW j' R2' h2'
  exact fun hk'=>hS.rowsD j j' R0 R0' h0 h0' hne (by rw [← e5]; exact ho) k (hu e1 e2 e5 e6 k hk) (hu f1 f2 f5 f6 k hk')
 ·obtain ⟨p1,p2,p3⟩:=hS.pers p hp
  refine ⟨p1,p2,fun k hk=>⟨(p3 k hk).1,(p3 k hk).2.1,fun j R2 h2 ho hk2=>?_⟩⟩
  obtain ⟨R0,h0,e1,e2,e3,e4,e5,e6,e7⟩:=hW j R2 h2
  exact (p3 k hk).2.2 j R0 h0 (by rw [← e5]; exact ho) (hu e1 e2 e5 e6 k hk2)
end Go.SX
namespace Go.Proofs
open Go Go.SX
set_option maxRecDepth 100000
set_option maxHeartbeats 1000000
def wdS (l : List UInt8) : List SV:=[.str l]
theorem cJoin (l : List (List UInt8)) (sep : List UInt8) (q : Option Addr) (cap : Nat) (hn : l.length ≤ 140737488355328) (hj : (Lib.join l sep).length ≤ 140737488355328) :
  CallsK Tryz.prog 156 [.one (.row 0 q l.length cap),.one (.str sep)] { n:=0,slots:=[],gs:=[],heap:=[],next:=0,rows:=[(0,rowL wdS [] l q cap 9 1 true)],nr:=1,pers:=[],wr:=false } (fun _ : Unit=>True)
  (fun _=>.v (.one (.str (Lib.join l sep)))) (fun _=>noF):=by
 intro ρ w hS
 obtain ⟨_,hok,huse⟩:=hS.rows 0 _ rfl
 have hend : ∀ w',Chg (fun _=>False) w w' → GivesK ρ { n:=0,slots:=[],gs:=[],heap:=[],next:=0,rows:=[(0,rowL wdS [] l q cap 9 1 true)],nr:=1,pers:=[],wr:=false } (fun _ : Unit=>True) (fun _=>.v (.one (.str (Lib.join l sep)))) (fun _=>noF) w (.returned (.string ⟨(Lib.join l sep).toArray⟩)) w':=fun w' hc =>
  ⟨(),ρ,trivial,rfl,fun _ _=>rfl,Nat.le_refl _,fun b _ h2=>absurd h2 (Nat.not_lt_zero b),⟨fun b blk hb=>(by cases hb),fun b c hb=>absurd hb (Nat.not_lt_zero b),fun b hb=>absurd hb (Nat.not_lt_zero b),fun r R hR=>(by cases hR),fun r r' R R' hR=>(by cases hR),fun p hp=>(by cases hp)⟩,
      fun b hb=>absurd hb (Nat.not_lt_zero b),trivial,⟨hc.os,hc.tape,hc.output,hc.size,fun k hk _=>hc.block k hk id⟩,fun b blk hb=>absurd hb (Nat.not_lt_zero b),fun r R hR=>(by cases hR),fun p hp=>(by cases hp)⟩
 cases l with
 | nil =>
  refine (Tryz.strings_Join_none q cap ⟨sep.toArray⟩ w).mono ?_
  rintro e w' ⟨rfl,rfl⟩
  exact hend _ (Chg.refl _ _)
 | cons x xs =>
  obtain ⟨b,off,hs,hcell⟩:=hok.addr (Nat.zero_lt_succ _)
  have hq : q = some ⟨b,off,none⟩:=hs
  subst hq
  obtain ⟨_,⟨hv,_⟩ | ⟨g,cap',cur,hv,_,hg,hcap,_⟩⟩:=hok.own rfl rfl
  ·cases hv
  ·simp only [rowL] at hv hcap
   injection hv with e1 e2 e3
   cases e1
   subst e3
   have hlt:=(Array.getElem?_eq_some_iff.1 hg).1
   have hmap : ((x :: xs).map fun s=>(⟨s.toArray⟩ : ByteArray)).map (·.data.toList) = x :: xs:=by
    rw [List.map_map]
    exact (List.map_congr_left fun a _=>by simp).trans (List.map_id _)
   have:=Tryz.strings_Join b 0 cap ((x :: xs).map fun s=>(⟨s.toArray⟩ : ByteArray)) ⟨sep.toArray⟩ w (fun j y hy=>by
    rw [List.getElem?_map] at hy
    obtain ⟨z,hz,rfl⟩:=Option.map_eq_some_iff.1 hy
    have hj' : j < (x :: xs).length:=(List.getElem?_eq_some_iff.1 hz).1
    have h3:=hcell j 0 (.str z) hj' (by simp only [rowL,wdS,List.getD,hz]; rfl)
    simpa [rowL,SV.den0,SV.den] using h3) hlt (by simpa using hn) (by simpa using hcap) (by rw [hmap]; exact hj)
   rw [hmap] at this
   simp only [List.length_map] at this
   refine this.mono ?_
   rintro e w' ⟨rfl,hb⟩
   exact hend _ ⟨hb.os,hb.tape,hb.output,hb.size,fun k hk _=>hb.block k hk⟩
end Go.Proofs
end
section
namespace Go.Proofs
open Go Go.SX
set_option maxRecDepth 100000
set_option maxHeartbeats 4000000
def glP : List Pers:=gl ++ [tabP]
def exT : St:={ exE 48 with pers:=glP }
def nxR : List (List UInt8) → Nat → List SV
 | []=>fun i=>wdS (([] : List (List UInt8)).getD i [])
 | w :: l=>nxG l.length (nxR l) w
def wN (l : List Int) : List (List UInt8):=l.map itoF
def wE : List (List UInt8):=[hexP []]
def ws146 : List (List UInt8):=wN [2] ++ [hexP [77,65,73,78]] ++ wN [-1,0,48,0,2,2,0,1,1,0,0,0,0,0,2,15,0,0] ++ wE ++ wN [1,1,2,15,0,0] ++ wE ++ wN [7] ++ wE ++ wN [0,0,0,0,0,0,0,0,0,0,6,0,0,0,1,0,0,0,0,0,0,0] ++
 [hexP [80]] ++ wN [0,0,0,0,1,2,0,1,1,1,0,16,0,0,1,5,2,0] ++ wE ++ wN [1,1,1,5,2,0] ++ wE ++ wN [1250] ++ wE ++ wN [0,0,0,0,0,0,0,0,0,0,0]
def h146 (n : Nat) (y : QC) : List (Nat × Blk):=[(0,⟨[SV.row 0 y.1 n y.2],195,true⟩),(1,{ cells:=[SV.str [77,65,73,78],SV.int IntKind.i64 (-1),SV.int IntKind.i64 0,SV.int IntKind.i64 48,SV.val (Value.slice none 0 0),SV.sli 2 2 2,SV.val (Value.slice none 0 0),SV.str [80],SV.int IntKind.i64 0,SV.int IntKind.i64 0,SV.int IntKind.i64 0,SV.val (Value.slice none 0 0),SV.sli 5 1 1,SV.val (Value.slice none 0 0)],elem:=55,rw:=false }),(2,{ cells:=[SV.int IntKind.i64 2,SV.int IntKind.i64 0,SV.sli 3 1 1,SV.sli 4 1 1,SV.int IntKind.i64 0,SV.int IntKind.i64 0,SV.int IntKind.i64 0,SV.val (Value.slice none 0 0),SV.int IntKind.i64 0,SV.bool false,SV.bool false,SV.int IntKind.i64 6,SV.int IntKind.i64 0,SV.val (Value.slice none 0 0),SV.val (Value.slice none 0 0),SV.int IntKind.i64 1,SV.int IntKind.i64 0,SV.int IntKind.i64 0,SV.val (Value.slice none 0 0),SV.int IntKind.i64 0,SV.bool false,SV.bool false],elem:=59,rw:=false }),(3,{ cells:=[SV.int IntKind.i64 1,SV.int IntKind.i64 0,SV.int IntKind.i64 0,SV.int IntKind.i64 0,SV.val (Value.slice none 0 0),SV.val (Value.slice none 0 0),SV.int IntKind.i64 2,SV.int IntKind.i64 15,SV.int IntKind.i64 0,SV.bool false,SV.str []],elem:=97,rw:=false }),(4,{ cells:=[SV.int IntKind.i64 1,SV.int IntKind.i64 2,SV.int IntKind.i64 15,SV.int IntKind.i64 0,SV.bool false,SV.str [],SV.int IntKind.i64 7,SV.str [],SV.int IntKind.i64 0,SV.val (Value.slice none 0 0),SV.val (Value.slice none 0 0)],elem:=44,rw:=false }),(5,{ cells:=[SV.int IntKind.i64 2,SV.int IntKind.i64 0,SV.sli 6 1 1,SV.sli 7 1 1,SV.int IntKind.i64 0,SV.int IntKind.i64 0,SV.int IntKind.i64 0,SV.val (Value.slice none 0 0),SV.int IntKind.i64 0,SV.bool false,SV.bool false],elem:=59,rw:=false }),(6,{ cells:=[SV.int IntKind.i64 1,SV.int IntKind.i64 1,SV.int IntKind.i64 0,SV.int IntKind.i64 16,SV.val (Value.slice none 0 0),SV.val (Value.slice none 0 0),SV.int IntKind.i64 1,SV.int IntKind.i64 5,SV.int IntKind.i64 2,SV.bool false,SV.str []],elem:=97,rw:=false }),(7,{ cells:=[SV.int IntKind.i64 1,SV.int IntKind.i64 1,SV.int IntKind.i64 5,SV.int IntKind.i64 2,SV.bool false,SV.str [],SV.int IntKind.i64 1250,SV.str [],SV.int IntKind.i64 0,SV.val (Value.slice none 0 0),SV.val (Value.slice none 0 0)],elem:=44,rw:=false })]
def F146 : St:={ noF with heap:=h146 0 (none,0),next:=8,rows:=[(0,rowL wdS [] [] none 0 9 1 true)],nr:=1,pers:=[tabP] }
def G146 (y : QC) : St:={ noF with heap:=h146 92 y,next:=8,rows:=[(0,wrR 92 (nxR ws146.reverse) y)],nr:=1 }
theorem c146 : CallsK Tryz.prog 146 [.one (.ptr 0 0),.one (.sli 1 2 2),.one (.fn 147 [])] F146 (fun _ : QC=>True) (fun _=>.tup []) G146:=by
 refine CallsK.mk true Tryz.func146 kq kq (fun ρ w=>V.lit ?_)
 refine V.runW rfl ev0 [⟨sItoa,[0]⟩] ⟨_,List.mem_singleton.2 rfl,List.mem_singleton.2 rfl⟩ [148,154] 30000 (fun os=>kq) kq kq (fun os=>?_)
 exact V.retK ((os 91).1,(os 91).2) [] kq kq kq trivial
end Go.Proofs
end
section
namespace Go.Proofs.YticgechhgdgjlaaGreatDoor
open Go Go.SX Go.ChangeShapes Go.WideShapes Go.ChangeAt Go.RowKit
set_option maxRecDepth 100000
section
variable {H : Type} {enc : TypeId × Value → H}
theorem returns_wrap {a : Assume} {C : Checked} {os : Os} {f : FuncId} {fn : Func} {s : ChangeSpec} {conds : List PathCond} {apart fresh handsOn again : Bool} {X : World → Array Value → Prop}
  (hX : ∀ (w w' : World) (args : Array Value),w.heap = w'.heap → X w args → X w' args)
  (own : ownKnob C.prog.godebug = none) (started : os.Started) (noInit : C.prog.inits.idxOf? f = none) (hfn : C.prog.funcs[f]? = some fn)
  (witness : ∃ (w : World) (tape : Tape) (i : Input),w.os = os ∧ (w.forCall tape i).Shaped C.prog ∧ i.vars = [] ∧ Input.okWide C.prog (w.forCall tape i) .any w.heap.size f i ∧
   ((s.pre enc C.prog fn conds apart (w.forCall tape i).memory i.args ∧ X (w.forCall tape i).memory i.args) ∧ sizedMet enc C.prog fn (OpenSpec.ofChange s) apart (w.forCall tape i).memory i.args) ∧ a.holds C.prog (lone (Frame.enter C.prog f i.args .normal) [] (w.forCall tape i)))
  (contract : ∀ (W : World) (base : Nat) (args : Array Value) (ds gs : List (DataW H)) (before : List MemPlace),
      (∀ (j : Nat) t v,fn.params[j]? = some t → args[j]? = some v → Value.okWide C.prog W .any base t v) →
   DataW.Whole enc C.prog fn.params.toList s.vars apart W args.toList ds gs before →
   X W args → W.ShapedOpen C.prog →
   Calls C.prog f args W fun e W'=>∃ v,e = .returned v ∧ s.post enc C.prog fn apart fresh handsOn again W args v W') :
  ReturnsInHanded a C os f .any (fun w args=>(s.pre enc C.prog fn conds apart w args ∧ X w args) ∧ sizedMet enc C.prog fn (OpenSpec.ofChange s) apart w args) (s.post enc C.prog fn apart fresh handsOn again):=by
 refine returnsInHanded_of_calls own started noInit witness ?_
 intro w tape i _ hsh _ hok hpre hholds
 obtain ⟨_,_,_,fn',hfn',_,_,_,_,hval⟩:=hok
 have e : fn' = fn:=Option.some.inj (hfn'.symm.trans hfn)
 subst e
 obtain ⟨⟨⟨ds,gs,before,hw,hc⟩,hx⟩,hz⟩:=hpre
 have hw':=DataW.Whole.of_heap (w':=w.forCall tape i) (by rfl) hw
 refine (contract (w.forCall tape i) w.heap.size i.args ds gs before hval hw' (hX _ _ _ (by rfl) hx) hsh).mono fun e W' ⟨v,he,hp⟩=>?_
 subst he
 exact ChangeSpec.post_blind hp
end
noncomputable def laidL : List (String × DataW Unit):=Rows.coreResultsRow.laid
theorem tab_e (nm : String) (g t e n : Nat) (k : IntKind) (zs : List Int) (W : World) (d : DataW Unit) (hd : d = Lib.tabData k zs) (hg : Tryz.prog.globalNamed nm = some g) (hty : (Tryz.prog.globals[g]?).map (·.type) = some t)
  (ht : Tryz.prog.underlying t = some (.array n e)) (he : Tryz.prog.underlying e = some (.int k)) (hce : Tryz.prog.cellsOf e = 1) (hct : Tryz.prog.cellsOf t = n)
  (h : ∃ g t cs fuel p,Tryz.prog.globalNamed nm = some g ∧ (Tryz.prog.globals[g]?).map (·.type) = some t ∧ W.var? Tryz.prog nm = some cs ∧ DataW.trod (fun _=>()) Tryz.prog W 0 (fun _=>true) false fuel t cs.toList = some (d,p)) : Lib.TabIs Tryz.prog W nm k zs:=by
 obtain ⟨g',t',cs,fuel,p,h1,h2,h3,h4⟩:=h
 obtain rfl:=Option.some.inj (hg.symm.trans h1)
 obtain rfl:=Option.some.inj (hty.symm.trans h2)
 subst hd
 unfold Lib.TabIs
 rw [h3,← Lib.cells_of_tab ht he hce hct h4]
theorem laid_at {P : Program} {w : World} : ∀ {l : List (String × DataW Unit)} {ps : List MemPlace},DataW.LaidVars P w l ps → ∀ (n : String) (d : DataW Unit),(n,d) ∈ l →
  ∃ g t cs fuel p,P.globalNamed n = some g ∧ (P.globals[g]?).map (·.type) = some t ∧ w.var? P n = some cs ∧ DataW.trod (fun _=>()) P w 0 (fun _=>true) false fuel t cs.toList = some (d,p)
 | [],_,_,n,d,h=>by cases h
 | (m,e) :: l,_,⟨g,t,cs,fuel,p,q,h1,h2,h3,h4,h5,_⟩,n,d,h=>by
  rcases List.mem_cons.1 h with e1 | h
  ·obtain ⟨rfl,rfl⟩:=Prod.mk.inj e1
   exact ⟨g,t,cs,fuel,p,h1,h2,h3,h4⟩
  ·exact laid_at h5 n d h
theorem chunks {α : Type} (n m : Nat) (cs : List α) (h : cs.length = n * m) : cs = (List.range n).flatMap (fun i=>(cs.drop (i * m)).take m):=by
 have key : ∀ k,k ≤ n → (List.range k).flatMap (fun i=>(cs.drop (i * m)).take m) = cs.take (k * m):=by
  intro k
  induction k with
  | zero=>intro _; simp
  | succ k ih =>
   intro hk
   rw [List.range_succ,List.flatMap_append,List.flatMap_singleton,ih (by omega),Nat.succ_mul,List.take_add]
 rw [key n (Nat.le_refl n),← h,List.take_length]
section
variable {H : Type} {enc : TypeId × Value → H} {w : World} {base : Nat} {sp : Nat → Bool} {held : Bool}
theorem seg_ints {e : TypeId} {fs : Array Field} {m fuel : Nat} {cs : List Value} {zs : List Int} {p : List MemPlace} (he : Tryz.prog.underlying e = some (.struct fs)) (hce : Tryz.prog.cellsOf e = m) (hsz : fs.size = m)
  (hfs : ∀ (i : Nat) (f : Field),fs[i]? = some f → f.offset = i ∧ Tryz.prog.underlying f.type = some (.int .i8) ∧ Tryz.prog.cellsOf f.type = 1)
  (h : DataW.trod enc Tryz.prog w base sp held fuel e cs = some (.agg (zs.map fun z=>.lit (.int .i8 z)),p)) : cs = zs.map (Value.int .i8):=by
 obtain ⟨xs,n,_,hx,hl,hxl,hf⟩:=DataW.trod_struct he h
 have hxs : xs.map (·.1) = zs.map fun z=>(DataW.lit (.int .i8 z) : DataW H):=by
  have:=congrArg Prod.fst hx
  simpa using this.symm
 have hzl : zs.length = m:=by
  have:=congrArg List.length hxs
  simp at this
  omega
 apply List.ext_getElem?
 intro i
 by_cases hi : i < m
 ·have hfi : fs[i]? = some (fs[i]'(by omega)):=Array.getElem?_eq_getElem (by omega)
  obtain ⟨o1,o2,o3⟩:=hfs i _ hfi
  have h1:=hf i _ hfi
  have hxi : i < xs.length:=by omega
  rw [o1,o3,List.getElem?_eq_getElem hxi] at h1
  obtain ⟨z,hc,hz,_⟩:=DataW.trod_int o2 h1
  have h2 : cs[i]? = some (.int .i8 z):=by
   have:=congrArg (·[0]?) hc
   simpa [List.getElem?_take,List.getElem?_drop] using this
  have h3 : (xs.map (·.1))[i]? = some (DataW.lit (.int .i8 z) : DataW H):=by
   rw [List.getElem?_map,List.getElem?_eq_getElem hxi,hz]
   rfl
  rw [hxs] at h3
  simp only [List.getElem?_map,Option.map_eq_some_iff,DataW.lit.injEq,Lit.int.injEq,true_and] at h3
  obtain ⟨z',hz',rfl⟩:=h3
  simp [h2,hz']
 ·rw [List.getElem?_eq_none (by omega),List.getElem?_eq_none (by simp; omega)]
theorem arr_ints {t e : TypeId} {n m fuel : Nat} {cs : List Value} {L : List (List Int)} {p : List MemPlace} (ht : Tryz.prog.underlying t = some (.array n e)) (hce : Tryz.prog.cellsOf e = m) (hct : Tryz.prog.cellsOf t = n * m)
  (hsg : ∀ {fuel : Nat} {cs : List Value} {zs : List Int} {p : List MemPlace},DataW.trod enc Tryz.prog w base sp held fuel e cs = some (.agg (zs.map fun z=>.lit (.int .i8 z)),p) → cs = zs.map (Value.int .i8))
  (h : DataW.trod enc Tryz.prog w base sp held fuel t cs = some (.agg (L.map fun zs=>.agg (zs.map fun z=>.lit (.int .i8 z))),p)) : cs = L.flatMap (·.map (Value.int .i8)):=by
 obtain ⟨xs,n',_,hx,hl,hxl,hf⟩:=DataW.trod_array ht h
 have hxs : xs.map (·.1) = L.map fun zs=>(DataW.agg (zs.map fun z=>.lit (.int .i8 z)) : DataW H):=by
  have:=congrArg Prod.fst hx
  simpa using this.symm
 have hLl : L.length = n:=by
  have:=congrArg List.length hxs
  simp at this
  omega
 have hseg : ∀ i,i < n → (cs.drop (i * m)).take m = (L.getD i []).map (Value.int .i8):=fun i hi=>by
  have h1:=hf i hi
  have hxi : i < xs.length:=by omega
  rw [hce,List.getElem?_eq_getElem hxi] at h1
  have h3 : (xs.map (·.1))[i]? = some xs[i].1:=by rw [List.getElem?_map,List.getElem?_eq_getElem hxi]; rfl
  rw [hxs,List.getElem?_map,List.getElem?_eq_getElem (by omega : i < L.length)] at h3
  have h4 : xs[i].1 = DataW.agg ((L.getD i []).map fun z=>.lit (.int .i8 z)):=by
   have h5 : L.getD i [] = L[i]'(by omega):=by simp [List.getD,List.getElem?_eq_getElem (by omega : i < L.length)]
   rw [h5]
   exact (Option.some.inj h3).symm
  refine hsg (fuel:=n') (p:=xs[i].2) ?_
  rw [← h4]
  exact h1
 rw [chunks n m cs (by rw [hl,hct])]
 have e1 : ∀ k,k ≤ n → (List.range k).flatMap (fun i=>(cs.drop (i * m)).take m) = (L.take k).flatMap (·.map (Value.int .i8)):=by
  intro k
  induction k with
  | zero=>intro _; simp
  | succ k ih =>
   intro hk
   rw [List.range_succ,List.flatMap_append,List.flatMap_singleton,ih (by omega),hseg k (by omega),List.take_add_one,List.flatMap_append]
   congr 1
   rw [List.getElem?_eq_getElem (by omega : k < L.length)]
   simp [List.getD,List.getElem?_eq_getElem (by omega : k < L.length)]
 rw [e1 n (Nat.le_refl n),← hLl,List.take_length]
end
theorem row_of_var {α : Type} {f : α → List SV} {d : α} {l : List α} {g : Nat} {e : TypeId} {sz : Nat} {nm : String} {W : World} (hg : Tryz.prog.globalNamed nm = some g) (hf : ∀ x,(f x).length = sz) (hpl : ∀ x,∀ y ∈ f x,y.plain)
  (h : W.var? Tryz.prog nm = some ((l.flatMap f).map SV.den0).toArray) : LastP (rowP (rowL f d l (some ⟨g,0,none⟩) l.length e sz false)) W:=by
 unfold World.var? at h
 rw [hg] at h
 simp only [Option.bind_some] at h
 split at h
 case h_2=>cases h
 rename_i cs e' o' hh
 cases h
 refine ⟨⟨fun i hi=>⟨hf _,hpl _⟩,fun hp=>⟨g,0,rfl,fun i j x hi hx=>?_⟩,(fun h _=>by cases h),(fun o ho=>by cases ho)⟩,?_⟩
 ·have hi' : i < l.length:=hi
  have hj : j < sz:=by rw [← hf (l.getD i d)]; exact (List.getElem?_eq_some_iff.1 hx).1
  unfold World.cell?
  rw [hh]
  simp only [Option.isSome_none,Bool.false_eq_true,if_false,Nat.zero_add]
  have e1 : (l.flatMap f)[i * sz + j]? = (f (l.getD i d))[j]?:=flat_at hf d hi' hj
  show ((l.flatMap f).map SV.den0).toArray[i * sz + j]? = _
  have hx2 : (f (l.getD i d))[j]? = some x:=hx
  rw [List.getElem?_toArray,List.getElem?_map,e1,hx2]
  rfl
 ·rintro k ⟨a,ha,rfl,_⟩
  cases ha
  exact (Array.getElem?_eq_some_iff.1 hh).1
noncomputable def fsN (t : TypeId) : Array Field:=match Tryz.prog.underlying t with
 | some (.struct fs)=>fs
 | _=>#[]
theorem i8_fields (e m : Nat) (hu : Tryz.prog.underlying e = some (.struct (fsN e))) (h : ((List.range m).all fun i=>match (fsN e)[i]? with
  | some f=>Nat.beq f.offset i && (match Tryz.prog.underlying f.type with
   | some (.int .i8)=>true
   | _=>false) && Nat.beq (Tryz.prog.cellsOf f.type) 1
  | none=>false) = true) (hs : (fsN e).size = m) : ∀ (i : Nat) (f : Field),(fsN e)[i]? = some f → f.offset = i ∧ Tryz.prog.underlying f.type = some (.int .i8) ∧ Tryz.prog.cellsOf f.type = 1:=by
 intro i f hf
 have hi : i < m:=by rw [← hs]; exact (Array.getElem?_eq_some_iff.1 hf).1
 have:=List.all_eq_true.1 h i (List.mem_range.2 hi)
 rw [hf] at this
 simp only [Bool.and_eq_true] at this
 obtain ⟨⟨h1,h2⟩,h3⟩:=this
 refine ⟨Nat.eq_of_beq_eq_true h1,?_,Nat.eq_of_beq_eq_true h3⟩
 split at h2
 ·assumption
 ·cases h2
theorem arr_e {α : Type} (nm : String) (g t e n m : Nat) (f : α → List SV) (d : α) (l : List α) (zs : α → List Int) (W : World) (D : DataW Unit) (hD : D = .agg (l.map fun x=>.agg ((zs x).map fun z=>.lit (.int .i8 z)))) (hz : ∀ x,(f x).map SV.den0 = (zs x).map (Value.int .i8))
  (hg : Tryz.prog.globalNamed nm = some g) (hty : (Tryz.prog.globals[g]?).map (·.type) = some t)
  (ht : Tryz.prog.underlying t = some (.array n e)) (hce : Tryz.prog.cellsOf e = m) (hct : Tryz.prog.cellsOf t = n * m)
  (hsg : ∀ {fuel : Nat} {cs : List Value} {zs : List Int} {p : List MemPlace},DataW.trod (fun _=>()) Tryz.prog W 0 (fun _=>true) false fuel e cs = some ((.agg (zs.map fun z=>.lit (.int .i8 z)) : DataW Unit),p) → cs = zs.map (Value.int .i8)) (hf : ∀ x,(f x).length = m) (hpl : ∀ x,∀ y ∈ f x,y.plain)
  (h : ∃ g t cs fuel p,Tryz.prog.globalNamed nm = some g ∧ (Tryz.prog.globals[g]?).map (·.type) = some t ∧ W.var? Tryz.prog nm = some cs ∧ DataW.trod (fun _=>()) Tryz.prog W 0 (fun _=>true) false fuel t cs.toList = some (D,p)) :
  LastP (rowP (rowL f d l (some ⟨g,0,none⟩) l.length e m false)) W:=by
 obtain ⟨g',t',cs,fuel,p,h1,h2,h3,h4⟩:=h
 obtain rfl:=Option.some.inj (hg.symm.trans h1)
 obtain rfl:=Option.some.inj (hty.symm.trans h2)
 subst hD
 refine row_of_var hg hf hpl ?_
 rw [h3]
 have h5 : DataW.trod (fun _=>()) Tryz.prog W 0 (fun _=>true) false fuel t cs.toList = some (.agg ((l.map zs).map fun zs=>.agg (zs.map fun z=>.lit (.int .i8 z))),p):=by
  rw [h4,List.map_map]
  rfl
 have h6:=arr_ints ht hce hct hsg h5
 have h7 : cs.toList = (l.flatMap f).map SV.den0:=by
  rw [h6,List.map_flatMap,List.flatMap_map]
  exact congrArg (fun g=>l.flatMap g) (funext fun x=>(hz x).symm)
 rw [← h7]
theorem plain_all (l : List SV) (h : l.all (fun x=>match x with | .int _ _=>true | _=>false) = true) : ∀ y ∈ l,y.plain:=by
 intro y hy
 have:=List.all_eq_true.1 h y hy
 split at this
 ·trivial
 ·cases this
theorem glb_of_laid {W : World} (h : laidMetH Tryz.prog laidL W) : ∀ p ∈ glP,LastP p W ∧ Stab p:=by
 rw [MakeChecks.laidMetH_plain _ _ _ kq] at h
 obtain ⟨ps,hL,_,_⟩:=h
 intro p hp
 have e : glP = [rowP puR,rowP shR,rowP opR,tabP]:=rfl
 rw [e] at hp
 simp only [List.mem_cons,List.not_mem_nil,or_false] at hp
 rcases hp with rfl | rfl | rfl | rfl
 ·refine ⟨row_of_var (nm:="pliant/picture.punched") kq (fun _=>rfl) (fun x y hy=>by rw [List.mem_singleton.1 hy]; trivial) ?_,rowP_stab _⟩
  have:=tab_e "pliant/picture.punched" 4 360 5 20 .u8 (puL.map fun c=>(c.toNat : Int)) W _ kq kq kq kq kq kq kq (laid_at hL _ Rows.laid_pliant_picture_punched (List.mem_of_getElem? (i:=6) kq))
  unfold Lib.TabIs at this
  rw [this]
  rfl
 ·exact ⟨arr_e "pliant/core.shapes" 1 232 231 23 5 shC ⟨0,0,0,0,0⟩ shL (fun x=>[x.a,x.b,x.c,x.d,x.u]) W _ kq (fun _=>rfl) kq kq kq kq kq (fun h=>seg_ints (fs:=fsN 231) (m:=5) kq kq kq (i8_fields 231 5 kq kq kq) h) (fun _=>rfl) (fun x=>plain_all _ rfl) (laid_at hL _ Rows.laid_pliant_core_shapes (List.mem_of_getElem? (i:=8) kq)),rowP_stab _⟩
 ·exact ⟨arr_e "pliant/core.operands" 0 141 140 32 2 opC (0,0) opL (fun x=>[x.1,x.2]) W _ kq (fun _=>rfl) kq kq kq kq kq (fun h=>Lib.cells_of_tab (t:=140) (e:=139) (n:=2) kq kq kq kq h) (fun _=>rfl) (fun x=>plain_all _ rfl) (laid_at hL _ Rows.laid_pliant_core_operands (List.mem_of_getElem? (i:=7) kq)),rowP_stab _⟩
 ·have:=tab_e "internal/strconv.uint64pow10" 3 351 192 20 .u64 Lib.pow10Tab W _ kq kq kq kq kq kq kq (laid_at hL _ Rows.laid_internal_strconv_uint64pow10 (List.mem_of_getElem? (i:=2) kq))
  unfold Lib.TabIs at this
  refine ⟨⟨this,fun k hk=>?_⟩,varP_stab _ _⟩
  have h3 : W.var? Tryz.prog "internal/strconv.uint64pow10" = some _:=this
  have hk' : Tryz.prog.globalNamed "internal/strconv.uint64pow10" = some k:=hk
  unfold World.var? at h3
  rw [hk'] at h3
  simp only [Option.bind_some] at h3
  split at h3
  case h_2=>cases h3
  rename_i hh
  exact (Array.getElem?_eq_some_iff.1 hh).1
end Go.Proofs.YticgechhgdgjlaaGreatDoor
end
section
set_option linter.unusedSimpArgs false
namespace Go.Proofs
open Go Go.RowKit Go.Lib
theorem run_copy_k {P : Program} (w : World) (dT sT ty elem : TypeId) (k g o dLen dCap : Nat) (a : Addr) (sLen sCap : Nat) (cur : Array Value) (t : TypeId) (cs : List Value)
  (hu : P.underlying dT = some (.slice elem)) (hs : (P.info? elem).map (·.size) = some k)
  (hg : w.heap[g]? = some (.cells cur t (0,0))) (hn : cs.length = Nat.min sLen dLen * k)
  (hsrc : ∀ j v,cs[j]? = some v → w.cell? (a.add j) = some v) (hfit : o + cs.length ≤ cur.size) (h1 : ∀ v ∈ cs,v.oneCell' = true) :
  (Builtin.copy_ #[dT,sT] ty #[.slice (some ⟨g,o,none⟩) dLen dCap,.slice (some a) sLen sCap]).run P w =
   .ok (goInt (Nat.min sLen dLen)) (w.setRow g (cur.toList.take o ++ cs ++ cur.toList.drop (o + cs.length)).toArray):=by
 have hl:=run_loadCells_list (P:=P) w a cs hsrc
 have hst:=run_storeCells_at P g o t cs 0 cur w hg (by simpa using hfit) h1
 cases hq : P.info? elem with
 | none=>simp [hq] at hs
 | some i =>
  have hi : i.size = k:=by simpa [hq] using hs
  simp [Builtin.copy_,run_underlying hu,Builtin.lenOf,Builtin.firstCells,sizeOf,typeInfo,hq,hi,← hn,hl,hst]
set_option maxHeartbeats 4000000 in
set_option maxRecDepth 100000 in
theorem insShift (b vb c vc : Nat) (cur vs : Array Value) (w : World) (hc : 3 ≤ c) (hc63 : c ≤ 9223372036854775807) (hvb : vb ≠ b) (hb : w.heap[b]? = some (.cells cur 59 (0,0))) (hcur : cur.size = c * 11)
  (hv : w.heap[vb]? = some (.cells vs 59 (0,0))) (hvs : vs.size = 11) (h1 : ∀ v ∈ (cur.toList.drop 11).take 11,v.oneCell' = true) (h1v : ∀ v ∈ vs.toList,v.oneCell' = true) :
  Calls Tryz.prog 65 #[.slice (some ⟨b,0,none⟩) 2 c,.int .i64 1,.slice (some ⟨vb,0,none⟩) 1 vc] w fun e w' =>
   e = .returned (.slice (some ⟨b,0,none⟩) 3 c) ∧ w' = (w.drew.setRow b (cur.toList.take 22 ++ (cur.toList.drop 11).take 11 ++ cur.toList.drop 33).toArray).setRow b
    ((cur.toList.take 22 ++ (cur.toList.drop 11).take 11 ++ cur.toList.drop 33).take 11 ++ vs.toList ++ (cur.toList.take 22 ++ (cur.toList.drop 11).take 11 ++ cur.toList.drop 33).drop 22).toArray:=by
 have hov : ∀ lb cb,(callFunc 117 #[.slice (some ⟨vb,0,none⟩) 1 vc,.slice (some ⟨b,22,none⟩) lb cb]).run Tryz.prog w = .ok (.value (.bool false)) w:=fun lb cb=>by
  rw [run_callFunc_extern Tryz.func117 kq kq kq (e:=Extern.SlicesOverlaps.overlaps #[53,53] #[4]) kq,
      Lib.run_overlaps_apart w 53 4 59 kq 11 (fun w=>kq) ⟨vb,0,none⟩ ⟨b,22,none⟩ 1 vc lb cb hvb 59 59 11 (c * 11) (by simp [World.shape?,hv,hvs]) (by simp [World.shape?,hb,hcur]) (by omega) (by simp [World.frozen?,hv]) (by simp [World.frozen?,hv])]
  rfl
 have hsz : (Tryz.prog.info? 59).map (·.size) = some 11:=kq
 have hl1 : ((cur.toList.drop 11).take 11).length = 11:=by simp [hcur]; omega
 have hcp1 : ∀ ty dc sc,(Builtin.copy_ #[53,53] ty #[.slice (some ⟨b,22,none⟩) 1 dc,.slice (some ⟨b,11,none⟩) 2 sc]).run Tryz.prog w.drew =
   .ok (goInt 1) (w.drew.setRow b (cur.toList.take 22 ++ (cur.toList.drop 11).take 11 ++ cur.toList.drop 33).toArray):=fun ty dc sc=>by
  have h:=run_copy_k (P:=Tryz.prog) w.drew 53 53 ty 59 11 b 22 1 dc ⟨b,11,none⟩ 2 sc cur 59 ((cur.toList.drop 11).take 11) kq hsz hb (by rw [hl1]; rfl) (fun j v hj=>by
   rw [Addr.add_lit]
   have hj' : j < 11:=by have:=(List.getElem?_eq_some_iff.1 hj).1; omega
   rw [List.getElem?_take,if_pos hj',List.getElem?_drop] at hj
   show w.cell? ⟨b,11 + j,none⟩ = some v
   simp only [World.cell?,hb]
   rw [← Array.getElem?_toList]
   exact hj) (by rw [hl1]; omega) h1
  rw [hl1] at h
  exact h
 obtain ⟨C1,hC1⟩ : ∃ C1,C1 = (cur.toList.take 22 ++ (cur.toList.drop 11).take 11 ++ cur.toList.drop 33):=⟨_,rfl⟩
 rw [← hC1] at hcp1 ⊢
 have hC1l : C1.length = c * 11:=by rw [hC1]; simp [hcur]; omega
 have hcp2 : ∀ ty dc,(Builtin.copy_ #[53,53] ty #[.slice (some ⟨b,11,none⟩) 2 dc,.slice (some ⟨vb,0,none⟩) 1 vc]).run Tryz.prog (w.drew.setRow b C1.toArray) =
   .ok (goInt 1) ((w.drew.setRow b C1.toArray).setRow b (C1.take 11 ++ vs.toList ++ C1.drop 22).toArray):=fun ty dc=>by
  have h:=run_copy_k (P:=Tryz.prog) (w.drew.setRow b C1.toArray) 53 53 ty 59 11 b 11 2 dc ⟨vb,0,none⟩ 1 vc C1.toArray 59 vs.toList kq hsz (setRow_heap w.drew b cur C1.toArray 59 (0,0) hb) (by simp [hvs]) (fun j v hj=>by
   rw [Addr.add_lit]
   show (w.setRow b C1.toArray).cell? ⟨vb,0 + j,none⟩ = some v
   have e : (w.setRow b C1.toArray).heap[vb]? = w.heap[vb]?:=setRow_other w b vb C1.toArray hvb
   simp only [World.cell?,e,hv,Nat.zero_add]
   rw [← Array.getElem?_toList]
   exact hj) (by simp [hvs,hC1l]; omega) h1v
  simp only [Array.length_toList,hvs] at h
  exact h
 have mixed : Tryz.prog.follows Departure.mixedOrders = true:=kq
 have hw1 : IntKind.i64.wrap 2 = 2:=by decide
 have hb4 : ¬ (c = 2):=by omega
 have hb5 : ¬ (c = 1):=by omega
 clear hC1
 go_enter Tryz.func65,Tryz.ntmps65
 go_wp2_with (simp only [hov])
 go_region_law_o (refine step_copy_runI rfl _ _ 53 53 rfl (.slice (some ⟨b,22,none⟩) 1 (c - 2)) (.slice (some ⟨b,11,none⟩) 2 (c - 1)) (by simp [Act.eval,Act.put]) (by simp [Act.eval,Act.put]) (hcp1 3 (c - 2) (c - 1)) ?_)
 go_wp2_with (at_builtin; refine wpList_copy_runI _ rfl _ _ 53 53 rfl _ _ rfl rfl (hcp2 _ _) ?_)
 go_ret
 exact ⟨rfl,by rw [List.append_assoc]⟩
theorem cell_row (w : World) (b i : Nat) (cur : Array Value) (t : TypeId) (h : w.heap[b]? = some (.cells cur t (0,0))) : w.cell? ⟨b,i,none⟩ = cur.toList[i]?:=by
 simp only [World.cell?,h]
 rw [← Array.getElem?_toList]
 rfl
set_option maxHeartbeats 4000000 in
set_option maxRecDepth 100000 in
theorem insGrow (b vb vc : Nat) (cur vs : Array Value) (w : World) (hb : w.heap[b]? = some (.cells cur 59 (0,0))) (hcur : cur.size = 22)
  (hv : w.heap[vb]? = some (.cells vs 59 (0,0))) (hvs : vs.size = 11) (h1 : ∀ v ∈ cur.toList.drop 11,v.oneCell' = true) (h1v : ∀ v ∈ vs.toList,v.oneCell' = true) :
  Calls Tryz.prog 65 #[.slice (some ⟨b,0,none⟩) 2 2,.int .i64 1,.slice (some ⟨vb,0,none⟩) 1 vc] w fun e w' =>
   ∃ (cap : Nat) (R : List Value),3 ≤ cap ∧ cap ≤ maxLen ∧ R.length = cap * 11 ∧ R.take 33 = cur.toList.take 11 ++ vs.toList ++ cur.toList.drop 11 ∧
   e = .returned (.slice (some ⟨w.heap.size,0,none⟩) 3 cap) ∧ w'.heap[w.heap.size]? = some (.cells R.toArray 59 (0,0)) ∧ w'.heap.size = w.heap.size + 1 ∧ w'.os = w.os ∧ w'.tape = w.tape ∧ w'.output = w.output ∧ ∀ k,k < w.heap.size → w'.heap[k]? = w.heap[k]?:=by
 obtain ⟨i0,hi0⟩ : ∃ i0,Tryz.prog.info? 59 = some i0:=Option.isSome_iff_exists.1 kq
 have hzs : i0.size = 11:=by
  have h : (Tryz.prog.info? 59).map (·.size) = some 11:=kq
  rw [hi0] at h; simpa using h
 have hzb : i0.bytes = 128:=by
  have h : (Tryz.prog.info? 59).map (·.bytes) = some 128:=kq
  rw [hi0] at h; simpa using h
 obtain ⟨z,hz0,hzl⟩ : ∃ z,i0.zero = some z ∧ z.cells.size = 11:=by
  have h : (Tryz.prog.info? 59).bind (fun i=>i.zero.map (·.cells.size)) = some 11:=kq
  rw [hi0] at h
  simp only [Option.bind_some] at h
  cases hz : i0.zero with
  | none=>rw [hz] at h; cases h
  | some z=>rw [hz] at h; exact ⟨z,rfl,by simpa using h⟩
 have hsz : (Tryz.prog.info? 59).map (·.size) = some 11:=kq
 have hbw : b < w.heap.size:=(Array.getElem?_eq_some_iff.1 hb).1
 have hvw : vb < w.heap.size:=(Array.getElem?_eq_some_iff.1 hv).1
 have hl0 : (cur.toList.take 11).length = 11:=by simp [hcur]
 have hl1 : (cur.toList.drop 11).length = 11:=by simp [hcur]
 have hold : (Builtin.firstCells i0.size 1 (.slice (some ⟨b,0,none⟩) 1 2)).run Tryz.prog w.drew = .ok (cur.toList.take 11).toArray w.drew:=by
  rw [hzs]
  exact run_firstCells_some w.drew 11 1 ⟨b,0,none⟩ 1 2 (cur.toList.take 11) (by rw [hl0]) (fun j v hj=>by
   rw [Addr.add_lit,Nat.zero_add]
   show w.cell? ⟨b,j,none⟩ = some v
   rw [cell_row w b j cur 59 hb]
   rw [List.getElem?_take] at hj
   split at hj
   ·exact hj
   ·cases hj)
 have hrz : ∀ ty,(Builtin.append_ #[53,3] ty #[.slice (some ⟨b,0,none⟩) 1 2,.int .i64 2]).run Tryz.prog w =
   .ok (.slice (some ⟨w.heap.size,0,none⟩) 3 (grownCap w 3 2 59)) (w.drew.alloc (.cells ((cur.toList.take 11).toArray ++ Builtin.zeroCells z.cells 2 ++ Builtin.zeroCells z.cells (grownCap w 3 2 59 - 3)) 59)):=fun ty =>
  Lib.run_append_grow_zeros w 53 3 ty 59 i0 z .i64 .i64 kq kq hi0 hz0 (some ⟨b,0,none⟩) 1 2 (cur.toList.take 11) hold 2 (by omega) (by omega) (by omega) (by omega) (by rw [hzb]; omega) (by rw [hzb]; decide)
 have hGn : 3 ≤ grownCap w 3 2 59:=grownCap_ge w _ _ _
 have hGm : grownCap w 3 2 59 ≤ maxLen:=grownCap_le_maxLen w 3 2 59 (by unfold maxLen; omega)
 obtain ⟨G,hG⟩ : ∃ G,G = grownCap w 3 2 59:=⟨_,rfl⟩
 rw [← hG] at hrz hGn hGm
 obtain ⟨ROW,hROW⟩ : ∃ ROW : Array Value,ROW = (cur.toList.take 11).toArray ++ Builtin.zeroCells z.cells 2 ++ Builtin.zeroCells z.cells (G - 3):=⟨_,rfl⟩
 rw [← hROW] at hrz
 have hRl : ROW.size = G * 11:=by
  rw [hROW]
  simp [Builtin.zeroCells,hzl,hcur]
  omega
 have hRt : ROW.toList.take 11 = cur.toList.take 11:=by
  rw [hROW,Array.append_assoc,Array.toList_append,List.take_append_of_le_length (by simp [hcur])]
  exact List.take_of_length_le (by simp [hcur])
 obtain ⟨C1,hC1⟩ : ∃ C1,C1 = ROW.toList.take 11 ++ vs.toList ++ ROW.toList.drop 22:=⟨_,rfl⟩
 have hC1l : C1.length = G * 11:=by rw [hC1]; simp [hRl,hvs]; omega
 obtain ⟨C2,hC2⟩ : ∃ C2,C2 = C1.take 22 ++ cur.toList.drop 11 ++ C1.drop 33:=⟨_,rfl⟩
 have hC2l : C2.length = G * 11:=by rw [hC2]; simp [hC1l,hcur]; omega
 have hC2t : C2.take 33 = cur.toList.take 11 ++ vs.toList ++ cur.toList.drop 11:=by
  have e1 : C1.take 22 = cur.toList.take 11 ++ vs.toList:=by
   rw [hC1,hRt,List.take_append_of_le_length (by simp [hcur,hvs])]
   exact List.take_of_length_le (by simp [hcur,hvs])
  rw [hC2,e1,List.take_append_of_le_length (by simp [hcur,hvs])]
  exact List.take_of_length_le (by simp [hcur,hvs])
 obtain ⟨W1,hW1⟩ : ∃ W1,W1 = w.drew.alloc (.cells ROW 59):=⟨_,rfl⟩
 rw [← hW1] at hrz
 have hN : W1.heap[w.heap.size]? = some (.cells ROW 59 (0,0)):=by
  rw [hW1]
  show (w.heap.push (.cells ROW 59 (0,0)))[w.heap.size]? = _
  simp
 have hO : ∀ k,k < w.heap.size → W1.heap[k]? = w.heap[k]?:=fun k hk=>by
  rw [hW1]
  show (w.heap.push (.cells ROW 59 (0,0)))[k]? = _
  simp [Array.getElem?_push]
  intro e; omega
 have hcpA : ∀ (W : World),W.heap = W1.heap → ∀ ty dc,(Builtin.copy_ #[53,53] ty #[.slice (some ⟨w.heap.size,11,none⟩) 2 dc,.slice (some ⟨vb,0,none⟩) 1 vc]).run Tryz.prog W = .ok (goInt 1) (W.setRow w.heap.size C1.toArray):=fun W hW ty dc=>by
  have h:=run_copy_k (P:=Tryz.prog) W 53 53 ty 59 11 w.heap.size 11 2 dc ⟨vb,0,none⟩ 1 vc ROW 59 vs.toList kq hsz (by rw [hW]; exact hN) (by simp [hvs]) (fun j v hj=>by
   rw [Addr.add_lit,Nat.zero_add,cell_row W vb j vs 59 (by rw [hW,hO vb hvw]; exact hv)]
   exact hj) (by simp [hvs,hRl]; omega) h1v
  simp only [Array.length_toList,hvs] at h
  rw [hC1]
  exact h
 have hcpB : ∀ (W : World),W.heap = (W1.setRow w.heap.size C1.toArray).heap → ∀ ty dc sc,(Builtin.copy_ #[53,53] ty #[.slice (some ⟨w.heap.size,22,none⟩) 1 dc,.slice (some ⟨b,11,none⟩) 1 sc]).run Tryz.prog W = .ok (goInt 1) (W.setRow w.heap.size C2.toArray):=fun W hW ty dc sc=>by
  have h:=run_copy_k (P:=Tryz.prog) W 53 53 ty 59 11 w.heap.size 22 1 dc ⟨b,11,none⟩ 1 sc C1.toArray 59 (cur.toList.drop 11) kq hsz (by rw [hW]; exact setRow_heap W1 w.heap.size ROW C1.toArray 59 (0,0) hN) (by rw [hl1]; rfl) (fun j v hj=>by
   rw [Addr.add_lit,cell_row W b (11 + j) cur 59 (by rw [hW,setRow_other W1 w.heap.size b C1.toArray (by omega),hO b hbw]; exact hb)]
   rw [List.getElem?_drop] at hj
   exact hj) (by simp [hl1,hC1l,hcur]; omega) h1
  rw [hl1] at h
  rw [hC2]
  exact h
 have mixed : Tryz.prog.follows Departure.mixedOrders = true:=kq
 have hw1 : IntKind.i64.wrap 2 = 2:=by decide
 have hG1 : ¬ (G = 1):=by omega
 have hG2 : ¬ (G = 2):=by omega
 have hGi : (3 : Int) ≤ G:=by omega
 have hG63 : G ≤ 9223372036854775807:=by unfold maxLen at hGm; omega
 subst hW1
 clear hROW hC1 hC2 hG
 have hA:=hcpA ((w.alloc (.cells ROW 59)).drew) rfl
 have hB:=hcpB ((((w.alloc (.cells ROW 59)).drew).setRow w.heap.size C1.toArray).drew) rfl
 clear hcpA hcpB
 go_enter Tryz.func65,Tryz.ntmps65
 go_wp2_with (first
  | (at_builtin; refine Lib.wpList_append_run _ rfl _ _ _ _ rfl _ _ rfl rfl _ _ (hrz _) ?_)
  | (at_builtin; refine wpList_copy_runI _ rfl _ _ 53 53 rfl _ _ rfl rfl (hA _ _) ?_))
 go_region_law_o (refine step_copy_runI rfl _ _ 53 53 rfl (.slice (some ⟨w.heap.size,22,none⟩) 1 (G - 2)) (.slice (some ⟨b,11,none⟩) 1 1) (by simp [Act.eval,Act.put]) (by simp [Act.eval,Act.put]) (hB 3 (G - 2) 1) ?_)
 go_wp2
 go_ret
 have hs1:=setRow_heap ((w.alloc (.cells ROW 59)).drew) w.heap.size ROW C1.toArray 59 (0,0) hN
 refine ⟨G,C2,hGn,hGm,hC2l,hC2t,rfl,setRow_heap _ w.heap.size C1.toArray C2.toArray 59 (0,0) hs1,?_,rfl,rfl,rfl,fun k hk=>?_⟩
 ·rw [setRow_size]
  show (((w.alloc (.cells ROW 59)).drew).setRow w.heap.size C1.toArray).heap.size = _
  rw [setRow_size]
  show (w.heap.push _).size = _
  simp
 ·rw [setRow_other _ _ _ _ (by omega)]
  show (((w.alloc (.cells ROW 59)).drew).setRow w.heap.size C1.toArray).heap[k]? = _
  rw [setRow_other _ _ _ _ (by omega)]
  exact hO k hk
end Go.Proofs
end
section
namespace Go.Proofs
open Go Go.SX
set_option maxRecDepth 100000
set_option maxHeartbeats 4000000
def ws85 : List (List UInt8):=ws146 ++ wN [0,0,1] ++ [hexP [83,89,83,80,82,73,78,84]] ++ wN [2,0,0]
theorem print85 : CallsF Tryz.prog 85 [exP] exT (.ret (.v (.one (.str (Lib.join ws85 [32]))))):=by
 refine CallsF.mk true Tryz.func85 kq kq (fun ρ w=>V.lit ?_)
 refine V.runZ ev0 [] [146] 200 (fun os=>kq) kq kq (fun os=>?_)
 refine V.nilB wdS [] 9 0 ⟨[.val (.slice none 0 0)],195,true⟩ 9 1 kq rfl ?_
 refine V.callK [(3,false)] c146 kq kq kq (fun _=>kq) (fun y _=>?_)
 refine V.runW rfl ev0 [⟨sItoa,[0]⟩] ⟨_,List.mem_singleton.2 rfl,List.mem_singleton.2 rfl⟩ [148,154,156] 3000 (fun os=>kq) kq kq (fun os=>?_)
 refine V.rowGet 8 (wrR 99 (nxR ws85.reverse) ((os 6).1,(os 6).2)) (rowL wdS [] ws85 (os 6).1 (os 6).2 9 1 true) kq kq kq ?_
 refine V.callK [] (cJoin ws85 [32] (os 6).1 (os 6).2 (by decide +kernel) (by decide +kernel)) kq kq kq (fun _=>kq) (fun _ _=>?_)
 refine V.runZ ev0 [] [] 200 (fun os=>kq) kq kq (fun os=>?_)
 exact V.retO kq kq kq
def prS : List UInt8:=Lib.join ws85 [32]
theorem print35 : CallsF Tryz.prog 35 [exP] exT (.ret (.tup [.one (.str prS),i64 0])):=by
 refine CallsF.mk true Tryz.func35 kq kq (fun ρ w=>V.lit ?_)
 refine V.runZ ev0 [] [21] 200 (fun os=>kq) kq kq (fun os=>?_)
 refine V.callO [(0,false),(1,false),(2,false)] (check21 48 0 chkOk).ro kq kq kq (fun v hv=>⟨?_,?_⟩) (fun ch hc=>by cases hc)
 ·cases hv; kernel_rfl
 ·cases hv
  refine V.runZ ev0 [] [85] 200 (fun os=>kq) kq kq (fun os=>?_)
  refine V.callO [(0,false),(1,false),(2,false),(3,false)] print85.ro kq kq kq (fun v hv=>⟨?_,?_⟩) (fun ch hc=>by cases hc)
  ·cases hv; kernel_rfl
  ·cases hv
   refine V.runZ ev0 [] [] 200 (fun os=>kq) kq kq (fun os=>?_)
   exact V.retO kq kq kq
end Go.Proofs
end
section
namespace Go.SX
open Go
theorem row_ofBlk {w : World} {G cap n sz : Nat} {e : TypeId} {R : List Value} {f : Nat → List SV} (hg : w.heap[G]? = some (.cells R.toArray e (0,0))) (hR : R.length = cap * sz) (hn : n ≤ cap) (hcap : cap ≤ maxLen)
  (hf : ∀ i,(f i).length = sz) (hpl : ∀ i,∀ x ∈ f i,x.plain) (ht : R.take (n * sz) = ((List.range n).flatMap f).map SV.den0) : (⟨some ⟨G,0,none⟩,n,cap,e,sz,f,true,none⟩ : Row).ok w:=by
 have hflat : (⟨some ⟨G,0,none⟩,n,cap,e,sz,f,true,none⟩ : Row).flat = ((List.range n).flatMap f).map SV.den0:=by
  show (List.range n).flatMap (fun i=>(f i).map SV.den0) = _
  rw [List.map_flatMap]
 have hlen : (((List.range n).flatMap f).map SV.den0).length = n * sz:=by rw [List.length_map,flat_len hf,List.length_range]
 have hcs : n * sz ≤ cap * sz:=Nat.mul_le_mul_right sz hn
 refine ⟨fun i hi=>⟨hf i,hpl i⟩,fun hp=>⟨G,0,rfl,fun i j x hi hx=>?_⟩,fun _ _=>⟨by rw [hflat]; exact hlen,.inr ⟨G,cap,R.toArray,rfl,Nat.zero_le _,hg,hn,hcap,by simpa using hR,by rw [hflat]; simpa using ht⟩⟩,fun o ho=>by cases ho⟩
 have hi' : i < n:=hi
 have hx' : (f i)[j]? = some x:=hx
 have hj : j < sz:=by
  rw [← hf i]
  exact (List.getElem?_eq_some_iff.1 hx').1
 have hij : i * sz + j < n * sz:=by
  have : (i + 1) * sz ≤ n * sz:=Nat.mul_le_mul_right sz hi'
  rw [Nat.succ_mul] at this
  omega
 rw [Lib.cell_of_heap hg]
 show R.toArray[0 + (i * sz + j)]? = _
 rw [Nat.zero_add,List.getElem?_toArray]
 have : R[i * sz + j]? = (R.take (n * sz))[i * sz + j]?:=by rw [List.getElem?_take,if_pos hij]
 rw [this,ht,List.getElem?_map,flat_at hf 0 (by simpa using hi') hj]
 have : (List.range n).getD i 0 = i:=by simp [List.getD,hi']
 rw [this,hx']
 rfl
end Go.SX
namespace Go.Proofs
open Go Go.SX
set_option maxRecDepth 100000
set_option maxHeartbeats 1000000
def f3 (a b c : List SV) : Nat → List SV
 | 0=>a
 | 1=>b
 | _=>c
def st2 (a b : List SV) (x : QC) : Row:=⟨x.1,2,x.2,59,11,f3 a b b,true,none⟩
def st3 (a v b : List SV) (x : QC) : Row:=⟨x.1,3,x.2,59,11,f3 a v b,true,none⟩
def insF (a b v : List SV) (x : QC) : St:={ noF with heap:=[(0,⟨v,59,false⟩)],next:=1,rows:=[(0,st2 a b x)],nr:=1 }
def insG (a b v : List SV) (x : QC) : St:={ noF with heap:=[(0,⟨v,59,false⟩)],next:=1,rows:=[(0,st3 a v b x)],nr:=1 }
structure Cl11 (l : List SV) : Prop where
 len : l.length = 11
 pl : ∀ x ∈ l,x.plain
 one : ∀ x ∈ l,x.den0.oneCell' = true
theorem Cl11.of {l : List SV} (h1 : Nat.beq l.length 11 = true) (h2 : l.all plainB = true) (h3 : (l.all fun x=>x.den0.oneCell') = true) : Cl11 l :=
 ⟨(beq_iff _ _).1 h1,fun x hx=>plainB_ok (List.all_eq_true.1 h2 x hx),fun x hx=>List.all_eq_true.1 h3 x hx⟩
theorem cIns (a b v : List SV) (ha : Cl11 a) (hb : Cl11 b) (hv : Cl11 v) (x : QC) : CallsK Tryz.prog 65 [.one (.row 0 x.1 2 x.2),i64 1,.one (.sli 0 1 1)] (insF a b v x) (fun _ : QC=>True) (fun y=>.v (.one (.row 0 y.1 3 y.2))) (insG a b v):=by
 intro ρ w hF
 obtain ⟨_,hok,huse⟩:=hF.rows 0 (st2 a b x) rfl
 obtain ⟨hb0,hvb,hvw⟩:=hF.heap 0 ⟨v,59,false⟩ rfl
 have hvl:=hF.lt 0 hb0
 have hvs : (v.map (SV.den ρ)) = v.map SV.den0:=List.map_congr_left fun y hy=>SV.plain_den (hv.pl y hy) _
 rw [hvs] at hvb
 have hf2 : ∀ i,(f3 a b b i).length = 11:=fun i=>by
  match i with
  | 0=>exact ha.len
  | 1=>exact hb.len
  | _ + 2=>exact hb.len
 have hf3 : ∀ i,(f3 a v b i).length = 11:=fun i=>by
  match i with
  | 0=>exact ha.len
  | 1=>exact hv.len
  | _ + 2=>exact hb.len
 have hp3 : ∀ i,∀ y ∈ f3 a v b i,y.plain:=fun i=>by
  match i with
  | 0=>exact ha.pl
  | 1=>exact hv.pl
  | _ + 2=>exact hb.pl
 obtain ⟨_,⟨h0,_⟩ | ⟨g,cap,cur,hs,_,hg,hn,hcap,hcs,hcur⟩⟩:=hok.own rfl rfl
 ·have e2 : (2 : Nat) = 0:=by injection h0
  omega
 ·have hx1 : x.1 = some ⟨g,0,none⟩ ∧ x.2 = cap:=by
   have e : Value.slice x.1 2 x.2 = Value.slice (some ⟨g,0,none⟩) 2 cap:=hs
   injection e with e1 e2 e3
   exact ⟨e1,e3⟩
  obtain ⟨x1,x2⟩:=x
  simp only at hx1
  obtain ⟨rfl,rfl⟩:=hx1
  have hcur2 : cur.toList.take 22 = a.map SV.den0 ++ b.map SV.den0:=by
   have e : cur.toList.take (2 * 11) = (st2 a b (some ⟨g,0,none⟩,x2)).flat:=hcur
   rw [e]
   show (List.range 2).flatMap (fun i=>(f3 a b b i).map SV.den0) = _
   simp [List.range_succ,f3]
  have hgu : (st2 a b (some ⟨g,0,none⟩,x2)).uses g:=⟨⟨g,0,none⟩,rfl,rfl,.inl rfl⟩
  have hne : ρ 0 ≠ g:=(huse g hgu).2 0 hb0
  have hgl : g < w.heap.size:=(huse g hgu).1
  have hal : (a.map SV.den0).length = 11:=by rw [List.length_map]; exact ha.len
  have hbl : (b.map SV.den0).length = 11:=by rw [List.length_map]; exact hb.len
  have hca : cur.toList.take 11 = a.map SV.den0:=by
   have : cur.toList.take 11 = (cur.toList.take 22).take 11:=by rw [List.take_take]; rfl
   rw [this,hcur2,List.take_append_of_le_length (by omega),List.take_of_length_le (by omega)]
  have hcb : (cur.toList.drop 11).take 11 = b.map SV.den0:=by
   have : (cur.toList.drop 11).take 11 = (cur.toList.take 22).drop 11:=by rw [List.drop_take]
   rw [this,hcur2,List.drop_append_of_le_length (by omega),List.drop_of_length_le (by omega)]
   rfl
  have h1b : ∀ y ∈ b.map SV.den0,y.oneCell' = true:=fun y hy=>by
   obtain ⟨z,hz,rfl⟩:=List.mem_map.1 hy
   exact hb.one z hz
  have h1v : ∀ y ∈ (v.map SV.den0).toArray.toList,y.oneCell' = true:=fun y hy=>by
   obtain ⟨z,hz,rfl⟩:=List.mem_map.1 (by simpa using hy)
   exact hv.one z hz
  have htouch : ∀ k,k = g → touch ρ (insF a b v (some ⟨g,0,none⟩,x2)) k:=fun k hk=>.inr ⟨0,st2 a b (some ⟨g,0,none⟩,x2),rfl,rfl,hk ▸ hgu⟩
  -- what holds at the end
  have fin : ∀ (G cap' : Nat) (R : List Value) (w' : World),(G = g ∨ w.heap.size ≤ G) → 3 ≤ cap' → cap' ≤ maxLen → R.length = cap' * 11 → R.take 33 = a.map SV.den0 ++ v.map SV.den0 ++ b.map SV.den0 → w'.heap[G]? = some (.cells R.toArray 59 (0,0)) →
    Chg (fun k=>k = g) w w' → GivesK ρ (insF a b v (some ⟨g,0,none⟩,x2)) (fun _ : QC=>True) (fun y=>.v (.one (.row 0 y.1 3 y.2))) (insG a b v) w (.returned (.slice (some ⟨G,0,none⟩) 3 cap')) w':=by
   intro G cap' R w' hG h3 hm hRl hRt hRg hch
   have hGl : G < w'.heap.size:=(Array.getElem?_eq_some_iff.1 hRg).1
   have hGne : ρ 0 ≠ G:=fun e=>by
    rcases hG with rfl | h
    ·exact hne e
    ·omega
   have hrow : (st3 a v b (some ⟨G,0,none⟩,cap')).ok w':=row_ofBlk hRg hRl h3 hm hf3 hp3 (by
    rw [hRt]
    simp [List.range_succ,f3])
   have hru : ∀ k,(st3 a v b (some ⟨G,0,none⟩,cap')).uses k → k = G:=fun k hk=>by
    obtain ⟨ad,m1,m2,_⟩:=hk
    cases m1
    exact m2.symm
   refine ⟨(some ⟨G,0,none⟩,cap'),ρ,trivial,rfl,fun _ _=>rfl,Nat.le_refl _,fun k h1 h2=>absurd h2 (Nat.not_lt_of_le h1),⟨fun k blk hk=>?_,hF.inj,fun k hk=>Nat.lt_of_lt_of_le (hF.lt k hk) hch.size,fun r Q hQ=>?_,fun r r' Q Q' hQ hQ' hr=>?_,fun p hp=>by cases hp⟩,
        fun k hk=>⟨⟨v,59,false⟩,by
     have : k = 0:=by have : k < 1:=hk; omega
     subst this; rfl⟩,⟨Nat.one_pos,fun Q hQ=>by cases hQ; exact ⟨rfl,rfl,rfl⟩⟩,hch.mono (fun k hk=>htouch k hk),fun k blk hk h1 h2=>⟨blk,h1,h2⟩,fun r Q hQ k hk=>?_,fun p hp=>by cases hp⟩
   ·have hk' : SX.look [(0,(⟨v,59,false⟩ : Blk))] k = some blk:=hk
    simp only [SX.look] at hk'
    split at hk'
    ·rename_i e
     have e:=(beq_iff _ _).1 e
     subst e
     cases hk'
     exact ⟨Nat.one_pos,by
      rw [hch.block _ hvl hne]
      simp only [hvs]
      exact hvb,fun y hy=>SV.plain_wf (hv.pl y hy) _⟩
    ·cases hk'
   ·have hQ' : SX.look [(0,st3 a v b (some ⟨G,0,none⟩,cap'))] r = some Q:=hQ
    simp only [SX.look] at hQ'
    split at hQ'
    ·rename_i e
     have e:=(beq_iff _ _).1 e
     subst e
     cases hQ'
     refine ⟨Nat.one_pos,hrow,fun k hk=>?_⟩
     have:=hru k hk
     subst this
     exact ⟨hGl,fun j hj=>by
      have : j = 0:=by have : j < 1:=hj; omega
      subst this; exact hGne⟩
    ·cases hQ'
   ·have h1 : SX.look [(0,st3 a v b (some ⟨G,0,none⟩,cap'))] r = some Q:=hQ
    have h2 : SX.look [(0,st3 a v b (some ⟨G,0,none⟩,cap'))] r' = some Q':=hQ'
    simp only [SX.look] at h1 h2
    split at h1
    ·rename_i e1
     split at h2
     ·rename_i e2
      exact absurd (((beq_iff _ _).1 e1).symm.trans ((beq_iff _ _).1 e2)) hr
     ·cases h2
    ·cases h1
   ·have h1 : SX.look [(0,st3 a v b (some ⟨G,0,none⟩,cap'))] r = some Q:=hQ
    simp only [SX.look] at h1
    split at h1
    ·cases h1
     have:=hru k hk
     subst this
     rcases hG with rfl | h
     ·exact .inl ⟨rfl,htouch _ rfl⟩
     ·exact .inr (.inr h)
    ·cases h1
  have hn2 : 2 ≤ x2:=hn
  have hcs2 : cur.size = x2 * 11:=hcs
  clear hn hcs
  rcases Nat.lt_or_ge x2 3 with h3 | h3
  ·have hx2 : x2 = 2:=by omega
   subst hx2
   have hdb : cur.toList.drop 11 = b.map SV.den0:=by
    rw [← hcb,List.take_of_length_le (by simp [hcs2])]
   refine (insGrow g (ρ 0) 1 cur (v.map SV.den0).toArray w hg hcs2 hvb (by simp [hv.len]) (by rw [hdb]; exact h1b) h1v).mono ?_
   rintro e w' ⟨cap',R,k1,k2,k3,k4,rfl,k5,k6,k7,k8,k9,k10⟩
   exact fin w.heap.size cap' R w' (.inr (Nat.le_refl _)) k1 k2 k3 (by rw [k4,hca,hdb]) k5 ⟨k7,k8,k9,by omega,fun k hk _=>k10 k hk⟩
  ·refine (insShift g (ρ 0) x2 1 cur (v.map SV.den0).toArray w h3 (by unfold maxLen at hcap; omega) hne hg hcs2 hvb (by simp [hv.len]) (by rw [hcb]; exact h1b) h1v).mono ?_
   rintro e w' ⟨rfl,rfl⟩
   have hs1:=setRow_heap w.drew g cur (cur.toList.take 22 ++ (cur.toList.drop 11).take 11 ++ cur.toList.drop 33).toArray 59 (0,0) hg
   refine fin g x2 _ _ (.inl rfl) h3 hcap ?_ ?_ (setRow_heap _ g _ _ 59 (0,0) hs1) ⟨rfl,rfl,rfl,?_,fun k hk hng=>?_⟩
   ·simp [hcs2,hv.len]; omega
   ·rw [hcur2,hcb]
    have e1 : (a.map SV.den0 ++ b.map SV.den0 ++ b.map SV.den0 ++ cur.toList.drop 33).take 11 = a.map SV.den0:=by
     rw [List.append_assoc,List.append_assoc,List.take_append_of_le_length (by omega),List.take_of_length_le (by omega)]
    have e2 : (a.map SV.den0 ++ b.map SV.den0 ++ b.map SV.den0 ++ cur.toList.drop 33).drop 22 = b.map SV.den0 ++ cur.toList.drop 33:=by
     rw [List.append_assoc (a.map SV.den0 ++ b.map SV.den0),List.drop_append_of_le_length (by simp [ha.len,hb.len]),List.drop_of_length_le (by simp [ha.len,hb.len])]
     rfl
    rw [e1,e2,← List.append_assoc,List.take_append_of_le_length (by simp [ha.len,hb.len,hv.len])]
    exact List.take_of_length_le (by simp [ha.len,hb.len,hv.len])
   ·rw [setRow_size,setRow_size]; exact Nat.le_refl _
   ·rw [setRow_other _ _ _ _ hng,setRow_other _ _ _ _ hng]; rfl
end Go.Proofs
end
section
namespace Go.Proofs
open Go Go.SX
set_option maxRecDepth 100000
set_option maxHeartbeats 400000
def mvF : CV:=.one (.fn 63 [])
def slV (x : QC) (n : Nat) : SV:=.val (.slice x.1 n x.2)
def rfB (x : RfX) : St:={ noF with heap:=[(0,⟨rfC x,97,false⟩)],next:=1 }
def exB (y : RfX) (v : Int) : St:={ noF with heap:=[(0,⟨exK y v [] 0,44,false⟩)],next:=1 }
theorem refsA : CallsA Tryz.prog 119 [mvF,.one (.sli 0 1 1)] (rfB xA) (fun _ : QC=>True) (fun x=>.v (.one (slV x 1))) (fun _=>[]):=by
 refine CallsA.mk true Tryz.func119 kq kq (fun ρ w=>V.lit ?_)
 refine V.runZ ev0 [] [] 2000 (fun os=>kq) kq kq (fun os=>?_)
 exact V.retA ((os 0).1,(os 0).2) (.v (.one (.row 1 (os 0).1 1 (os 0).2))) [] kq kq kq kq kq trivial
theorem refsB : CallsA Tryz.prog 119 [mvF,.one (.sli 0 1 1)] (rfB xB) (fun _ : QC=>True) (fun x=>.v (.one (slV x 1))) (fun _=>[]):=by
 refine CallsA.mk true Tryz.func119 kq kq (fun ρ w=>V.lit ?_)
 refine V.runZ ev0 [] [] 2000 (fun os=>kq) kq kq (fun os=>?_)
 exact V.retA ((os 0).1,(os 0).2) (.v (.one (.row 1 (os 0).1 1 (os 0).2))) [] kq kq kq kq kq trivial
def unMv : List CV → Bool
 | [.one (.fn f []),.one (.val (.slice none 0 0))]=>Nat.beq f 63
 | _=>false
theorem unMv_ok {xs : List CV} (h : unMv xs = true) : xs = [mvF,.one nilS]:=by
 unfold unMv at h
 split at h
 ·rw [(beq_iff _ _).1 h]; rfl
 ·cases h
def Con.mv (f : FuncId) (h : CallsF Tryz.prog f [mvF,.one nilS] (stP []) (.ret (.v (.one nilS)))) : Con Tryz.prog where
 f:=f
 need:=[]
 fn:=fun xs=>match unMv xs with
  | true=>some (.v (.one nilS),[])
  | false=>none
 ok:=by
  intro xs v ob hx hob ρ w hp hl
  split at hx
  case h_2=>cases hx
  rename_i hu
  cases hx
  rw [unMv_ok hu]
  exact h ρ w (FSat_stP hp)
theorem c119n : CallsF Tryz.prog 119 [mvF,.one nilS] (stP []) (.ret (.v (.one nilS))):=CallsF.run ev0 [] [] [] 200 Tryz.func119 kq kq kq kq kq (fun os=>kq)
theorem c120n : CallsF Tryz.prog 120 [mvF,.one nilS] (stP []) (.ret (.v (.one nilS))):=CallsF.run ev0 [] [] [] 200 Tryz.func120 kq kq kq kq kq (fun os=>kq)
def k119n : Con Tryz.prog:=Con.mv 119 c119n
def k120n : Con Tryz.prog:=Con.mv 120 c120n
theorem exprsA : CallsA Tryz.prog 120 [mvF,.one (.sli 0 1 1)] (exB yA 7) (fun _ : QC=>True) (fun x=>.v (.one (slV x 1))) (fun _=>[]):=by
 refine CallsA.mk true Tryz.func120 kq kq (fun ρ w=>V.lit ?_)
 refine V.runZ ev0 [] [] 2000 (fun os=>kq) kq kq (fun os=>?_)
 refine V.drawX [] [] 12 kq ?_
 refine @VX.run _ [] [] 12 _ _ ([k119n.e,k120n.e] : List (Ent Tryz.prog)) [] kq kq trivial ?_
 refine @VX.tail _ [] [] 12 _ _ 9 kq ?_
 refine V.runZ ev0 [] [] 2000 (fun os=>kq) kq kq (fun o1=>?_)
 exact V.retA ((o1 0).1,(o1 0).2) (.v (.one (.row 1 (o1 0).1 1 (o1 0).2))) [] kq kq kq kq kq trivial
theorem exprsB : CallsA Tryz.prog 120 [mvF,.one (.sli 0 1 1)] (exB yB 1250) (fun _ : QC=>True) (fun x=>.v (.one (slV x 1))) (fun _=>[]):=by
 refine CallsA.mk true Tryz.func120 kq kq (fun ρ w=>V.lit ?_)
 refine V.runZ ev0 [] [] 2000 (fun os=>kq) kq kq (fun os=>?_)
 refine V.drawX [] [] 12 kq ?_
 refine @VX.run _ [] [] 12 _ _ ([k119n.e,k120n.e] : List (Ent Tryz.prog)) [] kq kq trivial ?_
 refine @VX.tail _ [] [] 12 _ _ 9 kq ?_
 refine V.runZ ev0 [] [] 2000 (fun os=>kq) kq kq (fun o1=>?_)
 exact V.retA ((o1 0).1,(o1 0).2) (.v (.one (.row 1 (o1 0).1 1 (o1 0).2))) [] kq kq kq kq kq trivial
theorem cl121 : CallsF Tryz.prog 121 [.one nilS] (stP []) (.ret (.v (.one nilS))):=CallsF.run ev0 [] [] [] 200 Tryz.func121 kq kq kq kq kq (fun os=>kq)
def k121 : Con Tryz.prog:=Con.lits 121 [([.one nilS],.v (.one nilS))] (fun p hp=>by rw [List.mem_singleton.1 hp]; exact ⟨rfl,cl121⟩)
def smC (k : Int) (r e : SV) (n : Int) : List SV:=[.int .i64 k,.int .i64 0,r,e,.int .i64 n,.int .i64 0,.int .i64 0,nilS,.int .i64 0,.bool false,.bool false]
def smB (x y : RfX) (v : Int) : St:={ noF with heap:=[(0,⟨rfC x,97,false⟩),(1,⟨exK y v [] 0,44,false⟩)],next:=2 }
theorem refsAK : CallsK Tryz.prog 119 [mvF,.one (.sli 0 1 1)] (rfB xA) (fun _ : QC=>True) (fun x=>.v (.one (slV x 1))) (fun _=>{ rfB xA with pers:=([] : List Row).map rowP }):=refsA.toK rfl kq (fun _=>rfl)
theorem refsBK : CallsK Tryz.prog 119 [mvF,.one (.sli 0 1 1)] (rfB xB) (fun _ : QC=>True) (fun x=>.v (.one (slV x 1))) (fun _=>{ rfB xB with pers:=([] : List Row).map rowP }):=refsB.toK rfl kq (fun _=>rfl)
theorem exprsAK : CallsK Tryz.prog 120 [mvF,.one (.sli 0 1 1)] (exB yA 7) (fun _ : QC=>True) (fun x=>.v (.one (slV x 1))) (fun _=>{ exB yA 7 with pers:=([] : List Row).map rowP }):=exprsA.toK rfl kq (fun _=>rfl)
theorem exprsBK : CallsK Tryz.prog 120 [mvF,.one (.sli 0 1 1)] (exB yB 1250) (fun _ : QC=>True) (fun x=>.v (.one (slV x 1))) (fun _=>{ exB yB 1250 with pers:=([] : List Row).map rowP }):=exprsB.toK rfl kq (fun _=>rfl)
def smY (x : QC × QC) : List SV:=smC 2 (slV x.1 1) (slV x.2 1) 0
theorem stmtA : CallsA Tryz.prog 66 [mvF,.agg (smC 2 (.sli 0 1 1) (.sli 1 1 1) 0)] (smB xA yA 7) (fun _ : QC × QC=>True) (fun x=>.v (.agg (smY x))) (fun _=>[]):=by
 refine CallsA.mk true Tryz.func66 kq kq (fun ρ w=>V.lit ?_)
 refine V.runZ ev0 [] [119] 2000 (fun os=>kq) kq kq (fun os=>?_)
 refine V.drawX [] [] 17 kq ?_
 refine @VX.run _ [] [] 17 _ _ ([k121.e] : List (Ent Tryz.prog)) [] kq kq trivial ?_
 refine @VX.callK _ [] [] 17 _ _ QC 119 [mvF,.one (.sli 0 1 1)] (rfB xA) _ _ _ [] refsAK kq kq kq (fun _=>kq) (fun x _=>?_)
 refine @VX.run _ [] [] 17 _ _ ([k121.e] : List (Ent Tryz.prog)) [] kq kq trivial ?_
 refine @VX.callK _ [] [] 17 _ _ QC 120 [mvF,.one (.sli 0 1 1)] (exB yA 7) _ _ _ [] exprsAK kq kq kq (fun _=>kq) (fun y _=>?_)
 refine @VX.run _ [] [] 17 _ _ ([k121.e] : List (Ent Tryz.prog)) [] kq kq trivial ?_
 refine @VX.tail _ [] [] 17 _ _ 9 kq ?_
 refine V.runZ ev0 [] [] 2000 (fun os=>kq) kq kq (fun o1=>?_)
 exact V.retA (x,y) (.v (.agg (smY (x,y)))) [] kq kq kq kq kq trivial
theorem stmtB : CallsA Tryz.prog 66 [mvF,.agg (smC 2 (.sli 0 1 1) (.sli 1 1 1) 0)] (smB xB yB 1250) (fun _ : QC × QC=>True) (fun x=>.v (.agg (smY x))) (fun _=>[]):=by
 refine CallsA.mk true Tryz.func66 kq kq (fun ρ w=>V.lit ?_)
 refine V.runZ ev0 [] [119] 2000 (fun os=>kq) kq kq (fun os=>?_)
 refine V.drawX [] [] 17 kq ?_
 refine @VX.run _ [] [] 17 _ _ ([k121.e] : List (Ent Tryz.prog)) [] kq kq trivial ?_
 refine @VX.callK _ [] [] 17 _ _ QC 119 [mvF,.one (.sli 0 1 1)] (rfB xB) _ _ _ [] refsBK kq kq kq (fun _=>kq) (fun x _=>?_)
 refine @VX.run _ [] [] 17 _ _ ([k121.e] : List (Ent Tryz.prog)) [] kq kq trivial ?_
 refine @VX.callK _ [] [] 17 _ _ QC 120 [mvF,.one (.sli 0 1 1)] (exB yB 1250) _ _ _ [] exprsBK kq kq kq (fun _=>kq) (fun y _=>?_)
 refine @VX.run _ [] [] 17 _ _ ([k121.e] : List (Ent Tryz.prog)) [] kq kq trivial ?_
 refine @VX.tail _ [] [] 17 _ _ 9 kq ?_
 refine V.runZ ev0 [] [] 2000 (fun os=>kq) kq kq (fun o1=>?_)
 exact V.retA (x,y) (.v (.agg (smY (x,y)))) [] kq kq kq kq kq trivial
theorem stmtAK : CallsK Tryz.prog 66 [mvF,.agg (smC 2 (.sli 0 1 1) (.sli 1 1 1) 0)] (smB xA yA 7) (fun _ : QC × QC=>True) (fun x=>.v (.agg (smY x))) (fun _=>{ smB xA yA 7 with pers:=([] : List Row).map rowP }):=stmtA.toK rfl kq (fun _=>rfl)
theorem stmtBK : CallsK Tryz.prog 66 [mvF,.agg (smC 2 (.sli 0 1 1) (.sli 1 1 1) 0)] (smB xB yB 1250) (fun _ : QC × QC=>True) (fun x=>.v (.agg (smY x))) (fun _=>{ smB xB yB 1250 with pers:=([] : List Row).map rowP }):=stmtB.toK rfl kq (fun _=>rfl)
end Go.Proofs
end
section
namespace Go.SX
open Go
def rstOf (P : Program) (c : Cfg) : Option (Nat × Row × Nat × Nat × List SV) :=
 match c.todo with
 | .inRegion ops (i :: _) :: _=>match ops[i]? with
  | some o=>match grdOf c.st ops o.guard,o.op,o.dst with
   | .yes,.store t ad x,none=>match ev c.st none ad,ev c.st none x,szOf P t with
    | some (.one (.el r _ _ i j)),some v,some sz=>match v.cells,look c.st.rows r with
     | some ys,some R=>match R.own,R.obj,Nat.beq ys.length sz,Nat.ble (j + ys.length) R.size,allPlain ys with
      | true,none,true,true,true=>some (r,R,i,j,ys)
      | _,_,_,_,_=>none
     | _,_=>none
    | _,_,_=>none
   | _,_,_=>none
  | none=>none
 | _=>none
def Row.with (R : Row) (get : Nat → List SV) : Row:={ R with get:=get }
section
variable {C : Ctx} {ρ : Nat → Nat} {s : St} {a : Act} {w w' : World}
theorem SV.wf_set {r : Nat} {R : Row} {get : Nat → List SV} (hR : look s.rows r = some R) (x : SV) (hx : x.wf s.W) : x.wf ({ s with rows:=upd s.rows r (R.with get) } : St).W:=by
 have hl : ∀ r' R',look (upd s.rows r (R.with get)) r' = some R' → ∃ R0,look s.rows r' = some R0 ∧ R'.s = R0.s ∧ R'.n = R0.n ∧ R'.cap = R0.cap ∧ R'.size = R0.size:=fun r' R' h=>by
  rw [look_upd] at h
  split at h
  ·rename_i e
   subst e
   cases h
   exact ⟨R,hR,rfl,rfl,rfl,rfl⟩
  ·exact ⟨R',h,rfl,rfl,rfl,rfl⟩
 cases x with
 | row r' q n c=>exact ⟨hx.1,fun R' h=>by
   obtain ⟨R0,h0,e1,e2,e3,e4⟩:=hl r' R' h
   obtain ⟨f1,f2,f3⟩:=hx.2 R0 h0
   exact ⟨e1.trans f1,e2.trans f2,e3.trans f3⟩⟩
 | el r' q sz i j=>exact ⟨hx.1,fun R' h=>by
   obtain ⟨R0,h0,e1,e2,e3,e4⟩:=hl r' R' h
   obtain ⟨f1,f2,f3⟩:=hx.2 R0 h0
   exact ⟨e1.trans f1,e4.trans f2,by rw [e2]; exact f3⟩⟩
 | _=>exact hx
theorem CV.wf_set {r : Nat} {R : Row} {get : Nat → List SV} (hR : look s.rows r = some R) (x : CV) (hx : x.wf s.W) : x.wf ({ s with rows:=upd s.rows r (R.with get) } : St).W:=by
 cases x with
 | one x=>exact SV.wf_set hR x hx
 | agg xs=>exact fun y hy=>SV.wf_set hR y (hx y hy)
theorem RV.wf_set {r : Nat} {R : Row} {get : Nat → List SV} (hR : look s.rows r = some R) (x : RV) (hx : x.wf s.W) : x.wf ({ s with rows:=upd s.rows r (R.with get) } : St).W:=by
 cases x with
 | v x=>exact CV.wf_set hR x hx
 | tup xs=>exact fun y hy=>CV.wf_set hR y (hx y hy)
 | grd g pol c x=>exact fun hc=>CV.wf_set hR x (hx hc)
theorem Sat.rowSet (h : Sat C ρ s a w) {r : Nat} {R : Row} (hR : look s.rows r = some R) (ho : R.own = true) (hno : R.obj = none) (get : Nat → List SV)
  (hown : w'.ownsRow 0 R.elem R.size (.slice R.s R.n R.cap) R.n (R.with get).flat) (hg : w.grownBy w' (Value.slice R.s R.n R.cap).ownBlock)
  (hl : ∀ i,i < R.n → (get i).length = R.size ∧ ∀ x ∈ get i,x.plain) : Sat C ρ { s with rows:=upd s.rows r (R.with get) } a w':=by
 obtain ⟨hr0,hok,huse⟩:=h.rows r R hR
 have hblk : ∀ k,(Value.slice R.s R.n R.cap).ownBlock = some k → R.uses k:=by
  intro k hk
  cases hs : R.s with
  | none=>rw [hs] at hk; cases hk
  | some ad=>rw [hs] at hk; simp only [Value.ownBlock,Option.some.injEq] at hk; exact ⟨ad,hs,hk,.inl ho⟩
 have hsame : ∀ k,k < w.heap.size → ¬ R.uses k → w'.heap[k]? = w.heap[k]?:=fun k hk hn=>hg.block k hk (fun e=>hn (hblk k e.symm))
 have hokN : (R.with get).ok w':=by
  refine ⟨hl,fun hpos=>?_,fun _ _=>hown,fun o ho=>(by have : R.obj = some o:=ho; rw [hno] at this; cases this)⟩
  have hpos' : 0 < R.n:=hpos
  rcases hown.2 with ⟨hv,hz⟩ | ⟨g,cap0,cur,hv,_⟩
  ·omega
  ·injection hv with e1 e2 e3
   refine ⟨g,0,e1,fun i j x hi hx=>?_⟩
   have hcell:=World.ownsRow.cells (w:=w') hown (g:=g) (by rw [e1]; rfl)
   have hf:=flat_get (fun i=>(get i).map SV.den0) R.size R.n (fun i hi=>by rw [List.length_map]; exact (hl i hi).1) i j x.den0 hi (by
    have hx' : (get i)[j]? = some x:=hx
    simp [hx'])
   have:=hcell _ _ hf
   rw [Addr_add_lit] at this
   exact this
 have huseN : ∀ k,(R.with get).uses k ↔ R.uses k:=fun k=>Iff.rfl
 have hlook : ∀ r' R',look (upd s.rows r (R.with get)) r' = some R' → (r' = r ∧ R' = R.with get) ∨ (r' ≠ r ∧ look s.rows r' = some R'):=fun r' R' hh=>by
  rw [look_upd] at hh
  split at hh
  ·rename_i e; cases hh; exact .inl ⟨e.symm,rfl⟩
  ·rename_i e; exact .inr ⟨fun e'=>e e'.symm,hh⟩
 refine ⟨h.n,fun i v hv=>⟨(h.slots i v hv).1,RV.wf_set hR v (h.slots i v hv).2⟩,h.grds,?_,h.inj,fun b hb=>Nat.lt_of_lt_of_le (h.lt b hb) hg.size,h.defers,?_,?_,?_,?_,h.fix⟩
 ·intro b blk hb
  obtain ⟨k1,k2,k3,k4⟩:=h.heap b blk hb
  refine ⟨k1,?_,fun x hx=>SV.wf_set hR x (k3 x hx),k4⟩
  rw [hsame _ (h.lt b k1) (fun hu=>(huse _ hu).2.1 b k1 rfl)]
  exact k2
 ·refine ⟨hg.os.trans h.chg.os,hg.tape.trans h.chg.tape,hg.output.trans h.chg.output,Nat.le_trans h.chg.size hg.size,fun k hk hS=>?_⟩
  rw [hsame k (Nat.lt_of_lt_of_le hk h.chg.size) (fun hu=>?_)]
  ·exact h.chg.block k hk hS
  ·rcases (huse k hu).2.2 ho with e | e
   ·omega
   ·exact hS e
 ·intro r' R' hR'
  rcases hlook r' R' hR' with ⟨rfl,rfl⟩ | ⟨hne,hl'⟩
  ·refine ⟨hr0,hokN,fun k hk=>?_⟩
   obtain ⟨u1,u2,u3⟩:=huse k hk
   exact ⟨Nat.lt_of_lt_of_le u1 hg.size,u2,u3⟩
  ·obtain ⟨k0,k1,k2⟩:=h.rows r' R' hl'
   refine ⟨k0,k1.congr (fun k hk=>hsame k (k2 k hk).1 (fun hu=>h.rowsD r r' R R' hR hl' (fun e=>hne e.symm) ho k hu hk)),fun k hk=>?_⟩
   obtain ⟨u1,u2,u3⟩:=k2 k hk
   exact ⟨Nat.lt_of_lt_of_le u1 hg.size,u2,u3⟩
 ·intro r1 r2 R1 R2 hR1 hR2 hne ho1 k hk1 hk2
  rcases hlook r1 R1 hR1 with ⟨rfl,rfl⟩ | ⟨hne1,hl1⟩
  ·rcases hlook r2 R2 hR2 with ⟨rfl,rfl⟩ | ⟨hne2,hl2⟩
   ·exact hne rfl
   ·exact h.rowsD r1 r2 R R2 hR hl2 hne ho k hk1 hk2
  ·rcases hlook r2 R2 hR2 with ⟨rfl,rfl⟩ | ⟨hne2,hl2⟩
   ·exact h.rowsD r1 r2 R1 R hl1 hR hne ho1 k hk1 hk2
   ·exact h.rowsD r1 r2 R1 R2 hl1 hl2 hne ho1 k hk1 hk2
 ·intro p hp
  obtain ⟨p1,p2,p3⟩:=h.pers p hp
  have hk : ∀ k,p.D k → w'.heap[k]? = w.heap[k]?:=fun k hD=>hsame k (p3 k hD).1 ((p3 k hD).2.2 r R hR ho)
  refine ⟨p2 _ hk,fun w2 hw2=>p2 w2 (fun k hD=>(hw2 k hD).trans (hk k hD)),fun k hD=>?_⟩
  obtain ⟨u1,u2,u3⟩:=p3 k hD
  refine ⟨Nat.lt_of_lt_of_le u1 hg.size,u2,fun r' R' hR' ho' hu'=>?_⟩
  rcases hlook r' R' hR' with ⟨rfl,rfl⟩ | ⟨hne,hl'⟩
  ·exact u3 r' R hR ho hu'
  ·exact u3 r' R' hl' ho' hu'
theorem flat_set {R : Row} {get : Nat → List SV} {i j : Nat} {ys : List SV} (hi : i < R.n) (hj : j + ys.length ≤ R.size) (hl : ∀ k,k < R.n → (R.get k).length = R.size)
  (h1 : ∀ k,k < R.n → k ≠ i → get k = R.get k) (h2 : get i = splice (R.get i) j ys) :
  (R.with get).flat = R.flat.take (i * R.size + j) ++ ys.map SV.den0 ++ R.flat.drop (i * R.size + j + ys.length):=by
 have e1 : List.range R.n = List.range i ++ ([i] ++ (List.range (R.n - i - 1)).map (fun k=>i + 1 + k)):=by
  have : R.n = i + (1 + (R.n - i - 1)):=by omega
  conv=>lhs; rw [this,List.range_add,List.range_add]
  simp [List.map_map,Function.comp_def,Nat.add_assoc]
 have ha : ∀ (l : List Nat),(∀ k ∈ l,k < R.n ∧ k ≠ i) → l.flatMap (fun k=>(get k).map SV.den0) = l.flatMap (fun k=>(R.get k).map SV.den0):=by
  intro l
  induction l with
  | nil=>intro _; rfl
  | cons c l ih=>intro hh; simp only [List.flatMap_cons]; rw [h1 c (hh c (List.mem_cons_self ..)).1 (hh c (List.mem_cons_self ..)).2,ih (fun k hk=>hh k (List.mem_cons_of_mem _ hk))]
 have hA : ∀ k ∈ List.range i,k < R.n ∧ k ≠ i:=fun k hk=>by have:=List.mem_range.1 hk; omega
 have hB : ∀ k ∈ (List.range (R.n - i - 1)).map (fun k=>i + 1 + k),k < R.n ∧ k ≠ i:=fun k hk=>by
  obtain ⟨m,hm,rfl⟩:=List.mem_map.1 hk
  have:=List.mem_range.1 hm
  omega
 have hlen:=flat_length (fun k=>(R.get k).map SV.den0) R.size i (fun k hk=>by rw [List.length_map]; exact hl k (by omega))
 have hli:=hl i hi
 unfold Row.flat Row.with
 simp only
 rw [e1,List.flatMap_append,List.flatMap_append,List.flatMap_append,List.flatMap_append,ha _ hA,ha _ hB]
 simp only [List.flatMap_cons,List.flatMap_nil,List.append_nil]
 generalize (List.range i).flatMap (fun k=>(R.get k).map SV.den0) = A at hlen
 generalize ((List.range (R.n - i - 1)).map (fun k=>i + 1 + k)).flatMap (fun k=>(R.get k).map SV.den0) = B
 rw [h2]
 generalize R.get i = M at hli
 unfold splice
 simp only [List.map_append,List.map_take,List.map_drop]
 generalize hM : M.map SV.den0 = M'
 have hM' : M'.length = R.size:=by rw [← hM,List.length_map,hli]
 rw [List.take_append,List.take_append,List.drop_append,List.drop_append,hlen]
 rw [List.take_of_length_le (by omega : A.length ≤ i * R.size + j),Nat.add_sub_cancel_left,hM']
 rw [List.drop_eq_nil_of_le (by omega : A.length ≤ i * R.size + j + ys.length),List.nil_append]
 rw [show j - R.size = 0 by omega,List.take_zero,List.append_nil,show i * R.size + j + ys.length - i * R.size = j + ys.length by omega,show j + ys.length - R.size = 0 by omega,List.drop_zero]
 simp [List.append_assoc]
end
end Go.SX
namespace Go.SX
open Go
end Go.SX
end
section
namespace Go.SX
open Go
section
variable {C : Ctx} {T TR : List Nat} {L : Nat} {c0 : Cfg} {d : DCfg}
theorem Sat.slotAs {ρ : Nat → Nat} {s : St} {a : Act} {w : World} (t : Nat) (u u' : CV) (hl : look s.slots t = some (.v u)) (hg : hasNat s.gs t = false) (hd : u'.den ρ = u.den ρ) (hw : u'.wf s.W) (hS : Sat C ρ s a w) :
  Sat C ρ { s with slots:=upd s.slots t (.v u') } a w:=by
 refine ⟨hS.n,?_,?_,hS.heap,hS.inj,hS.lt,hS.defers,hS.chg,hS.rows,hS.rowsD,hS.pers,hS.fix⟩
 ·intro j v hv
  simp only [look_upd] at hv
  by_cases e : t = j
  ·rw [if_pos e] at hv
   cases hv
   subst e
   refine ⟨?_,hw⟩
   rw [(hS.slots t _ hl).1]
   show some (u.den ρ) = some (u'.den ρ)
   rw [hd]
  ·rw [if_neg e] at hv
   exact hS.slots j v hv
 ·intro j g pol b x hv
  simp only [look_upd] at hv ⊢
  by_cases e : t = j
  ·rw [if_pos e] at hv; cases hv
  ·rw [if_neg e] at hv
   obtain ⟨k1,k2⟩:=hS.grds j g pol b x hv
   refine ⟨k1,?_⟩
   rw [if_neg (fun e2=>by rw [← e2,hg] at k1; cases k1)]
   exact k2
theorem VX.slotAs (t : Nat) (u u' : CV) (hl : look d.st.slots t = some (.v u)) (hg : (!hasNat d.st.gs t && plainC u') = true) (hd : ∀ ρ,u'.den ρ = u.den ρ)
  (h : VX C T TR L c0 ⟨d.fuel,d.listed,{ d.st with slots:=upd d.st.slots t (.v u') }⟩) : VX C T TR L c0 d:=by
 intro D hD a1 a2 a3 a4 a5 a6 hL hsel aT aTR hlt aN hrw ρ a w hS hρ hn0 hch hcl hsz
 rw [Bool.and_eq_true] at hg
 exact h D hD a1 a2 a3 a4 a5 a6 hL hsel aT aTR hlt aN hrw ρ a w (hS.slotAs t u u' hl (by simpa using hg.1) (hd ρ) (plainC_wf hg.2 _)) hρ hn0 hch hcl hsz
theorem VX.slotRow (t r : Nat) (R : Row) (hl : look d.st.slots t = some (.v (.one (.val (.slice R.s R.n R.cap))))) (hg : hasNat d.st.gs t = false) (hR : look d.st.rows r = some R)
  (h : VX C T TR L c0 ⟨d.fuel,d.listed,{ d.st with slots:=upd d.st.slots t (.v (.one (.row r R.s R.n R.cap))) }⟩) : VX C T TR L c0 d:=by
 intro D hD a1 a2 a3 a4 a5 a6 hL hsel aT aTR hlt aN hrw ρ a w hS hρ hn0 hch hcl hsz
 exact h D hD a1 a2 a3 a4 a5 a6 hL hsel aT aTR hlt aN hrw ρ a w (hS.slotAs t (.one (.val (.slice R.s R.n R.cap))) (.one (.row r R.s R.n R.cap)) hl hg rfl ⟨(hS.rows r R hR).1,fun R' hR'=>by
  have hR2 : look d.st.rows r = some R':=hR'
  rw [hR] at hR2
  cases hR2
  exact ⟨rfl,rfl,rfl⟩⟩) hρ hn0 hch hcl hsz
theorem rst_sound {ρ : Nat → Nat} {a : Act} {w : World} {st : St} {ops : Array Oper} {m : Nat} {r : Nat} {R : Row} {i j : Nat} {ys : List SV} {get : Nat → List SV} {o : Oper} (ho : ops[m]? = some o)
  (hc : rstOf C.P ⟨[.inRegion ops [m]],st⟩ = some (r,R,i,j,ys)) (h1 : ∀ k,k < R.n → k ≠ i → get k = R.get k) (h2 : i < R.n → get i = splice (R.get i) j ys) (hS : Sat C ρ st a w) :
  grdOf st ops o.guard = .yes ∧ o.dst = none ∧ ∃ w',(execOp a.eval o).run C.P w = .ok .skip w' ∧ Sat C ρ { st with rows:=upd st.rows r (R.with get) } a w':=by
 unfold rstOf at hc
 simp only [ho] at hc
 split at hc
 case h_2=>cases hc
 rename_i t ad x hg hop hdst
 split at hc
 case h_2=>cases hc
 rename_i r0 q0 sz0 i0 j0 v sz hev hx hsz
 split at hc
 case h_2=>cases hc
 rename_i ys0 R0 hys hR
 split at hc
 case h_2=>cases hc
 rename_i hown hobj hl hle hpl
 simp only [Option.some.injEq,Prod.mk.injEq] at hc
 obtain ⟨rfl,rfl,rfl,rfl,rfl⟩:=hc
 obtain ⟨e1,e1w⟩:=ev_sound hS.toP (GcOk.none st) hev
 obtain ⟨e2,e2w⟩:=ev_sound hS.toP (GcOk.none st) hx
 obtain ⟨c1,c2⟩:=cells_sound (ρ:=ρ) hys st.W e2w
 obtain ⟨_,hel⟩:=e1w
 obtain ⟨rfl,rfl,hi⟩:=hel R0 hR
 obtain ⟨hr0,hok,huse⟩:=hS.rows r0 R0 hR
 have hl':=(beq_iff _ _).1 hl
 have hle' : j0 + ys0.length ≤ R0.size:=Nat.le_of_ble_eq_true hle
 have hpl':=allPlain_ok hpl
 have hlens:=fun k hk=>(hok.len k hk).1
 rcases (hok.own hown hobj).2 with ⟨hv,hz⟩ | ⟨g,cap,cur,hv,_,hgh,hnc,hcm,hcs,htake⟩
 ·omega
 injection hv with hs hn hcap
 subst hcap
 have hmap : ys0.map (SV.den ρ) = ys0.map SV.den0:=List.map_congr_left fun y hy=>SV.plain_den (hpl' y hy).1 ρ
 have hbound : i0 * R0.size + j0 + ys0.length ≤ R0.n * R0.size:=by
  have:=Nat.mul_le_mul_right R0.size (show i0 + 1 ≤ R0.n by omega)
  rw [Nat.add_mul] at this; omega
 have hnsz : R0.n * R0.size ≤ cur.size:=by rw [hcs]; exact Nat.mul_le_mul_right _ hnc
 have hst:=run_storeCells_at C.P g (i0 * R0.size + j0) R0.elem (ys0.map (SV.den ρ)) 0 cur w hgh (by simp only [List.length_map]; omega) (fun v hv=>by
  obtain ⟨y,hy,rfl⟩:=List.mem_map.1 hv
  exact fit_sound (hpl' y hy).2)
 simp only [Nat.add_zero] at hst
 have hflat:=flat_set (R:=R0) (get:=get) hi hle' hlens h1 (h2 hi)
 have hS':=hS.rowSet (w':=w.setRow g (cur.toList.take (i0 * R0.size + j0) ++ ys0.map SV.den0 ++ cur.toList.drop (i0 * R0.size + j0 + ys0.length)).toArray) hR hown hobj get (by
   refine ⟨?_,.inr ⟨g,R0.cap,_,by rw [hs],Nat.zero_le _,setRow_heap w g cur _ R0.elem _ hgh,hnc,hcm,?_,?_⟩⟩
   ·exact flat_length (fun k=>(get k).map SV.den0) R0.size R0.n (fun k hk=>by
     rw [List.length_map]
     by_cases e : k = i0
     ·rw [e,h2 hi]; unfold splice; simp [hlens i0 hi]; omega
     ·rw [h1 k hk e]; exact hlens k hk)
   ·simp only [List.size_toArray,List.length_append,List.length_take,List.length_drop,Array.length_toList,List.length_map]
    omega
   ·rw [hflat,← htake]
    simp only [List.take_append,List.length_take,List.length_append,List.length_map,Array.length_toList,List.take_take,List.drop_take]
    rw [show min (R0.n * R0.size) (i0 * R0.size + j0) = i0 * R0.size + j0 by omega,show min (i0 * R0.size + j0) (R0.n * R0.size) = i0 * R0.size + j0 by omega,show min (i0 * R0.size + j0) cur.size = i0 * R0.size + j0 by omega]
    rw [List.take_of_length_le (by rw [List.length_map]; omega : (ys0.map SV.den0).length ≤ R0.n * R0.size - (i0 * R0.size + j0))])
  ⟨rfl,rfl,rfl,by rw [size_setRow]; exact Nat.le_refl _,fun k _ hk=>setRow_other w g k _ (fun e=>hk (by rw [hs]; simp [Value.ownBlock,e]))⟩
  (fun k hk=>by
   by_cases e : k = i0
   ·subst e
    rw [h2 hi]
    refine ⟨by unfold splice; simp [hlens k hi]; omega,fun x hx=>?_⟩
    unfold splice at hx
    rcases List.mem_append.1 hx with hx | hx
    ·rcases List.mem_append.1 hx with hx | hx
     ·exact (hok.len k hi).2 x (List.mem_of_mem_take hx)
     ·exact (hpl' x hx).1
    ·exact (hok.len k hi).2 x (List.mem_of_mem_drop hx)
   ·rw [h1 k hk e]; exact hok.len k hk)
 refine ⟨hg,hdst,w.setRow g (cur.toList.take (i0 * R0.size + j0) ++ ys0.map SV.den0 ++ cur.toList.drop (i0 * R0.size + j0 + ys0.length)).toArray,?_,hS'⟩
 have ha : CV.den ρ (.one (.el r0 R0.s R0.size i0 j0)) = .pointer (some ⟨g,i0 * R0.size + j0,none⟩):=by
  show SV.den ρ (.el r0 R0.s R0.size i0 j0) = _
  rw [hs]
  simp [SV.den]
 unfold execOp
 rw [hop]
 simp only [e1,e2,ha]
 rw [hmap] at c1 hst
 generalize CV.den ρ v = u at c1
 simp [Instr.storeAt,Instr.sureAddr,storeVar,szOf_run hsz,c1,hl',hst]
theorem VX.rowEnd (m r : Nat) (R : Row) (i j : Nat) (ys : List SV) (get : Nat → List SV) (hr : Region.ready .any (dOps c0) d.listed = [m]) (hf : (Nat.blt 0 d.fuel && compAll (dOps c0) m) = true) (hc : rstOf C.P ⟨[.inRegion (dOps c0) [m]],d.st⟩ = some (r,R,i,j,ys))
  (h1 : ∀ k,k < R.n → k ≠ i → get k = R.get k) (h2 : i < R.n → get i = splice (R.get i) j ys) (he : (Region.ready .any (dOps c0) (d.listed.setIfInBounds m true)).isEmpty = true)
  (k : V C ⟨dK c0,{ d.st with rows:=upd d.st.rows r (R.with get) }⟩) : VX C T TR L c0 d:=by
 intro D hD a1 a2 a3 a4 a5 a6 hL hsel aT aTR hlt aN hrw ρ a w hS hρ hn0 hch hcl hsz
 rw [Bool.and_eq_true] at hf
 obtain ⟨n,hn⟩ : ∃ n,d.fuel = n + 1:=⟨d.fuel - 1,by have:=blt_lt hf.1; omega⟩
 have hfin : tailOp (dOps c0) D.L m = true:=by
  unfold tailOp
  cases Nat.beq m D.L with
  | true=>rfl
  | false=>exact hf.2
 have hm : m ∈ Region.ready .any (dOps c0) d.listed:=by rw [hr]; exact List.mem_singleton.2 rfl
 obtain ⟨_,o,ho,_⟩:=mem_ready.1 hm
 obtain ⟨hg,hdst,w',hex,hS'⟩:=rst_sound ho hc h1 h2 hS
 rw [hn]
 refine wpAnyE_all hr (by simp) (fun q hq=>?_)
 have : q = m:=by simpa using hq
 subst this
 unfold wpOp
 simp only [ho,grd_yes hS hg,if_true]
 refine .inl ?_
 unfold Oper.wp
 rw [hex]
 refine ⟨fun hne=>(by rw [hfin] at hne; cases hne),?_⟩
 rw [hdst]
 exact wpAnyE_done (by simpa using he) (k ρ a w' hS') n
end
end Go.SX
end
section
namespace Go.Proofs
open Go Go.SX
set_option maxRecDepth 100000
set_option maxHeartbeats 400000
theorem stmtN (k n : Int) (hk : (k,n) = (1,0) ∨ (k,n) = (6,1)) : CallsF Tryz.prog 66 [mvF,.agg (smC k nilS nilS n)] (stP []) (.ret (.v (.agg (smC k nilS nilS n)))):=by
 rcases hk with h | h <;> cases h
 all_goals
  refine CallsF.mk true Tryz.func66 kq kq (fun ρ w=>V.lit ?_)
  refine V.runZ ev0 [] [] 2000 (fun os=>kq) kq kq (fun os=>?_)
  refine V.drawX [] [] 17 kq ?_
  refine @VX.run _ [] [] 17 _ _ ([k119n.e,k120n.e,k121.e] : List (Ent Tryz.prog)) [] kq kq trivial ?_
  refine @VX.tail _ [] [] 17 _ _ 9 kq ?_
  refine V.runZ ev0 [] [] 2000 (fun os=>kq) kq kq (fun o1=>?_)
  exact V.retO kq kq kq
end Go.Proofs
end
