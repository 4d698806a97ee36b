/- A symbolic run of the program that Lean checks, and what the functions of the program come to by it: part 3 of 11. -/
import Derived.Maps.RangeRun
import Derived.Test.YticgechhgdgjlaaGreatDoorRAB
set_option linter.unusedVariables false
section
namespace Go.SX
open Go
def bytesOf (P : Program) (c : Cfg) : Option (Nat × Row) :=
 match c.todo with
 | .inRegion ops (i :: _) :: _=>match ops[i]? with
  | some o=>match grdOf c.st ops o.guard with
   | .yes=>match o.op with
    | .convert src dst x=>match P.underlying src,P.underlying dst,ev c.st none x with
     | some (.slice e),some .string,some (.one (.row r _ _ _))=>match P.underlying e,look c.st.rows r with
      | some (.int .u8),some R=>match Nat.beq R.size 1 with
       | true=>some (r,R)
       | false=>none
      | _,_=>none
     | _,_,_=>none
    | _=>none
   | _=>none
  | none=>none
 | _=>none
section
variable {C : Ctx} {ρ : Nat → Nat} {s : St} {a : Act} {w : World}
theorem row_bytes {R : Row} {w : World} {P : Program} (h : R.ok w) (hs : R.size = 1) {l : List UInt8} (hl : l.length = R.n) (hg : ∀ i,i < R.n → R.get i = [.int .u8 ((l.getD i 0).toNat : Int)]) :
  (Conv.bytesToString (.slice R.s R.n R.cap)).run P w = .ok (.string ⟨l.toArray⟩) w:=by
 by_cases hn : R.n = 0
 ·have : l = []:=List.eq_nil_of_length_eq_zero (by omega)
  subst this
  cases hs' : R.s with
  | none=>rfl
  | some ad =>
   rw [hn]
   have h0 : (loadCells ad 0).run P w = .ok #[] w:=rfl
   have:=run_bytesToString (P:=P) w ad 0 R.cap [] (by simpa using h0)
   rw [this]; rfl
 ·obtain ⟨b,off,e1,e2⟩:=h.addr (by omega)
  rw [e1]
  have hc:=run_loadCells_list (P:=P) w ⟨b,off,none⟩ ((l.map (fun b=>(b.toNat : Int))).map (Value.int .u8)) (by
   intro j v hj
   simp only [List.getElem?_map,Option.map_eq_some_iff] at hj
   obtain ⟨y,⟨x,hx,rfl⟩,rfl⟩:=hj
   have hjl : j < l.length:=(List.getElem?_eq_some_iff.1 hx).1
   have:=e2 j 0 (.int .u8 ((l.getD j 0).toNat : Int)) (by omega) (by rw [hg j (by omega)]; rfl)
   rw [hs,Nat.mul_one,Nat.add_zero] at this
   rw [Addr_add_lit,this]
   simp [SV.den0,SV.den,List.getD,hx])
  have hlen : ((l.map (fun b=>(b.toNat : Int))).map (Value.int .u8)).length = R.n:=by simp [hl]
  rw [hlen] at hc
  rw [run_bytesToString (P:=P) w ⟨b,off,none⟩ R.n R.cap _ hc,foldl_push_byteCells]
  simp [ByteArray.empty,ByteArray.emptyWithCapacity]
  rfl
theorem V.bytes (r : Nat) (R : Row) (l : List UInt8) {c : Cfg} (hc : bytesOf C.P c = some (r,R)) (hl : l.length = R.n) (hg : ∀ i,i < R.n → R.get i = [.int .u8 ((l.getD i 0).toNat : Int)])
  (haf : (afterOp c c.st (.v (.one (.str l)))).isSome = true) (k : V C (afterD c c.st (.v (.one (.str l))))) : V C c:=by
 intro ρ a w hS
 obtain ⟨todo,st⟩:=c
 unfold bytesOf at hc
 simp only at hc haf k hS ⊢
 split at hc
 ·rename_i ops i l' k'
  split at hc
  ·rename_i o ho
   split at hc
   ·rename_i hgd
    split at hc
    ·rename_i src dst x hop
     split at hc
     ·rename_i e r' q n cap h1 h2 hx
      split at hc
      ·rename_i R' he hR
       split at hc
       ·rename_i hsz
        cases hc
        obtain ⟨e1,hr,hwf⟩:=ev_sound hS.toP (GcOk.none st) hx
        obtain ⟨rfl,rfl,rfl⟩:=hwf R hR
        have hb:=row_bytes (P:=C.P) (hS.rows r R hR).2.1 ((beq_iff _ _).1 hsz) hl hg
        have haf':=afterD_some haf
        revert k
        generalize afterD _ _ _ = c' at haf'
        intro k
        simp only [afterOp,ho] at haf'
        split at haf'
        ·rename_i s' hput
         cases haf'
         refine Ok.op_value ho (grd_yes hS hgd) (v:=(RV.v (.one (.str l))).den ρ) (w':=w) ?_ (k ρ _ _ (hS.put hput trivial (fun g pol b x e=>by cases e)))
         have : (convert src dst (.slice R.s R.n R.cap)).run C.P w = .ok (.string ⟨l.toArray⟩) w:=by
          rw [run_convert_bytes_string w src dst e _ _ _ h1 he h2]; exact hb
         unfold execOp
         rw [hop]
         refine execVal2 ?_
         rw [e1]
         exact this
        ·cases haf'
       ·cases hc
      ·cases hc
     ·cases hc
    ·cases hc
   ·cases hc
  ·cases hc
 ·cases hc
structure Fresh (w w' : World) (rs : List (Nat × Row)) (ps : List Pers) : Prop where
 rows : ∀ r R,look rs r = some R → R.ok w' ∧ ∀ k,R.uses k → w.heap.size ≤ k ∧ k < w'.heap.size
 rowsD : ∀ r r' R R',look rs r = some R → look rs r' = some R' → r ≠ r' → R.own = true → ∀ k,R.uses k → ¬ R'.uses k
 pers : ∀ p ∈ ps,p.φ w' ∧ (∀ w2,(∀ k,p.D k → w2.heap[k]? = w'.heap[k]?) → p.φ w2) ∧ ∀ k,p.D k → w.heap.size ≤ k ∧ k < w'.heap.size ∧ ∀ r R,look rs r = some R → R.own = true → ¬ R.uses k
def numbered (n : Nat) : List Row → List (Nat × Row)
 | []=>[]
 | R :: l=>(n,R) :: numbered (n + 1) l
def appendL {α : Type} : List α → List α → List α
 | [],m=>m
 | x :: l,m=>x :: appendL l m
theorem look_appendL {α : Type} : ∀ {l m : List (Nat × α)} {i : Nat} {v : α},look (appendL l m) i = some v → look l i = some v ∨ look m i = some v
 | [],_,_,_,h=>.inr h
 | (k,u) :: l,m,i,v,h=>by
  simp only [appendL,look] at h ⊢
  cases hk : Nat.beq k i with
  | true=>rw [hk] at h; exact .inl h
  | false=>rw [hk] at h; exact look_appendL h
theorem look_numbered : ∀ {l : List Row} {n i : Nat} {R : Row},look (numbered n l) i = some R → n ≤ i ∧ i < n + l.length ∧ l[i - n]? = some R
 | [],n,i,R,h=>by simp [numbered,look] at h
 | Q :: l,n,i,R,h=>by
  simp only [numbered,look] at h
  split at h
  ·rename_i e
   cases h
   have:=(beq_iff _ _).1 e
   subst this
   exact ⟨Nat.le_refl _,by simp,by simp⟩
  ·obtain ⟨h1,h2,h3⟩:=look_numbered h
   refine ⟨by omega,by simp; omega,?_⟩
   rw [show i - n = (i - (n + 1)) + 1 by omega]
   simpa using h3
def St.more (s : St) (rows : List Row) (pers : List Pers) : St :=
 { s with rows:=appendL (numbered s.nr rows) s.rows,nr:=s.nr + rows.length,pers:=appendL pers s.pers }
theorem more_le (s : St) (rows : List Row) (pers : List Pers) : s.W.le (s.more rows pers).W:=by
 refine ⟨Nat.le_refl _,Nat.le_add_right _ _,fun r hr R hR=>?_⟩
 have hr' : r < s.nr:=hr
 rcases look_appendL hR with h | h
 ·have:=(look_numbered h).1; omega
 ·exact h
theorem mem_appendL {α : Type} : ∀ {l m : List α} {x : α},x ∈ appendL l m → x ∈ l ∨ x ∈ m
 | [],_,_,h=>.inr h
 | y :: l,m,x,h=>by
  rcases List.mem_cons.1 h with rfl | h
  ·exact .inl (List.mem_cons_self ..)
  ·rcases mem_appendL h with h | h
   ·exact .inl (List.mem_cons_of_mem _ h)
   ·exact .inr h
theorem Sat.more (h : Sat C ρ s a w) {w' : World} (hc : Chg (fun _=>False) w w') {rows : List Row} {pers : List Pers} (hF : Fresh w w' (numbered s.nr rows) pers) : Sat C ρ (s.more rows pers) a w':=by
 have h':=h.below hc
 have hle:=more_le s rows pers
 refine ⟨h'.n,fun i v hv=>⟨(h'.slots i v hv).1,RV.wf_mono hle v (h'.slots i v hv).2⟩,h'.grds,?_,h'.inj,h'.lt,h'.defers,h'.chg,?_,?_,?_,h'.fix⟩
 ·intro b blk hb
  obtain ⟨k1,k2,k3,k4⟩:=h'.heap b blk hb
  exact ⟨k1,k2,fun x hx=>SV.wf_mono hle x (k3 x hx),k4⟩
 ·intro r R hR
  rcases look_appendL hR with hl | hl
  ·obtain ⟨n1,n2,_⟩:=look_numbered hl
   obtain ⟨k1,k2⟩:=hF.rows r R hl
   refine ⟨n2,k1,fun k hk=>⟨(k2 k hk).2,fun b hb=>?_,fun _=>.inl (Nat.le_trans h.chg.size (k2 k hk).1)⟩⟩
   have:=h.lt b hb
   have:=(k2 k hk).1
   omega
  ·obtain ⟨k0,k1,k2⟩:=h'.rows r R hl
   exact ⟨Nat.lt_of_lt_of_le k0 (Nat.le_add_right _ _),k1,k2⟩
 ·intro r r' R R' hR hR' hne ho k hk hk'
  rcases look_appendL hR with hl | hl <;> rcases look_appendL hR' with hl' | hl'
  ·exact hF.rowsD r r' R R' hl hl' hne ho k hk hk'
  ·have:=((hF.rows r R hl).2 k hk).1
   have:=((h.rows r' R' hl').2.2 k hk').1
   omega
  ·have:=((hF.rows r' R' hl').2 k hk').1
   have:=((h.rows r R hl).2.2 k hk).1
   omega
  ·exact h'.rowsD r r' R R' hl hl' hne ho k hk hk'
 ·intro p hp
  rcases mem_appendL hp with hm | hm
  ·obtain ⟨p1,p2,p3⟩:=hF.pers p hm
   refine ⟨p1,p2,fun k hD=>?_⟩
   obtain ⟨u1,u2,u3⟩:=p3 k hD
   refine ⟨u2,fun b hb=>?_,fun r R hR ho hu=>?_⟩
   ·have:=h.lt b hb; omega
   ·rcases look_appendL hR with hl | hl
    ·exact u3 r R hl ho hu
    ·have:=((h.rows r R hl).2.2 k hu).1; omega
  ·obtain ⟨p1,p2,p3⟩:=h'.pers p hm
   obtain ⟨_,_,q3⟩:=h.pers p hm
   refine ⟨p1,p2,fun k hD=>⟨(p3 k hD).1,(p3 k hD).2.1,fun r R hR ho hu=>?_⟩⟩
   rcases look_appendL hR with hl | hl
   ·have:=((hF.rows r R hl).2 k hu).1
    have:=(q3 k hD).1
    omega
   ·exact (p3 k hD).2.2 r R hl ho hu
theorem V.callD (f : FuncId) (xs : List CV) (v : RV) {c : Cfg} (hc : callOf c = some (none,f,xs)) (hent : ∀ args w,(callFunc f args).run C.P w = .ok (.enter f args) w)
  (haf : (afterOp c c.st v).isSome = true) (hv : v.wf c.st.W) (hng : ∀ g pol b x,v ≠ .grd g pol b x)
  (h : ∀ ρ a w,Sat C ρ c.st a w → Calls C.P f (xs.map (CV.den ρ)).toArray w (Gives (v.den ρ) w)) (k : V C (afterD c c.st v)) : V C c :=
 V.call f xs v hc hent (afterD_some haf) hv hng h k
theorem V.callAD (g : Nat) (pol b : Bool) (f : FuncId) (xs : List CV) (x : CV) {c : Cfg} (hc : callOf c = some (some (g,pol,b),f,xs)) (hent : ∀ args w,(callFunc f args).run C.P w = .ok (.enter f args) w)
  (haf : (afterOp c { c.st with gs:=addNat c.st.gs g } (.grd g pol b x)).isSome = true) (hv : x.wf c.st.W)
  (h : b = pol → ∀ ρ a w,Sat C ρ c.st a w → Calls C.P f (xs.map (CV.den ρ)).toArray w (Gives (x.den ρ) w))
  (k : V C (afterD c { c.st with gs:=addNat c.st.gs g } (.grd g pol b x))) : V C c :=
 V.callA g pol b f xs x hc hent (afterD_some haf) hv h k
end
end Go.SX
end
section
namespace Go.SX
open Go
def rowL {α : Type} (f : α → List SV) (d : α) (l : List α) (q : Option Addr) (cap : Nat) (e : TypeId) (sz : Nat) (own : Bool) : Row:=⟨q,l.length,cap,e,sz,fun i=>f (l.getD i d),own,none⟩
def appView (A : App) : Nat × Row × Nat × List SV × Nat:=(A.r,A.R,A.m,A.get 0,A.bytes)
theorem getD_left {α : Type} (l m : List α) (d : α) (i : Nat) (hi : i < l.length) : (l ++ m).getD i d = l.getD i d:=by
 simp [List.getD,List.getElem?_append_left hi]
theorem getD_right {α : Type} (l m : List α) (d : α) (i : Nat) : (l ++ m).getD (l.length + i) d = m.getD i d:=by
 simp [List.getD,List.getElem?_append_right]
section
variable {C : Ctx} {ρ : Nat → Nat} {s : St} {a : Act} {w : World}
theorem V.push {α : Type} (f : α → List SV) (d : α) (l : List α) (x : α) (r : Nat) (q : Option Addr) (cap : Nat) (e : TypeId) (sz : Nat) (xs : List SV) (bytes : Nat) {c : Cfg}
  (hA : (appOf C.P c).map appView = some (r,rowL f d l q cap e sz true,1,xs,bytes)) (hb : (l.length + 1) * bytes ≤ 140737488355328) (hx : f x = xs)
  (haf : ∀ q cap,(afterOp c (c.st.rowTo r (rowL f d (l ++ [x]) q cap e sz true)) (.v (.one (.row c.st.nr q (l ++ [x]).length cap)))).isSome = true)
  (k : ∀ q cap,V C (afterD c (c.st.rowTo r (rowL f d (l ++ [x]) q cap e sz true)) (.v (.one (.row c.st.nr q (l ++ [x]).length cap))))) : V C c:=by
 cases hA' : appOf C.P c with
 | none=>rw [hA'] at hA; cases hA
 | some A =>
  rw [hA'] at hA
  simp only [Option.map_some,appView,Option.some.injEq,Prod.mk.injEq] at hA
  obtain ⟨e1,e2,e3,e4,e5⟩:=hA
  have hlen : (l ++ [x]).length = l.length + 1:=by simp
  have hrow : ∀ q cap,A.R.next q A.m cap (fun i=>f ((l ++ [x]).getD i d)) = rowL f d (l ++ [x]) q cap e sz true:=by
   intro q cap
   rw [e2,e3]
   simp only [Row.next,rowL,hlen]
  have hn : A.R.n + A.m = (l ++ [x]).length:=by rw [e2,e3,hlen]; rfl
  refine V.append A (fun i=>f ((l ++ [x]).getD i d)) hA' (by rw [e2,e3,e5]; exact hb) ?_ ?_ ?_ ?_
  ·intro i hi
   rw [e2] at hi ⊢
   have hi' : i < l.length:=hi
   show f ((l ++ [x]).getD i d) = f (l.getD i d)
   rw [getD_left _ _ _ _ hi']
  ·intro i hi
   rw [e3] at hi
   have : i = 0:=by omega
   subst this
   rw [e2,e4,← hx]
   show f ((l ++ [x]).getD (l.length + 0) d) = f x
   rw [getD_right]; rfl
  ·intro q cap; rw [e1,hrow,hn]; exact haf q cap
  ·intro q cap; rw [e1,hrow,hn]; exact k q cap
theorem V.nilL {α : Type} (f : α → List SV) (d : α) (t : Nat) (e : TypeId) (sz : Nat) {c : Cfg} (hl : look c.st.slots t = some (.v (.one (.val (.slice none 0 0))))) (hg : hasNat c.st.gs t = false)
  (h : V C ⟨c.todo,{ c.st with slots:=upd c.st.slots t (.v (.one (.row c.st.nr none 0 0))),rows:=(c.st.nr,rowL f d [] none 0 e sz true) :: c.st.rows,nr:=c.st.nr + 1 }⟩) : V C c :=
 V.nil t e sz (fun i=>f (([] : List α).getD i d)) hl hg h
def bsv (b : UInt8) : List SV:=[.int .u8 (b.toNat : Int)]
theorem V.toStr (l : List UInt8) (r : Nat) (q : Option Addr) (cap : Nat) (e : TypeId) (own : Bool) {c : Cfg} (hc : bytesOf C.P c = some (r,rowL bsv 0 l q cap e 1 own))
  (haf : (afterOp c c.st (.v (.one (.str l)))).isSome = true) (k : V C (afterD c c.st (.v (.one (.str l))))) : V C c :=
 V.bytes r _ l hc rfl (fun _ _=>rfl) haf k
end
end Go.SX
end
section
namespace Go.SX
open Go
structure FSat (ρ : Nat → Nat) (F : St) (w : World) : Prop where
 heap : ∀ b blk,look F.heap b = some blk → b < F.next ∧ w.heap[ρ b]? = some (.cells (blk.cells.map (SV.den ρ)).toArray blk.elem (0,0)) ∧ (∀ x ∈ blk.cells,x.wf F.W)
 inj : ∀ b c,b < F.next → c < F.next → ρ b = ρ c → b = c
 lt : ∀ b,b < F.next → ρ b < w.heap.size
 rows : ∀ r R,look F.rows r = some R → r < F.nr ∧ R.ok w ∧ ∀ k,R.uses k → k < w.heap.size ∧ (∀ b,b < F.next → ρ b ≠ k)
 rowsD : ∀ r r' R R',look F.rows r = some R → look F.rows r' = some R' → r ≠ r' → R.own = true → ∀ k,R.uses k → ¬ R'.uses k
 pers : ∀ p ∈ F.pers,p.φ w ∧ (∀ w',(∀ k,p.D k → w'.heap[k]? = w.heap[k]?) → p.φ w') ∧
  ∀ k,p.D k → k < w.heap.size ∧ (∀ b,b < F.next → ρ b ≠ k) ∧ ∀ r R,look F.rows r = some R → R.own = true → ¬ R.uses k
def touch (ρ : Nat → Nat) (F : St) (k : Nat) : Prop :=
 (∃ b blk,look F.heap b = some blk ∧ blk.rw = true ∧ ρ b = k) ∨ ∃ r R,look F.rows r = some R ∧ R.own = true ∧ R.uses k
def usesAny (F : St) (k : Nat) : Prop:=∃ r R,look F.rows r = some R ∧ R.uses k
theorem Sat.toF {C : Ctx} {ρ : Nat → Nat} {s : St} {a : Act} {w : World} (h : Sat C ρ s a w) : FSat ρ s w :=
 ⟨fun b blk hb=>⟨(h.heap b blk hb).1,(h.heap b blk hb).2.1,(h.heap b blk hb).2.2.1⟩,h.inj,h.lt,fun r R hR=>⟨(h.rows r R hR).1,(h.rows r R hR).2.1,fun k hk=>⟨((h.rows r R hR).2.2 k hk).1,((h.rows r R hR).2.2 k hk).2.1⟩⟩,h.rowsD,h.pers⟩
def SV.bring (hs : List Nat) (nr : Nat) : SV → SV
 | .ptr b off=>.ptr (hs.getD b 0) off
 | .fn f cap=>.fn f (cap.map fun b=>hs.getD b 0)
 | .sli b n cap=>.sli (hs.getD b 0) n cap
 | .row r q n cap=>.row (nr + r) q n cap
 | .el r q size i j=>.el (nr + r) q size i j
 | x=>x
def CV.bring (hs : List Nat) (nr : Nat) : CV → CV
 | .one x=>.one (x.bring hs nr)
 | .agg xs=>.agg (xs.map (SV.bring hs nr))
def RV.bring (hs : List Nat) (nr : Nat) : RV → RV
 | .v x=>.v (x.bring hs nr)
 | .tup xs=>.tup (xs.map (CV.bring hs nr))
 | .grd g pol c x=>.grd g pol c (x.bring hs nr)
def bringHeap (hs : List Nat) (nr : Nat) (hp : List (Nat × Blk)) : List (Nat × Blk) → List (Nat × Blk)
 | []=>hp
 | (b,blk) :: l=>upd (bringHeap hs nr hp l) (hs.getD b 0) ⟨blk.cells.map (SV.bring hs nr),blk.elem,blk.rw⟩
def bringRows (nr : Nat) (rows : List (Nat × Row)) : List (Nat × Row) → List (Nat × Row)
 | []=>rows
 | (r,R) :: l=>(nr + r,R) :: bringRows nr rows l
def eraseAll {α : Type} (rs : List Nat) : List (Nat × α) → List (Nat × α)
 | []=>[]
 | (k,v) :: l=>match hasNat rs k with
  | true=>eraseAll rs l
  | false=>(k,v) :: eraseAll rs l
def noKeyDup : List (Nat × Blk) → Bool
 | []=>true
 | (b,_) :: l=>match look l b with
  | some _=>false
  | none=>noKeyDup l
theorem SV.bring_den {ρ : Nat → Nat} {hs : List Nat} {nr : Nat} (x : SV) : (x.bring hs nr).den ρ = x.den (fun i=>ρ (hs.getD i 0)):=by
 cases x with
 | fn f cap=>simp only [SV.bring,SV.den,List.map_map]; rfl
 | _=>rfl
theorem SV.bring_map {ρ : Nat → Nat} {hs : List Nat} {nr : Nat} (xs : List SV) : (xs.map (SV.bring hs nr)).map (SV.den ρ) = xs.map (SV.den (fun i=>ρ (hs.getD i 0))):=by
 rw [List.map_map]; exact List.map_congr_left fun x _=>SV.bring_den x
theorem CV.bring_den {ρ : Nat → Nat} {hs : List Nat} {nr : Nat} (x : CV) : (x.bring hs nr).den ρ = x.den (fun i=>ρ (hs.getD i 0)):=by
 cases x with
 | one x=>exact SV.bring_den x
 | agg xs=>simp only [CV.bring,CV.den,SV.bring_map]
theorem RV.bring_den {ρ : Nat → Nat} {hs : List Nat} {nr : Nat} (x : RV) : (x.bring hs nr).den ρ = x.den (fun i=>ρ (hs.getD i 0)):=by
 cases x with
 | v x=>exact CV.bring_den x
 | tup xs=>simp only [RV.bring,RV.den,List.map_map]; congr 2; exact List.map_congr_left fun x _=>CV.bring_den x
 | grd g pol c x=>simp only [RV.bring,RV.den,CV.bring_den]
section
variable {W W' : WF} {hs : List Nat} {nr : Nat} (hn : ∀ b,b < W.n → hs.getD b 0 < W'.n) (hr : nr + W.nr ≤ W'.nr) (hrows : ∀ r R,look W'.rows (nr + r) = some R → look W.rows r = some R)
include hn hr hrows
theorem SV.bring_wf (x : SV) (h : x.wf W) : (x.bring hs nr).wf W':=by
 cases x with
 | ptr b off=>exact hn b h
 | fn f cap=>intro c hc; obtain ⟨b,hb,rfl⟩:=List.mem_map.1 hc; exact hn b (h b hb)
 | sli b n cap=>exact hn b h
 | row r q n cap=>exact ⟨by have:=h.1; omega,fun R hR=>h.2 R (hrows r R hR)⟩
 | el r q size i j=>exact ⟨by have:=h.1; omega,fun R hR=>h.2 R (hrows r R hR)⟩
 | _=>trivial
theorem CV.bring_wf (x : CV) (h : x.wf W) : (x.bring hs nr).wf W':=by
 cases x with
 | one x=>exact SV.bring_wf hn hr hrows x h
 | agg xs=>intro y hy; obtain ⟨z,hz,rfl⟩:=List.mem_map.1 hy; exact SV.bring_wf hn hr hrows z (h z hz)
theorem RV.bring_wf (x : RV) (h : x.wf W) : (x.bring hs nr).wf W':=by
 cases x with
 | v x=>exact CV.bring_wf hn hr hrows x h
 | tup xs=>intro y hy; obtain ⟨z,hz,rfl⟩:=List.mem_map.1 hy; exact CV.bring_wf hn hr hrows z (h z hz)
 | grd g pol c x=>exact fun hc=>CV.bring_wf hn hr hrows x (h hc)
end
theorem look_eraseAll {α : Type} {rs : List Nat} : ∀ {l : List (Nat × α)} {i : Nat} {v : α},look (eraseAll rs l) i = some v → i ∉ rs ∧ look l i = some v
 | [],i,v,h=>by simp [eraseAll,look] at h
 | (k,u) :: l,i,v,h=>by
  simp only [eraseAll] at h
  cases hk : hasNat rs k with
  | true =>
   rw [hk] at h
   obtain ⟨h1,h2⟩:=look_eraseAll h
   refine ⟨h1,?_⟩
   simp only [look]
   cases hi : Nat.beq k i with
   | true=>have:=(beq_iff _ _).1 hi; subst this; exact absurd ((hasNat_mem rs k).1 hk) h1
   | false=>exact h2
  | false =>
   rw [hk] at h
   simp only [look] at h ⊢
   cases hi : Nat.beq k i with
   | true =>
    rw [hi] at h
    have:=(beq_iff _ _).1 hi
    subst this
    exact ⟨fun hm=>(by rw [(hasNat_mem rs k).2 hm] at hk; cases hk),h⟩
   | false=>rw [hi] at h; exact look_eraseAll h
theorem look_bringRows {nr : Nat} {rows : List (Nat × Row)} : ∀ {l : List (Nat × Row)} {i : Nat} {R : Row},look (bringRows nr rows l) i = some R → (∃ r,i = nr + r ∧ look l r = some R) ∨ look rows i = some R
 | [],i,R,h=>.inr h
 | (r,Q) :: l,i,R,h=>by
  simp only [bringRows,look] at h
  split at h
  ·rename_i e
   cases h
   exact .inl ⟨r,((beq_iff _ _).1 e).symm,by simp [look,Nat.beq_refl]⟩
  ·rename_i e
   rcases look_bringRows h with ⟨r',h1,h2⟩ | h2
   ·refine .inl ⟨r',h1,?_⟩
    simp only [look]
    cases hb : Nat.beq r r' with
    | true=>have:=(beq_iff _ _).1 hb; subst this; exact absurd h1.symm (beq_false e)
    | false=>exact h2
   ·exact .inr h2
theorem look_bringRows_left {nr : Nat} {rows : List (Nat × Row)} : ∀ {l : List (Nat × Row)} {r : Nat} {R : Row},look (bringRows nr rows l) (nr + r) = some R → (∀ R',look rows (nr + r) ≠ some R') → look l r = some R
 | [],r,R,h,hno=>absurd h (hno R)
 | (q,Q) :: l,r,R,h,hno=>by
  simp only [bringRows,look] at h ⊢
  cases hb : Nat.beq q r with
  | true =>
   have:=(beq_iff _ _).1 hb
   subst this
   rw [Nat.beq_refl] at h
   exact h
  | false =>
   have : Nat.beq (nr + q) (nr + r) = false:=by
    cases hc : Nat.beq (nr + q) (nr + r) with
    | true=>have:=(beq_iff _ _).1 hc; exact absurd (by omega) (beq_false hb)
    | false=>rfl
   rw [this] at h
   exact look_bringRows_left h hno
theorem look_bringHeap {hs : List Nat} {nr : Nat} {hp : List (Nat × Blk)} : ∀ {l : List (Nat × Blk)} {i : Nat} {blk : Blk},look (bringHeap hs nr hp l) i = some blk →
  (∃ b blk0,hs.getD b 0 = i ∧ (b,blk0) ∈ l ∧ blk = ⟨blk0.cells.map (SV.bring hs nr),blk0.elem,blk0.rw⟩) ∨ (look hp i = some blk ∧ ∀ b blk0,(b,blk0) ∈ l → hs.getD b 0 ≠ i)
 | [],i,blk,h=>.inr ⟨h,by simp⟩
 | (b,blk1) :: l,i,blk,h=>by
  simp only [bringHeap,look_upd] at h
  by_cases e : hs.getD b 0 = i
  ·rw [if_pos e] at h
   cases h
   exact .inl ⟨b,blk1,e,List.mem_cons_self ..,rfl⟩
  ·rw [if_neg e] at h
   rcases look_bringHeap h with ⟨b',blk0,h1,h2,h3⟩ | ⟨h1,h2⟩
   ·exact .inl ⟨b',blk0,h1,List.mem_cons_of_mem _ h2,h3⟩
   ·refine .inr ⟨h1,fun b' blk0 hm=>?_⟩
    rcases List.mem_cons.1 hm with h | h
    ·cases h; exact e
    ·exact h2 b' blk0 h
theorem look_mem {α : Type} : ∀ {l : List (Nat × α)} {b : Nat} {v : α},look l b = some v → (b,v) ∈ l
 | (k,u) :: l,b,v,h=>by
  simp only [look] at h
  cases hk : Nat.beq k b with
  | true=>rw [hk] at h; cases h; have:=(beq_iff _ _).1 hk; subst this; exact List.mem_cons_self ..
  | false=>rw [hk] at h; exact List.mem_cons_of_mem _ (look_mem h)
theorem noKeyDup_ok : ∀ {l : List (Nat × Blk)},noKeyDup l = true → ∀ b v,(b,v) ∈ l → look l b = some v
 | (k,u) :: l,h,b,v,hm=>by
  simp only [noKeyDup] at h
  split at h
  ·cases h
  ·rename_i hno
   simp only [look]
   rcases List.mem_cons.1 hm with he | hm'
   ·cases he; rw [Nat.beq_refl]
   ·cases hk : Nat.beq k b with
    | true =>
     have:=(beq_iff _ _).1 hk
     subst this
     have:=noKeyDup_ok h k v hm'
     rw [hno] at this; cases this
    | false=>exact noKeyDup_ok h b v hm'
section
variable {C : Ctx} {ρ : Nat → Nat} {s : St} {a : Act} {w w' : World}
end
end Go.SX
end
section
namespace Go.SX
open Go
def stF (n : Nat) (xs : List CV) (F : St) (wr : Bool) : St :=
 { n:=n,slots:=enum xs 0,gs:=[],heap:=F.heap,next:=F.next,rows:=F.rows,nr:=F.nr,pers:=F.pers,wr:=wr,fx:=F.next }
theorem Calls.of_F {P : Program} {f : FuncId} {fn : Func} {R : Ending → World → Prop} {w : World} {ρ : Nat → Nat} {F : St} (hF : FSat ρ F w) (xs : List CV) (wr : Bool)
  (hf : P.funcs[f]? = some fn) (hb : fn.body.isSome = true) (hle : Nat.ble xs.length fn.ntmps = true) (hw : ∀ x ∈ xs,x.wf F.W)
  (h : V ⟨P,f,R,touch ρ F,w,ρ,none⟩ ⟨[.code (bodyOf fn)],stF fn.ntmps xs F wr⟩) : Calls P f (xs.map (CV.den ρ)).toArray w R:=by
 refine Calls.of_V (touch ρ F) ρ ρ xs (stF fn.ntmps xs F wr) hf hb hle (fun a h1 h2 h3=>?_) h
 refine ⟨h1,?_,?_,?_,hF.inj,hF.lt,h2,Chg.refl _ _,?_,hF.rowsD,hF.pers,fun b hb=>⟨hb,rfl⟩⟩
 ·intro i v hv
  obtain ⟨x,rfl,_,hx⟩:=look_enum xs 0 i v hv
  exact ⟨h3 i x (by simpa using hx),hw x (List.mem_of_getElem? hx)⟩
 ·intro i g pol c x hv
  obtain ⟨y,e,_⟩:=look_enum xs 0 i _ hv
  cases e
 ·intro b blk hb
  obtain ⟨k1,k2,k3⟩:=hF.heap b blk hb
  exact ⟨k1,k2,k3,fun hrw=>.inr (.inl ⟨b,blk,hb,hrw,rfl⟩)⟩
 ·intro r R hR
  obtain ⟨k1,k2,k3⟩:=hF.rows r R hR
  exact ⟨k1,k2,fun k hk=>⟨(k3 k hk).1,(k3 k hk).2,fun ho=>.inr (.inr ⟨r,R,hR,ho,hk⟩)⟩⟩
def ownAll : List (Nat × Row) → Bool
 | []=>true
 | (_,R) :: l=>match R.own with
  | true=>ownAll l
  | false=>false
theorem ownAll_ok : ∀ {l : List (Nat × Row)} {r : Nat} {R : Row},ownAll l = true → look l r = some R → R.own = true
 | (k,Q) :: l,r,R,h,hl=>by
  simp only [ownAll] at h
  split at h
  ·rename_i ho
   simp only [look] at hl
   split at hl
   ·cases hl; exact ho
   ·exact ownAll_ok h hl
  ·cases h
def rwLe (hp0 : List (Nat × Blk)) : List (Nat × Blk) → Bool
 | []=>true
 | (b,blk) :: l=>match blk.rw with
  | false=>rwLe hp0 l
  | true=>match look hp0 b with
   | some blk0=>match blk0.rw with
    | true=>rwLe hp0 l
    | false=>false
   | none=>false
def told : Nat → List (Nat × Blk) → Bool
 | 0,_=>true
 | n + 1,hp=>match look hp n with
  | some _=>told n hp
  | none=>false
theorem told_ok : ∀ {n : Nat} {hp : List (Nat × Blk)} {b : Nat},told n hp = true → b < n → ∃ blk,look hp b = some blk
 | n + 1,hp,b,h,hb=>by
  simp only [told] at h
  split at h
  ·rename_i blk hl
   by_cases e : b = n
   ·subst e; exact ⟨blk,hl⟩
   ·exact told_ok h (by omega)
  ·cases h
def upto : Nat → Nat → List Nat
 | 0,_=>[]
 | n + 1,i=>i :: upto n (i + 1)
theorem upto_get : ∀ {n i b : Nat},b < n → (upto n i)[b]? = some (i + b)
 | n + 1,i,b,h=>by
  cases b with
  | zero=>simp [upto]
  | succ b=>simp only [upto,List.getElem?_cons_succ]; rw [upto_get (show b < n by omega)]; congr 1; omega
def fragOf (s : St) : List (Nat × Blk) × Nat × List (Nat × Row) × Nat:=(s.heap,s.next,s.rows,s.nr)
section
variable {C : Ctx} {ρ : Nat → Nat} {s : St} {a : Act} {w : World}
end
end Go.SX
end
section
namespace Go.SX
open Go
open Go.ChangeMaps (setBlock)
def objRow (g : Nat) (o : Obj) : Row:=⟨some ⟨g,0,none⟩,0,0,0,0,fun _=>[],true,some o⟩
theorem objRow_ok {w : World} {g : Nat} {o : Obj} (h : w.heap[g]? = some o) : (objRow g o).ok w :=
 ⟨fun _ hi=>absurd hi (Nat.not_lt_zero _),fun hp=>absurd hp (Nat.lt_irrefl _),fun _ hn=>(by cases hn),fun o' ho=>(by cases ho; exact ⟨g,rfl,h⟩)⟩
theorem objRow_uses {g k : Nat} {o : Obj} : (objRow g o).uses k ↔ g = k :=
 ⟨fun ⟨_,h1,h2,_⟩=>(by cases h1; exact h2),fun e=>⟨⟨g,0,none⟩,rfl,e,.inl rfl⟩⟩
def St.addObj (s : St) (g : Nat) (o : Obj) : St:={ s with rows:=(s.nr,objRow g o) :: s.rows,nr:=s.nr + 1 }
def St.setObj (s : St) (r g : Nat) (o : Obj) : St:={ s with rows:=upd s.rows r (objRow g o) }
theorem setBlock_other (w : World) (g k : Nat) (o : Obj) (h : g ≠ k) : (setBlock w g o).heap[k]? = w.heap[k]?:=by
 simp [setBlock,h]
theorem setBlock_same (w : World) (g : Nat) (o : Obj) (h : g < w.heap.size) : (setBlock w g o).heap[g]? = some o:=by
 simp [setBlock,h]
theorem setBlock_size (w : World) (g : Nat) (o : Obj) : (setBlock w g o).heap.size = w.heap.size:=by simp [setBlock]
section
variable {C : Ctx} {ρ : Nat → Nat} {s : St} {a : Act} {w : World}
theorem Sat.newObj (h : Sat C ρ s a w) (o : Obj) : Sat C ρ (s.addObj w.heap.size o) a (w.alloc o):=by
 have hc : Chg (fun _=>False) w (w.alloc o):=Chg.alloc _ w o
 have h':=h.below hc
 have hlt : ∀ r R,look s.rows r = some R → r < s.nr:=fun r R hR=>(h.rows r R hR).1
 have hle : s.W.le (s.addObj w.heap.size o).W:=by
  refine ⟨Nat.le_refl _,Nat.le_succ _,fun r hr R hR=>?_⟩
  have hr' : r < s.nr:=hr
  simp only [St.addObj,St.W,look] at hR
  split at hR
  ·rename_i e; have:=(beq_iff _ _).1 e; omega
  ·exact hR
 refine ⟨h'.n,fun i v hv=>⟨(h'.slots i v hv).1,RV.wf_mono hle v (h'.slots i v hv).2⟩,h'.grds,?_,h'.inj,h'.lt,h'.defers,h'.chg,?_,?_,?_,h'.fix⟩
 ·intro b blk hb
  obtain ⟨k1,k2,k3,k4⟩:=h'.heap b blk hb
  exact ⟨k1,k2,fun x hx=>SV.wf_mono hle x (k3 x hx),k4⟩
 ·intro r R hR
  simp only [St.addObj,look] at hR
  split at hR
  ·rename_i e'
   cases hR
   have:=(beq_iff _ _).1 e'
   refine ⟨by show r < s.nr + 1; omega,objRow_ok (heap_alloc_new w o),fun k hk=>?_⟩
   have hk:=objRow_uses.1 hk
   subst hk
   exact ⟨by simp only [World.size_alloc]; omega,fun b hb e=>by have:=h.lt b hb; omega,fun _=>.inl h.chg.size⟩
  ·obtain ⟨k0,k1,k2⟩:=h'.rows r R hR
   exact ⟨by show r < s.nr + 1; omega,k1,k2⟩
 ·intro r1 r2 R1 R2 h1 h2 hne ho k hk1 hk2
  simp only [St.addObj,look] at h1 h2
  split at h1
  ·rename_i e1
   cases h1
   have:=objRow_uses.1 hk1
   subst this
   split at h2
   ·rename_i e2; exact hne (((beq_iff _ _).1 e1).symm.trans ((beq_iff _ _).1 e2))
   ·have:=((h.rows r2 R2 h2).2.2 _ hk2).1; omega
  ·split at h2
   ·cases h2
    have:=objRow_uses.1 hk2
    subst this
    have:=((h.rows r1 R1 h1).2.2 _ hk1).1; omega
   ·exact h'.rowsD r1 r2 R1 R2 h1 h2 hne ho k hk1 hk2
 ·intro p hp
  obtain ⟨p1,p2,p3⟩:=h'.pers p hp
  refine ⟨p1,p2,fun k hD=>⟨(p3 k hD).1,(p3 k hD).2.1,fun r R hR ho hu=>?_⟩⟩
  simp only [St.addObj,look] at hR
  split at hR
  ·cases hR
   have:=objRow_uses.1 hu
   subst this
   obtain ⟨_,_,q3⟩:=h.pers p hp
   have:=(q3 _ hD).1; omega
  ·exact (p3 k hD).2.2 r R hR ho hu
theorem Sat.setObj (h : Sat C ρ s a w) {r g : Nat} {o : Obj} (hr : look s.rows r = some (objRow g o)) (o' : Obj) : Sat C ρ (s.setObj r g o') a (setBlock w g o'):=by
 obtain ⟨hr0,hok,huse⟩:=h.rows r _ hr
 have hg:=huse g (objRow_uses.2 rfl)
 have hother : ∀ k,g ≠ k → (setBlock w g o').heap[k]? = w.heap[k]?:=fun k hk=>setBlock_other w g k o' hk
 have hlk : ∀ q R',look (upd s.rows r (objRow g o')) q = some R' → (q = r ∧ R' = objRow g o') ∨ (q ≠ r ∧ look s.rows q = some R'):=by
  intro q R' hq
  rw [look_upd] at hq
  by_cases e : r = q
  ·rw [if_pos e] at hq; cases hq; exact .inl ⟨e.symm,rfl⟩
  ·rw [if_neg e] at hq; exact .inr ⟨fun e'=>e e'.symm,hq⟩
 have hwf : ∀ x : SV,x.wf s.W → x.wf (s.setObj r g o').W:=by
  intro x hx
  cases x with
  | row q p n cap =>
   refine ⟨hx.1,fun R' hR'=>?_⟩
   rcases hlk q R' hR' with ⟨e1,e2⟩ | ⟨_,e2⟩
   ·subst e1; subst e2; have:=hx.2 (objRow g o) hr; exact this
   ·exact hx.2 R' e2
  | el q p size i j =>
   refine ⟨hx.1,fun R' hR'=>?_⟩
   rcases hlk q R' hR' with ⟨e1,e2⟩ | ⟨_,e2⟩
   ·subst e1; subst e2; have:=hx.2 (objRow g o) hr; exact this
   ·exact hx.2 R' e2
  | ptr b off=>exact hx
  | fn f cap=>exact hx
  | sli b n cap=>exact hx
  | _=>trivial
 have hwr : ∀ v : RV,v.wf s.W → v.wf (s.setObj r g o').W:=by
  have hcv : ∀ y : CV,y.wf s.W → y.wf (s.setObj r g o').W:=by
   intro y hy
   cases y with
   | one x=>exact hwf x hy
   | agg xs=>exact fun x hx=>hwf x (hy x hx)
  intro v hv
  cases v with
  | v x=>exact hcv x hv
  | tup xs=>exact fun y hy=>hcv y (hv y hy)
  | grd g' pol c x=>exact fun hc=>hcv x (hv hc)
 refine ⟨h.n,fun i v hv=>⟨(h.slots i v hv).1,hwr v (h.slots i v hv).2⟩,h.grds,?_,h.inj,fun b hb=>by rw [setBlock_size]; exact h.lt b hb,h.defers,?_,?_,?_,?_,h.fix⟩
 ·intro b blk hb
  obtain ⟨k1,k2,k3,k4⟩:=h.heap b blk hb
  exact ⟨k1,by rw [hother _ (fun e=>hg.2.1 b k1 e.symm)]; exact k2,fun x hx=>hwf x (k3 x hx),k4⟩
 ·refine ⟨h.chg.os,h.chg.tape,h.chg.output,by rw [setBlock_size]; exact h.chg.size,fun k hk hS=>?_⟩
  rw [hother k (fun e=>?_)]
  ·exact h.chg.block k hk hS
  ·rcases hg.2.2 rfl with q | q
   ·omega
   ·exact hS (e ▸ q)
 ·intro q R' hq
  rcases hlk q R' hq with ⟨rfl,rfl⟩ | ⟨e1,e2⟩
  ·refine ⟨hr0,objRow_ok (setBlock_same w g o' hg.1),fun k hk=>?_⟩
   have:=objRow_uses.1 hk
   subst this
   exact ⟨by rw [setBlock_size]; exact hg.1,hg.2⟩
  ·obtain ⟨k0,k1,k2⟩:=h.rows q R' e2
   refine ⟨k0,k1.congr (fun k hk=>hother k (fun e=>?_)),fun k hk=>⟨by rw [setBlock_size]; exact (k2 k hk).1,(k2 k hk).2⟩⟩
   subst e
   exact h.rowsD r q _ R' hr e2 (fun e=>e1 e.symm) rfl g (objRow_uses.2 rfl) hk
 ·intro r1 r2 R1 R2 h1 h2 hne ho k hk1 hk2
  rcases hlk r1 R1 h1 with ⟨rfl,rfl⟩ | ⟨e1,e2⟩ <;> rcases hlk r2 R2 h2 with ⟨rfl,rfl⟩ | ⟨e3,e4⟩
  ·exact hne rfl
  ·exact h.rowsD r1 r2 _ R2 hr e4 hne rfl k (objRow_uses.2 (objRow_uses.1 hk1)) hk2
  ·exact h.rowsD r1 r2 R1 _ e2 hr hne ho k hk1 (objRow_uses.2 (objRow_uses.1 hk2))
  ·exact h.rowsD r1 r2 R1 R2 e2 e4 hne ho k hk1 hk2
 ·intro p hp
  obtain ⟨p1,p2,p3⟩:=h.pers p hp
  have hk : ∀ k,p.D k → (setBlock w g o').heap[k]? = w.heap[k]?:=fun k hD=>hother k (fun e=>by
   subst e; exact (p3 g hD).2.2 r _ hr rfl (objRow_uses.2 rfl))
  refine ⟨p2 _ hk,fun w2 hw2=>p2 w2 (fun k hD=>(hw2 k hD).trans (hk k hD)),fun k hD=>⟨by rw [setBlock_size]; exact (p3 k hD).1,(p3 k hD).2.1,fun q R' hq ho hu=>?_⟩⟩
  rcases hlk q R' hq with ⟨rfl,rfl⟩ | ⟨_,e2⟩
  ·exact (p3 k hD).2.2 _ _ hr rfl (objRow_uses.2 (objRow_uses.1 hu))
  ·exact (p3 k hD).2.2 q R' e2 ho hu
def headOp (c : Cfg) : Option Op :=
 match c.todo with
 | .inRegion ops (i :: _) :: _=>match ops[i]? with
  | some o=>match grdOf c.st ops o.guard with
   | .yes=>some o.op
   | _=>none
  | none=>none
 | _=>none
theorem V.opM {c : Cfg} {op : Op} (hc : headOp c = some op)
  (h : ∀ ρ a w (o : Oper),o.op = op → Sat C ρ c.st a w → ∃ ρ' v w' s1,(execOp a.eval o).run C.P w = .ok (.value (v.den ρ')) w' ∧ Sat C ρ' s1 a w' ∧ v.wf s1.W ∧
   (∀ g pol b x,v ≠ .grd g pol b x) ∧ ∃ c',afterOp c s1 v = some c' ∧ V C c') : V C c:=by
 intro ρ a w hS
 obtain ⟨todo,st⟩:=c
 unfold headOp at hc
 simp only at hc h hS ⊢
 split at hc
 ·rename_i ops i l k
  split at hc
  ·rename_i o ho
   split at hc
   ·rename_i hg
    obtain ⟨ρ',v,w',s1,h1,h2,h3,h4,c',haf,hV⟩:=h ρ a w o (Option.some.inj hc) hS
    refine Ok.op_value ho (grd_yes hS hg) h1 ?_
    simp only [afterOp,ho] at haf
    split at haf
    ·rename_i s' hput
     cases haf
     exact hV ρ' _ _ (h2.put hput h3 (fun g pol b x e=>absurd e (h4 g pol b x)))
    ·cases haf
   ·cases hc
  ·cases hc
 ·cases hc
end
end Go.SX
end
section
namespace Go.SX
open Go
def entersB (P : Program) (f : FuncId) : Bool :=
 match P.funcs[f]? with
 | some fn=>fn.body.isSome && !(fn.name == "runtime.NumGoroutine")
 | none=>false
theorem enters {P : Program} {f : FuncId} (h : entersB P f = true) (args : Array Value) (w : World) : (callFunc f args).run P w = .ok (.enter f args) w:=by
 unfold entersB at h
 split at h
 ·rename_i fn hf
  rw [Bool.and_eq_true] at h
  obtain ⟨h1,h2⟩:=h
  have h2' : ¬ fn.name = "runtime.NumGoroutine":=by simpa using h2
  have h1' : ¬ fn.body = none:=by intro e; rw [e] at h1; cases h1
  unfold callFunc
  have : (program : Sem Program).run P w = .ok P w:=rfl
  rw [Sem.run_bind,this]
  simp [hf,h2',h1']
 ·cases h
def plainC : CV → Bool
 | .one x=>plainB x
 | .agg xs=>xs.all plainB
def plainR : RV → Bool
 | .v x=>plainC x
 | .tup xs=>xs.all plainC
 | .grd _ _ _ _=>false
theorem plainC_wf {x : CV} (h : plainC x = true) (W : WF) : x.wf W:=by
 cases x with
 | one x=>exact SV.plain_wf (plainB_ok h) W
 | agg xs=>intro y hy; exact SV.plain_wf (plainB_ok (List.all_eq_true.1 h y hy)) W
theorem plainR_wf {x : RV} (h : plainR x = true) (W : WF) : x.wf W ∧ ∀ g pol b y,x ≠ .grd g pol b y:=by
 cases x with
 | v x=>exact ⟨plainC_wf h W,by simp⟩
 | tup xs=>exact ⟨fun y hy=>plainC_wf (List.all_eq_true.1 h y hy) W,by simp⟩
 | grd=>cases h
def ngB : RV → Bool
 | .grd _ _ _ _=>false
 | _=>true
theorem and3 {a b c : Bool} (h : (a && (b && c)) = true) : a = true ∧ b = true ∧ c = true:=by simpa [Bool.and_eq_true] using h
section
variable {C : Ctx}
end
end Go.SX
end
section
namespace Go.SX
open Go
theorem rowTo_wf (s : St) (r : Nat) (R : Row) (q : Option Addr) (m cap : Nat) (get : Nat → List SV) : (RV.v (.one (.row s.nr q (R.n + m) cap))).wf (s.rowTo r (R.next q m cap get)).W:=by
 refine ⟨Nat.lt_succ_self _,fun R' hR=>?_⟩
 simp only [St.rowTo,St.W,look,Nat.beq_refl] at hR
 cases hR
 exact ⟨rfl,rfl,rfl⟩
section
variable {C : Ctx} {D : Held} {ops : Array Oper} {k : List Item}
theorem VD.append (i : Nat) (A : App) (get : Nat → List SV) {o : Oper} {cl : Call} {d : DCfg} {n : Nat} (hr : Region.ready .any ops d.listed = [i]) (hf : d.fuel = n + 1) (ho : ops[i]? = some o) (hg : grdOf d.st ops o.guard = .yes)
  (hcl : callAt o = some cl) (hA : appS C.P d.st cl = some A) (hb : (A.R.n + A.m) * A.bytes ≤ 140737488355328)
  (h1 : ∀ i,i < A.R.n → get i = A.R.get i) (h2 : ∀ i,i < A.m → get (A.R.n + i) = A.get i) (hTS : ∀ k,A.R.uses k → D.TS k)
  (hst : ∀ q cap,((d.st.rowTo A.r (A.R.next q A.m cap get)).put o.dst (.v (.one (.row d.st.nr q (A.R.n + A.m) cap)))).isSome = true)
  (h : ∀ q cap s',(d.st.rowTo A.r (A.R.next q A.m cap get)).put o.dst (.v (.one (.row d.st.nr q (A.R.n + A.m) cap))) = some s' → VD C D ops k ⟨n,d.listed.setIfInBounds i true,s'⟩) : VD C D ops k d:=by
 intro ρ a w hS hρ hn hc hclo hsz
 have hi : i ∈ Region.ready .any ops d.listed:=by rw [hr]; simp
 rw [hf]
 refine wpAnyE_all hr (by simp) (fun j hj=>?_)
 have : j = i:=by simpa using hj
 subst this
 have hop : o.op = .call cl:=by
  unfold callAt at hcl
  split at hcl
  ·rename_i e; cases hcl; exact e
  ·cases hcl
 obtain ⟨q,cap,w',hrun,hS',hch,_⟩:=append_run (ty:=o.type) hS hA hb get h1 h2
 obtain ⟨s',hs'⟩:=Option.isSome_iff_exists.1 (hst q cap)
 have hc2 : Chg D.TS D.ws w':=hc.trans hch (fun k hk=>.inr (hTS k hk))
 unfold wpOp
 simp only [ho,grd_yes hS hg,if_true]
 refine .inl ?_
 unfold Oper.wp execOp
 rw [hop]
 simp only
 rw [hrun]
 refine ⟨fun _=>hc2,h q cap s' hs' ρ _ w' (hS'.put hs' (rowTo_wf ..) (fun g pol b x e=>by cases e)) hρ ?_ hc2 (hclo.set hi) (by simpa using hsz)⟩
 show D.n0 ≤ s'.next
 rw [put_next hs']; exact hn
end
end Go.SX
end
section
namespace Go.SX
open Go
def stepDM (P : Program) (ops : Array Oper) (h0 : List (Nat × Blk)) (r0 : List (Nat × Row)) (d : DCfg) : Option (DCfg × List Prop) :=
 match d.fuel with
 | 0=>none
 | n + 1=>match takeD P ops h0 r0 d.listed d.st (Region.ready .any ops d.listed) with
  | some (i,s',ob)=>some (⟨n,d.listed.setIfInBounds i true,s'⟩,ob)
  | none=>match Region.ready .any ops d.listed with
   | [i]=>match ops[i]? with
    | some o=>match grdOf d.st ops o.guard with
     | .yes=>match opMem P d.st none o.op with
      | some (v,s1)=>match s1.put o.dst v with
       | some s'=>some (⟨n,d.listed.setIfInBounds i true,s'⟩,[])
       | none=>none
      | none=>none
     | _=>none
    | none=>none
   | _=>none
def runDM (P : Program) (ops : Array Oper) (h0 : List (Nat × Blk)) (r0 : List (Nat × Row)) : Nat → DCfg → DCfg × List Prop
 | 0,d=>(d,[])
 | m + 1,d=>match stepDM P ops h0 r0 d with
  | none=>(d,[])
  | some (d',ob)=>match runDM P ops h0 r0 m d' with
   | (d2,ob')=>(d2,ob ++ ob')
theorem opMem_rows {P : Program} {s s1 : St} {gc : Option (Nat × Bool)} {op : Op} {v : RV} (h : opMem P s gc op = some (v,s1)) : s1.rows = s.rows ∧ s1.nr = s.nr ∧ s.next ≤ s1.next:=by
 unfold opMem at h
 split at h
 ·split at h
  ·cases h; exact ⟨rfl,rfl,Nat.le_succ _⟩
  ·cases h
 ·split at h
  ·split at h
   ·cases h; exact ⟨rfl,rfl,Nat.le_succ _⟩
   ·cases h
  ·cases h
 ·split at h
  ·split at h
   ·split at h
    ·split at h
     ·cases h; exact ⟨rfl,rfl,Nat.le_succ _⟩
     ·cases h
    ·cases h
   ·cases h
  ·cases h
 ·cases h
theorem stepPure_W {P : Program} {ops : Array Oper} {h0 : List (Nat × Blk)} {r0 : List (Nat × Row)} {o : Oper} {s s' : St} {ob : List Prop} (hs : stepPure P ops h0 r0 o s = some (s',ob)) : s'.W = s.W:=by
 unfold stepPure at hs
 split at hs
 ·split at hs
  ·split at hs
   ·rename_i hput; cases hs; exact put_W hput
   ·cases hs
  ·cases hs
 ·split at hs
  ·rename_i hput; cases hs; exact put_W hput
  ·cases hs
 ·split at hs
  ·split at hs
   ·rename_i hput; cases hs; rw [put_W hput]; rfl
   ·cases hs
  ·cases hs
 ·cases hs
theorem WF.le.trans' {A B E : WF} (h : A.le B) (k : B.le E) : A.le E :=
 ⟨Nat.le_trans h.n k.n,Nat.le_trans h.nr k.nr,fun r hr R hR=>h.rows r hr R (k.rows r (Nat.lt_of_lt_of_le hr h.nr) R hR)⟩
section
variable {C : Ctx} {D : Held} {ops : Array Oper} {k : List Item}
theorem stepDM_rows {P : Program} {h0 : List (Nat × Blk)} {r0 : List (Nat × Row)} {d d' : DCfg} {ob : List Prop} (hs : stepDM P ops h0 r0 d = some (d',ob)) (hrw : D.rows d.st) : D.rows d'.st:=by
 unfold stepDM at hs
 split at hs
 ·cases hs
 ·split at hs
  ·rename_i i s' ob' ht
   cases hs
   obtain ⟨_,o,_,_,h⟩:=takeD_spec ht
   have hW:=stepPure_W h
   exact ⟨fun r R hR=>by rw [show s'.rows = d.st.rows from congrArg WF.rows hW]; exact hrw.1 r R hR,by rw [hW]; exact hrw.2⟩
  ·split at hs
   ·split at hs
    ·split at hs
     ·split at hs
      ·rename_i v s1 hop
       split at hs
       ·rename_i s' hput
        cases hs
        have hW:=put_W hput
        obtain ⟨q1,q2,q3⟩:=opMem_rows hop
        have e1 : s'.rows = d.st.rows:=(congrArg WF.rows hW).trans q1
        have e2 : s'.nr = d.st.nr:=(congrArg WF.nr hW).trans q2
        have e3 : s'.next = s1.next:=congrArg WF.n hW
        refine ⟨fun r R hR=>by rw [e1]; exact hrw.1 r R hR,Nat.le_trans hrw.2.n (by show d.st.next ≤ s'.next; rw [e3]; exact q3),Nat.le_trans hrw.2.nr (by show d.st.nr ≤ s'.nr; rw [e2]; exact Nat.le_refl _),fun r hr R hR=>?_⟩
        exact hrw.2.rows r hr R (by show look d.st.rows r = some R; rw [← e1]; exact hR)
       ·cases hs
      ·cases hs
     ·cases hs
    ·cases hs
   ·cases hs
theorem VD.stepM (hD : D.ok) (hL : LastOp ops D.L ∨ ops.size ≤ D.L) (hsel : Region.noSelect ops = true) {d d' : DCfg} {ob : List Prop} (hs : stepDM C.P ops D.h0 D.r0 d = some (d',ob)) (hob : ∀ p ∈ ob,p) (hrw : D.rows d.st)
  (h : VD C D ops k d') : VD C D ops k d:=by
 unfold stepDM at hs
 split at hs
 ·cases hs
 ·rename_i n hf
  split at hs
  ·rename_i i s' ob' ht
   cases hs
   obtain ⟨hm,o,ho,hfr,hst⟩:=takeD_spec ht
   have hW:=stepPure_W hst
   intro ρ a w hS hρ hn hc hcl hsz
   obtain ⟨v,hy,hS',hnx⟩:=stepPure_sound hD hst hob hS hρ hn hrw
   rw [hf]
   exact wpAnyE_first hL ho (Region.noSelect_spec hsel) Qd_panic n d.listed a w hsz hcl (Region.free_spec ho hfr) hm hy hc (h ρ _ w hS' hρ (by show D.n0 ≤ s'.next; rw [show s'.next = d.st.next from congrArg WF.n hW]; exact hn) hc (hcl.set hm) (by simpa using hsz))
  ·split at hs
   ·rename_i i hr
    split at hs
    ·rename_i o ho
     split at hs
     ·rename_i hg
      split at hs
      ·rename_i v s1 hop
       split at hs
       ·rename_i s' hput
        cases hs
        exact VD.mem i hr hf ho hg hop hput h
       ·cases hs
      ·cases hs
     ·cases hs
    ·cases hs
   ·cases hs
theorem VD.runM (hD : D.ok) (hL : LastOp ops D.L ∨ ops.size ≤ D.L) (hsel : Region.noSelect ops = true) : ∀ (m : Nat) (d : DCfg),(∀ p ∈ (runDM C.P ops D.h0 D.r0 m d).2,p) → D.rows d.st →
  (D.rows (runDM C.P ops D.h0 D.r0 m d).1.st → VD C D ops k (runDM C.P ops D.h0 D.r0 m d).1) → VD C D ops k d
 | 0,d,_,hrw,h=>h hrw
 | m + 1,d,hob,hrw,h=>by
  unfold runDM at hob h
  split at hob
  ·rename_i hs; rw [hs] at h; exact h hrw
  ·rename_i d' ob hs
   rw [hs] at h
   exact VD.stepM hD hL hsel hs (fun p hp=>hob p (List.mem_append_left _ hp)) hrw
    (VD.runM hD hL hsel m d' (fun p hp=>hob p (List.mem_append_right _ hp)) (stepDM_rows hs hrw) h)
def endD (P : Program) (ops : Array Oper) (L : Nat) (d : DCfg) : Option St :=
 match Region.ready .any ops d.listed with
 | []=>some d.st
 | [i]=>match Nat.beq i L,d.fuel,ops[L]? with
  | true,_ + 1,some o=>match grdOf d.st ops o.guard,opStore P d.st none o.op,o.dst,Region.ready .any ops (d.listed.setIfInBounds L true) with
   | .yes,some s1,none,[]=>some s1
   | _,_,_,_=>none
  | _,_,_=>none
 | _=>none
theorem VD.fin {d : DCfg} {s1 : St} (hs : endD C.P ops D.L d = some s1) (h : V C ⟨k,s1⟩) : VD C D ops k d:=by
 unfold endD at hs
 split at hs
 ·rename_i hr; cases hs; exact VD.done (by simp [hr]) h
 ·rename_i i hr
  split at hs
  ·rename_i n o hi hf ho
   have:=(beq_iff _ _).1 hi
   subst this
   split at hs
   ·rename_i hg hop hd he
    cases hs
    exact VD.last hr hf ho hg hop hd (by simp [he]) h
   ·cases hs
  ·cases hs
 ·cases hs
theorem heldOf_nil {α : Type} : ∀ (l : List (Nat × α)),heldOf [] l = l
 | []=>rfl
 | (b,v) :: l=>by simp only [heldOf,hasNat]; rw [heldOf_nil l]
end
end Go.SX
end
section
namespace Go.SX
open Go
section
variable {C : Ctx}
theorem V.back (ks hs rs : List Nat) (pm : List Bool) {T : List Item} {s' : St} {c : Cfg} (h : V C ⟨T,s'⟩) (hT : c.todo = T) (hp : pickSt ks hs rs pm c.st = some s') : V C c :=
 V.pick ks hs rs pm s' hp (hT ▸ h)
theorem V.split (g : Nat) (b : Bool) {c : Cfg} (hc : look c.st.slots g = some (.v (.one (.sb b)))) (h1 : b = true → V C (c.know g true)) (h2 : b = false → V C (c.know g false)) : V C c:=by
 intro ρ a w hS
 cases b with
 | true=>exact h1 rfl ρ a w (hS.know hc)
 | false=>exact h2 rfl ρ a w (hS.know hc)
end
end Go.SX
end
section
namespace Go.SX
open Go
def rowP (R : Row) : Pers:=⟨R.uses,R.ok⟩
section
variable {C : Ctx} {ρ : Nat → Nat} {s : St} {a : Act} {w : World}
theorem Sat.rowOfP (h : Sat C ρ s a w) {i : Nat} {R : Row} (hp : s.pers[i]? = some (rowP R)) (ho : R.own = false) :
  Sat C ρ { s with rows:=(s.nr,R) :: s.rows,nr:=s.nr + 1 } a w:=by
 have hm : rowP R ∈ s.pers:=List.mem_of_getElem? hp
 obtain ⟨p1,p2,p3⟩:=h.pers _ hm
 have hlt : ∀ r R,look s.rows r = some R → r < s.nr:=fun r R hR=>(h.rows r R hR).1
 have hle : s.W.le ⟨s.next,s.nr + 1,(s.nr,R) :: s.rows⟩:=by
  refine ⟨Nat.le_refl _,Nat.le_succ _,fun r hr Q hQ=>?_⟩
  have hr' : r < s.nr:=hr
  simp only [look] at hQ
  split at hQ
  ·rename_i e; have:=(beq_iff _ _).1 e; omega
  ·exact hQ
 refine ⟨h.n,fun i v hv=>⟨(h.slots i v hv).1,RV.wf_mono hle v (h.slots i v hv).2⟩,h.grds,?_,h.inj,h.lt,h.defers,h.chg,?_,?_,?_,h.fix⟩
 ·intro b blk hb
  obtain ⟨k1,k2,k3,k4⟩:=h.heap b blk hb
  exact ⟨k1,k2,fun x hx=>SV.wf_mono hle x (k3 x hx),k4⟩
 ·intro r Q hQ
  simp only [look] at hQ
  split at hQ
  ·rename_i e'
   cases hQ
   have:=(beq_iff _ _).1 e'
   refine ⟨by show r < s.nr + 1; omega,p1,fun k hk=>?_⟩
   obtain ⟨q1,q2,_⟩:=p3 k hk
   exact ⟨q1,q2,fun e=>by rw [ho] at e; cases e⟩
  ·obtain ⟨k0,k1,k2⟩:=h.rows r Q hQ
   exact ⟨by show r < s.nr + 1; omega,k1,k2⟩
 ·intro r1 r2 R1 R2 h1 h2 hne ho' k hk1 hk2
  simp only [look] at h1 h2
  split at h1
  ·cases h1; rw [ho] at ho'; cases ho'
  ·split at h2
   ·cases h2; exact (p3 k hk2).2.2 r1 R1 h1 ho' hk1
   ·exact h.rowsD r1 r2 R1 R2 h1 h2 hne ho' k hk1 hk2
 ·intro p hp
  obtain ⟨q1,q2,q3⟩:=h.pers p hp
  refine ⟨q1,q2,fun k hD=>⟨(q3 k hD).1,(q3 k hD).2.1,fun r Q hQ hQo=>?_⟩⟩
  simp only [look] at hQ
  split at hQ
  ·cases hQ; rw [ho] at hQo; cases hQo
  ·exact (q3 k hD).2.2 r Q hQ hQo
theorem V.asRow (t i : Nat) (R : Row) {c : Cfg} (hl : look c.st.slots t = some (.v (.one (.val (.slice R.s R.n R.cap))))) (hg : hasNat c.st.gs t = false) (hp : c.st.pers[i]? = some (rowP R)) (ho : R.own = false)
  (h : V C ⟨c.todo,{ c.st with slots:=upd c.st.slots t (.v (.one (.row c.st.nr R.s R.n R.cap))),rows:=(c.st.nr,R) :: c.st.rows,nr:=c.st.nr + 1 }⟩) : V C c:=by
 intro ρ a w hS
 have h1:=hS.rowOfP hp ho
 refine h ρ a w ⟨h1.n,?_,?_,h1.heap,h1.inj,h1.lt,h1.defers,h1.chg,h1.rows,h1.rowsD,h1.pers,h1.fix⟩
 ·intro j v hv
  simp only [look_upd] at hv
  by_cases e : t = j
  ·rw [if_pos e] at hv
   cases hv
   subst e
   refine ⟨(h1.slots t _ hl).1,Nat.lt_succ_self _,fun Q hQ=>?_⟩
   simp only [St.W,look,Nat.beq_refl] at hQ
   cases hQ
   exact ⟨rfl,rfl,rfl⟩
  ·rw [if_neg e] at hv
   exact h1.slots j v hv
 ·intro j g pol b x hv
  simp only [look_upd] at hv ⊢
  by_cases e : t = j
  ·rw [if_pos e] at hv; cases hv
  ·rw [if_neg e] at hv
   obtain ⟨k1,k2⟩:=h1.grds j g pol b x hv
   refine ⟨k1,?_⟩
   rw [if_neg (fun e'=>?_)]
   ·exact k2
   ·rw [← e'] at k1
    have k1' : hasNat c.st.gs t = true:=k1
    rw [hg] at k1'; cases k1'
end
end Go.SX
end
section
namespace Go.SX
open Go
def wfS (n : Nat) : SV → Bool
 | .ptr b _=>Nat.blt b n
 | .fn _ cap=>cap.all fun b=>Nat.blt b n
 | x=>plainB x
def wfC (n : Nat) : CV → Bool
 | .one x=>wfS n x
 | .agg xs=>xs.all (wfS n)
def wfR (n : Nat) : RV → Bool
 | .v x=>wfC n x
 | .tup xs=>xs.all (wfC n)
 | .grd _ _ _ _=>false
theorem wfS_ok {n : Nat} {x : SV} (h : wfS n x = true) {W : WF} (hW : n = W.n) : x.wf W:=by
 subst hW
 cases x with
 | ptr b off=>exact Nat.blt_eq.mp h
 | fn f cap=>intro c hc; exact Nat.blt_eq.mp (List.all_eq_true.1 h c hc)
 | _=>first | trivial | cases h
theorem wfC_ok {n : Nat} {x : CV} (h : wfC n x = true) {W : WF} (hW : n = W.n) : x.wf W:=by
 cases x with
 | one x=>exact wfS_ok h hW
 | agg xs=>intro y hy; exact wfS_ok (List.all_eq_true.1 h y hy) hW
theorem wfR_ok {n : Nat} {x : RV} (h : wfR n x = true) {W : WF} (hW : n = W.n) : x.wf W ∧ ∀ g pol b y,x ≠ .grd g pol b y:=by
 cases x with
 | v x=>exact ⟨wfC_ok h hW,by simp⟩
 | tup xs=>exact ⟨fun y hy=>wfC_ok (List.all_eq_true.1 h y hy) hW,by simp⟩
 | grd=>cases h
def PersOk (ps : List Pers) (w : World) : Prop :=
 ∀ p ∈ ps,p.φ w ∧ (∀ w',(∀ k,p.D k → w'.heap[k]? = w.heap[k]?) → p.φ w') ∧ ∀ k,p.D k → k < w.heap.size
section
variable {C : Ctx} {ρ : Nat → Nat} {s : St} {a : Act} {w : World}
theorem Calls.of_P {P : Program} {f : FuncId} {fn : Func} {R : Ending → World → Prop} {w : World} (ps : List Pers) (hps : PersOk ps w) (xs : List CV) (wr : Bool)
  (hf : P.funcs[f]? = some fn) (hb : fn.body.isSome = true) (hle : Nat.ble xs.length fn.ntmps = true) (hw : xs.all (wfC 0) = true)
  (h : V ⟨P,f,R,fun _=>False,w,fun _=>0,none⟩ ⟨[.code (bodyOf fn)],st0 fn.ntmps xs [] 0 [] 0 ps wr⟩) : Calls P f (xs.map (CV.den (fun _=>0))).toArray w R:=by
 refine Calls.of_V (fun _=>False) (fun _=>0) (fun _=>0) xs (st0 fn.ntmps xs [] 0 [] 0 ps wr) hf hb hle (fun a h1 h2 h3=>?_) h
 refine ⟨h1,?_,?_,?_,?_,?_,h2,Chg.refl _ _,?_,?_,?_,fun b hb=>absurd hb (Nat.not_lt_zero b)⟩
 ·intro i v hv
  obtain ⟨x,rfl,_,hx⟩:=look_enum xs 0 i v hv
  exact ⟨h3 i x (by simpa using hx),wfC_ok (List.all_eq_true.1 hw x (List.mem_of_getElem? hx)) rfl⟩
 ·intro i g pol c x hv
  obtain ⟨y,e,_⟩:=look_enum xs 0 i _ hv
  cases e
 ·intro b blk hb; simp [st0,look] at hb
 ·intro b c hb; exact absurd hb (Nat.not_lt_zero _)
 ·intro b hb; exact absurd hb (Nat.not_lt_zero _)
 ·intro r R hr; simp [st0,look] at hr
 ·intro r r' R R' hr; simp [st0,look] at hr
 ·intro p hp
  obtain ⟨q1,q2,q3⟩:=hps p hp
  exact ⟨q1,q2,fun k hk=>⟨q3 k hk,fun b hb=>absurd hb (Nat.not_lt_zero _),fun r R hr=>by simp [st0,look] at hr⟩⟩
end
end Go.SX
end
section
namespace Go.SX
open Go
structure DAt where
 ops : Array Oper
 k : List Item
 c : Cfg
 d : DCfg
section
variable {C : Ctx}
instance : Inhabited DAt:=⟨⟨#[],[],⟨[],{ n:=0,slots:=[],gs:=[],heap:=[],next:=0,rows:=[],nr:=0,pers:=[],wr:=false }⟩,⟨0,#[],{ n:=0,slots:=[],gs:=[],heap:=[],next:=0,rows:=[],nr:=0,pers:=[],wr:=false }⟩⟩⟩
end
section
variable {C : Ctx} {ρ : Nat → Nat} {s : St} {a : Act} {w : World}
end
end Go.SX
end
section
namespace Go.SX
open Go
def GivesK {α : Type} (ρ : Nat → Nat) (F : St) (p : α → Prop) (v : α → RV) (F' : α → St) (w : World) (e : Ending) (w' : World) : Prop :=
 ∃ x ρ',p x ∧ e = .returned ((v x).den ρ') ∧ (∀ b,b < F.next → ρ' b = ρ b) ∧ F.next ≤ (F' x).next ∧
  (∀ b,F.next ≤ b → b < (F' x).next → w.heap.size ≤ ρ' b ∨ touch ρ F (ρ' b)) ∧ FSat ρ' (F' x) w' ∧
  (∀ b,b < F.next → ∃ blk,look (F' x).heap b = some blk) ∧ (v x).wf (F' x).W ∧ Chg (touch ρ F) w w' ∧
  (∀ b blk,b < F.next → look (F' x).heap b = some blk → blk.rw = true → ∃ blk0,look F.heap b = some blk0 ∧ blk0.rw = true) ∧
  (∀ r R,look (F' x).rows r = some R → ∀ k,R.uses k → (R.own = true ∧ touch ρ F k) ∨ (R.own = false ∧ usesAny F k) ∨ w.heap.size ≤ k) ∧
  (∀ q ∈ (F' x).pers,∀ k,q.D k → w.heap.size ≤ k ∨ touch ρ F k)
def CallsK {α : Type} (P : Program) (f : FuncId) (ys : List CV) (F : St) (p : α → Prop) (v : α → RV) (F' : α → St) : Prop :=
 ∀ ρ w,FSat ρ F w → Calls P f (ys.map (CV.den ρ)).toArray w (GivesK ρ F p v F' w)
def newP (n0 : Nat) (S : Nat → Prop) (p : Pers) : Pers:=⟨p.D,fun w=>p.φ w ∧ ∀ k,p.D k → n0 ≤ k ∨ S k⟩
def newHs (hs : List Nat) (n m : Nat) : List Nat:=appendL hs (upto (m - hs.length) n)
def St.bringK (s : St) (hs rs : List Nat) (n0 : Nat) (S : Nat → Prop) (F : St) : St :=
 { s with heap:=bringHeap (newHs hs s.next F.next) s.nr s.heap F.heap,next:=s.next + (F.next - hs.length),rows:=bringRows s.nr (eraseAll rs s.rows) F.rows,nr:=s.nr + F.nr,
           pers:=appendL (F.pers.map (newP n0 S)) s.pers }
theorem appendL_eq {α : Type} : ∀ (l m : List α),appendL l m = l ++ m
 | [],m=>rfl
 | x :: l,m=>by simp only [appendL,appendL_eq l m,List.cons_append]
theorem newHs_old {hs : List Nat} {n m i : Nat} (h : i < hs.length) : (newHs hs n m).getD i 0 = hs.getD i 0:=by
 simp [newHs,appendL_eq,List.getD,List.getElem?_append_left h]
theorem newHs_new {hs : List Nat} {n m i : Nat} (h : hs.length ≤ i) (h' : i < m) : (newHs hs n m).getD i 0 = n + (i - hs.length):=by
 simp only [newHs,appendL_eq,List.getD,List.getElem?_append_right h]
 rw [upto_get (by omega)]
 rfl
section
variable {C : Ctx} {ρ : Nat → Nat} {s : St} {a : Act} {w w' : World}
theorem Sat.bringK1 (h : Sat C ρ s a w) {hs rs : List Nat} {F F' : St} {ρ' : Nat → Nat} (hp : (pickSt [] hs rs [] s).map fragOf = some (fragOf F)) (hnd : noKeyDup F'.heap = true)
  (hρ' : ∀ b,b < F.next → ρ' b = ρ (hs.getD b 0)) (hnext : F.next ≤ F'.next) (hnew : ∀ b,F.next ≤ b → b < F'.next → w.heap.size ≤ ρ' b ∨ touch (fun i=>ρ (hs.getD i 0)) F (ρ' b))
  (hF : FSat ρ' F' w') (hkeep : ∀ b,b < F.next → ∃ blk,look F'.heap b = some blk) (hc : Chg (touch (fun i=>ρ (hs.getD i 0)) F) w w')
  (hrw : ∀ b blk,b < F.next → look F'.heap b = some blk → blk.rw = true → ∃ blk0,look F.heap b = some blk0 ∧ blk0.rw = true)
  (hru : ∀ r R,look F'.rows r = some R → ∀ k,R.uses k → (R.own = true ∧ touch (fun i=>ρ (hs.getD i 0)) F k) ∨ (R.own = false ∧ usesAny F k) ∨ w.heap.size ≤ k)
  (hps : ∀ q ∈ F'.pers,∀ k,q.D k → w.heap.size ≤ k ∨ touch (fun i=>ρ (hs.getD i 0)) F k) :
  ∃ ρ1,Sat C ρ1 (s.bringK hs rs C.w0.heap.size C.S F') a w' ∧ (∀ b,b < F'.next → ρ1 ((newHs hs s.next F'.next).getD b 0) = ρ' b) ∧
   (∀ v : RV,v.wf F'.W → (v.bring (newHs hs s.next F'.next) s.nr).wf (s.bringK hs rs C.w0.heap.size C.S F').W) ∧ ∀ b,b < s.next → ρ1 b = ρ b:=by
 obtain ⟨Fp,hp,hfr⟩:=Option.map_eq_some_iff.1 hp
 have hpk:=hp
 unfold pickSt at hpk
 split at hpk
 case h_2=>cases hpk
 rename_i sl hpp rows hnd1 hnd2 hsl hhp hrows
 simp only [pickSlots,Option.some.injEq] at hsl
 have hFeq:=Option.some.inj hpk
 simp only [fragOf,Prod.mk.injEq] at hfr
 obtain ⟨fr1,fr2,fr3,fr4⟩:=hfr
 have hFn : F.next = hs.length:=by rw [← fr2,← hFeq]
 have hFr : F.rows = rows:=by rw [← fr3,← hFeq]
 have hFh : F.heap = hpp:=by rw [← fr1,← hFeq]
 have hltn : ∀ i,i < hs.length → hs.getD i 0 < s.next ∧ ∃ blk,look s.heap (hs.getD i 0) = some blk:=by
  intro i hi
  have hm : hs.getD i 0 ∈ hs:=by simp [List.getD,List.getElem?_eq_getElem hi]
  have : ∀ (l : List Nat) (i0 : Nat) (r : List (Nat × Blk)),pickHeap hs rs s.heap l i0 = some r → ∀ b ∈ l,∃ blk,look s.heap b = some blk:=by
   intro l
   induction l with
   | nil=>intro i0 r _ b hb; simp at hb
   | cons c l ih =>
    intro i0 r hr b hb
    simp only [pickHeap] at hr
    split at hr
    ·rename_i blk hc
     split at hr
     ·split at hr
      ·rename_i r' hr'
       rcases List.mem_cons.1 hb with rfl | hb
       ·exact ⟨blk,hc⟩
       ·exact ih _ _ hr' b hb
      ·cases hr
     ·cases hr
    ·cases hr
  obtain ⟨blk,hb⟩:=this hs 0 hpp hhp _ hm
  exact ⟨(h.heap _ blk hb).1,blk,hb⟩
 have hmem : ∀ b,b ∈ hs → ∃ i,i < F.next ∧ hs.getD i 0 = b:=by
  intro b hm
  obtain ⟨i,hi,hbi⟩:=List.getElem_of_mem hm
  exact ⟨i,by rw [hFn]; exact hi,by simp only [List.getD,List.getElem?_eq_getElem hi,Option.getD_some,hbi]⟩
 -- the new numbers
 let ρ1 : Nat → Nat:=fun b=>if b < s.next then ρ b else ρ' (hs.length + (b - s.next))
 have hρ1 : ∀ b,b < s.next → ρ1 b = ρ b:=fun b hb=>if_pos hb
 have hρn : ∀ b,s.next ≤ b → ρ1 b = ρ' (hs.length + (b - s.next)):=fun b hb=>if_neg (by omega)
 have hback : ∀ i,i < F'.next → ρ1 ((newHs hs s.next F'.next).getD i 0) = ρ' i ∧ (newHs hs s.next F'.next).getD i 0 < s.next + (F'.next - hs.length):=by
  intro i hi
  by_cases e : i < hs.length
  ·rw [newHs_old e,hρ1 _ (hltn i e).1,hρ' i (by omega)]
   exact ⟨rfl,by have:=(hltn i e).1; omega⟩
  ·rw [newHs_new (by omega) hi,hρn _ (by omega)]
   exact ⟨by congr 1; omega,by omega⟩
 -- what may be written,said of the caller's part
 have htouch : ∀ k,touch (fun i=>ρ (hs.getD i 0)) F k → (∃ b blk,b ∈ hs ∧ look s.heap b = some blk ∧ blk.rw = true ∧ ρ b = k) ∨ ∃ r R,r ∈ rs ∧ look s.rows r = some R ∧ R.own = true ∧ R.uses k:=by
  rintro k (⟨b,blk,hb,hbrw,hbk⟩ | ⟨r,R,hR,ho,hu⟩)
  ·rw [hFh] at hb
   obtain ⟨c,blk0,_,h2,h3,_,_,h6⟩:=pickHeap_ok hhp b blk hb
   simp only [Nat.sub_zero] at h2
   have hg : hs.getD b 0 = c:=by simp [List.getD,h2]
   simp only [hg] at hbk
   exact .inl ⟨c,blk0,List.mem_of_getElem? h2,h3,by rw [← h6]; exact hbrw,hbk⟩
  ·rw [hFr] at hR
   obtain ⟨r2,_,h2,h3⟩:=pickRows_ok hrows r R hR
   simp only [Nat.sub_zero] at h2
   exact .inr ⟨r2,R,List.mem_of_getElem? h2,h3,ho,hu⟩
 have htS : ∀ k,touch (fun i=>ρ (hs.getD i 0)) F k → C.w0.heap.size ≤ k ∨ C.S k:=by
  intro k ht
  rcases htouch k ht with ⟨b,blk,_,e2,e3,rfl⟩ | ⟨r2,R2,_,e2,e3,e4⟩
  ·exact (h.heap b blk e2).2.2.2 e3
  ·exact ((h.rows r2 R2 e2).2.2 k e4).2.2 e3
 have huses : ∀ k,usesAny F k → ∃ r R,r ∈ rs ∧ look s.rows r = some R ∧ R.uses k:=by
  rintro k ⟨r,R,hR,hu⟩
  rw [hFr] at hR
  obtain ⟨r2,_,h2,h3⟩:=pickRows_ok hrows r R hR
  simp only [Nat.sub_zero] at h2
  exact ⟨r2,R,List.mem_of_getElem? h2,h3,hu⟩
 -- an old block that is not handed on lies elsewhere
 have hother : ∀ b,b < s.next → b ∉ hs → ∀ k,(w.heap.size ≤ k ∨ touch (fun i=>ρ (hs.getD i 0)) F k) → ρ b ≠ k:=by
  intro b hb hm k hk e
  rcases hk with hk | hk
  ·have:=h.lt b hb; omega
  ·rcases htouch k hk with ⟨b2,blk,m2,e2,_,e4⟩ | ⟨r2,R2,_,e2,_,e4⟩
   ·have:=h.inj b b2 hb (h.heap b2 blk e2).1 (e.trans e4.symm); subst this; exact hm m2
   ·exact ((h.rows r2 R2 e2).2.2 k e4).2.1 b hb e
 have hne : ∀ b,b < s.next → ∀ i,hs.length ≤ i → i < F'.next → ρ b ≠ ρ' i:=by
  intro b hb i hi hi'
  by_cases hm : b ∈ hs
  ·obtain ⟨j,hj,hbj⟩:=hmem b hm
   intro e
   have:=hF.inj j i (by omega) hi' (by rw [hρ' j hj,hbj]; exact e)
   omega
  ·exact hother b hb hm _ (hnew i (by omega) hi')
 have hsame : ∀ k,k < w.heap.size → (∀ b blk,b ∈ hs → look s.heap b = some blk → ρ b ≠ k) → (∀ r R,r ∈ rs → look s.rows r = some R → R.own = true → ¬ R.uses k) → w'.heap[k]? = w.heap[k]?:=by
  intro k hk h1 h2
  refine hc.block k hk (fun ht=>?_)
  rcases htouch k ht with ⟨b,blk,e1,e2,_,e4⟩ | ⟨r,R,e1,e2,e3,e4⟩
  ·exact h1 b blk e1 e2 e4
  ·exact h2 r R e1 e2 e3 e4
 have hrow : ∀ r R,look s.rows r = some R → r < s.nr:=fun r R hR=>(h.rows r R hR).1
 have hW : ∀ r R,look (s.bringK hs rs C.w0.heap.size C.S F').W.rows (s.nr + r) = some R → look F'.W.rows r = some R:=fun r R hR =>
  look_bringRows_left hR (fun R' hR'=>by have:=hrow _ R' (look_eraseAll hR').2; omega)
 have hleW : s.W.le (s.bringK hs rs C.w0.heap.size C.S F').W:=by
  refine ⟨Nat.le_add_right _ _,Nat.le_add_right _ _,fun r hr R hR=>?_⟩
  have hr' : r < s.nr:=hr
  rcases look_bringRows hR with ⟨q,e,_⟩ | h2
  ·omega
  ·exact (look_eraseAll h2).2
 have hwfI : ∀ x : SV,x.wf F'.W → (x.bring (newHs hs s.next F'.next) s.nr).wf (s.bringK hs rs C.w0.heap.size C.S F').W :=
  fun x hx=>SV.bring_wf (W:=F'.W) (W':=(s.bringK hs rs C.w0.heap.size C.S F').W) (fun b hb=>(hback b hb).2) (Nat.le_refl _) hW x hx
 have howners : ∀ r R,look F'.rows r = some R → R.own = true → ∀ k,R.uses k → C.w0.heap.size ≤ k ∨ C.S k:=by
  intro r R hR ho k hk
  rcases hru r R hR k hk with ⟨_,ht⟩ | ⟨hno,_⟩ | hf
  ·exact htS k ht
  ·rw [ho] at hno; cases hno
  ·exact .inl (Nat.le_trans h.chg.size hf)
 -- blocks against what is at k
 have hsplit : ∀ k,(∀ i,i < F'.next → ρ' i ≠ k) → (∀ b,b < s.next → b ∉ hs → ρ b ≠ k) → ∀ b,b < s.next + (F'.next - hs.length) → ρ1 b ≠ k:=by
  intro k h1 h2 b hb
  by_cases e : b < s.next
  ·rw [hρ1 b e]
   by_cases hm : b ∈ hs
   ·obtain ⟨j,hj,hbj⟩:=hmem b hm
    rw [← hbj,← hρ' j hj]
    exact h1 j (by omega)
   ·exact h2 b e hm
  ·rw [hρn b (by omega)]
   exact h1 _ (by omega)
 have hblkne : ∀ r R,look F'.rows r = some R → ∀ k,R.uses k → ∀ b,b < s.next + (F'.next - hs.length) → ρ1 b ≠ k:=by
  intro r R hR k hk
  refine hsplit k (fun i hi=>((hF.rows r R hR).2.2 k hk).2 i hi) (fun b hb hm=>?_)
  rcases hru r R hR k hk with ⟨_,ht⟩ | ⟨_,hu⟩ | hf
  ·exact hother b hb hm k (.inr ht)
  ·obtain ⟨r2,R2,_,e2,e4⟩:=huses k hu
   exact ((h.rows r2 R2 e2).2.2 k e4).2.1 b hb
  ·exact hother b hb hm k (.inl hf)
 -- a new row and an old one that stays
 have hstay : ∀ q Q,q ∉ rs → look s.rows q = some Q → ∀ k,(w.heap.size ≤ k ∨ touch (fun i=>ρ (hs.getD i 0)) F k) → ¬ Q.uses k:=by
  intro q Q hq hQ k hk hk'
  rcases hk with hf | ht
  ·have:=((h.rows q Q hQ).2.2 k hk').1; omega
  ·rcases htouch k ht with ⟨b,blk,_,e2,_,e4⟩ | ⟨r2,R2,m2,e2,e3,e4⟩
   ·exact ((h.rows q Q hQ).2.2 k hk').2.1 b (h.heap b blk e2).1 e4
   ·exact h.rowsD r2 q R2 Q e2 hQ (fun e=>hq (e ▸ m2)) e3 k e4 hk'
 have hnewold : ∀ r R,look F'.rows r = some R → ∀ q Q,q ∉ rs → look s.rows q = some Q → (R.own = true ∨ Q.own = true) → ∀ k,R.uses k → Q.uses k → False:=by
  intro r R hR q Q hq hQ ho k hk hk'
  rcases hru r R hR k hk with ⟨_,ht⟩ | ⟨hno,hu⟩ | hf
  ·exact hstay q Q hq hQ k (.inr ht) hk'
  ·obtain ⟨r2,R2,m2,e2,e4⟩:=huses k hu
   rcases ho with ho | ho
   ·rw [ho] at hno; cases hno
   ·exact h.rowsD q r2 Q R2 hQ e2 (fun e=>hq (e ▸ m2)) ho k hk' e4
  ·exact hstay q Q hq hQ k (.inl hf) hk'
 refine ⟨ρ1,⟨h.n,fun i v hv=>⟨by rw [RV.den_congr (W:=s.W) hρ1 v (h.slots i v hv).2]; exact (h.slots i v hv).1,RV.wf_mono hleW v (h.slots i v hv).2⟩,h.grds,?_,?_,?_,h.defers,?_,?_,?_,?_,?_⟩,
    fun b hb=>(hback b hb).1,
    fun v hv=>RV.bring_wf (W:=F'.W) (W':=(s.bringK hs rs C.w0.heap.size C.S F').W) (fun b hb=>(hback b hb).2) (Nat.le_refl _) hW v hv,hρ1⟩
 ·intro b blk hb
  rcases look_bringHeap hb with ⟨i,blk0,e1,e2,rfl⟩ | ⟨e1,e2⟩
  ·have hl:=noKeyDup_ok hnd i blk0 e2
   obtain ⟨k1,k2,k3⟩:=hF.heap i blk0 hl
   subst e1
   obtain ⟨q1,q2⟩:=hback i k1
   refine ⟨q2,?_,?_,?_⟩
   ·simp only [SV.bring_map,q1]
    rw [SV.den_map_congr (W:=F'.W) (ρ:=ρ') (fun b hb=>(hback b hb).1) _ k3]
    exact k2
   ·intro x hx; obtain ⟨y,hy,rfl⟩:=List.mem_map.1 hx; exact hwfI y (k3 y hy)
   ·intro hrw'
    rw [q1]
    by_cases e : i < F.next
    ·obtain ⟨blk1,f1,f2⟩:=hrw i blk0 e hl hrw'
     rw [hFh] at f1
     obtain ⟨c,blk2,_,h2,h3,_,_,h6⟩:=pickHeap_ok hhp i blk1 f1
     simp only [Nat.sub_zero] at h2
     have hg : hs.getD i 0 = c:=by simp [List.getD,h2]
     rw [hρ' i e,hg]
     exact (h.heap c blk2 h3).2.2.2 (by rw [← h6]; exact f2)
    ·rcases hnew i (by omega) k1 with q | q
     ·exact .inl (Nat.le_trans h.chg.size q)
     ·exact htS _ q
  ·obtain ⟨k1,k2,k3,k4⟩:=h.heap b blk e1
   refine ⟨Nat.lt_of_lt_of_le k1 (Nat.le_add_right _ _),?_,fun x hx=>SV.wf_mono hleW x (k3 x hx),by rw [hρ1 b k1]; exact k4⟩
   rw [hρ1 b k1,SV.den_map_congr (W:=s.W) hρ1 _ k3]
   by_cases hm : b ∈ hs
   ·obtain ⟨i,hi,hbi⟩:=hmem b hm
    obtain ⟨blk',hb'⟩:=hkeep i hi
    exact absurd (by rw [newHs_old (by omega)]; exact hbi) (e2 i blk' (look_mem hb'))
   ·rw [hsame _ (h.lt b k1) (fun c blk' hcm hcl e=>hm (h.inj c b (h.heap c blk' hcl).1 k1 e ▸ hcm)) (fun r R _ hR _ hu=>((h.rows r R hR).2.2 _ hu).2.1 b k1 rfl)]
    exact k2
 ·intro b c hb hc' e
  have hb' : b < s.next + (F'.next - hs.length):=hb
  have hc'' : c < s.next + (F'.next - hs.length):=hc'
  by_cases e1 : b < s.next <;> by_cases e2 : c < s.next
  ·rw [hρ1 b e1,hρ1 c e2] at e; exact h.inj b c e1 e2 e
  ·rw [hρ1 b e1,hρn c (by omega)] at e; exact absurd e (hne b e1 _ (by omega) (by omega))
  ·rw [hρ1 c e2,hρn b (by omega)] at e; exact absurd e.symm (hne c e2 _ (by omega) (by omega))
  ·rw [hρn b (by omega),hρn c (by omega)] at e
   have:=hF.inj _ _ (by omega) (by omega) e
   omega
 ·intro b hb
  have hb' : b < s.next + (F'.next - hs.length):=hb
  by_cases e1 : b < s.next
  ·rw [hρ1 b e1]; exact Nat.lt_of_lt_of_le (h.lt b e1) hc.size
  ·rw [hρn b (by omega)]; exact hF.lt _ (by omega)
 ·exact h.chg.trans hc (fun k ht=>htS k ht)
 ·intro r R hR
  rcases look_bringRows hR with ⟨q,rfl,hq⟩ | hq
  ·obtain ⟨k0,k1,k2⟩:=hF.rows q R hq
   exact ⟨by show s.nr + q < s.nr + F'.nr; omega,k1,fun k hk=>⟨(k2 k hk).1,hblkne q R hq k hk,fun ho=>howners q R hq ho k hk⟩⟩
  ·obtain ⟨hnm,hl⟩:=look_eraseAll hq
   obtain ⟨k0,k1,k2⟩:=h.rows r R hl
   refine ⟨Nat.lt_of_lt_of_le k0 (Nat.le_add_right _ _),k1.congr (fun k hk=>hsame k (k2 k hk).1 (fun b blk _ hb e=>(k2 k hk).2.1 b (h.heap b blk hb).1 e) (fun q Q hq hQ ho hu=>h.rowsD q r Q R hQ hl (fun e=>hnm (e ▸ hq)) ho k hu hk)),fun k hk=>⟨Nat.lt_of_lt_of_le (k2 k hk).1 hc.size,?_,(k2 k hk).2.2⟩⟩
   refine hsplit k (fun i hi e=>?_) (fun b hb _=>(k2 k hk).2.1 b hb)
   by_cases e1 : i < F.next
   ·rw [hρ' i e1] at e; exact (k2 k hk).2.1 _ (hltn i (by omega)).1 e
   ·exact hstay r R hnm hl k (e ▸ hnew i (by omega) hi) hk
 ·intro r1 r2 R1 R2 h1 h2 hne ho k hk1 hk2
  rcases look_bringRows h1 with ⟨q1,rfl,l1⟩ | l1 <;> rcases look_bringRows h2 with ⟨q2,rfl,l2⟩ | l2
  ·exact hF.rowsD q1 q2 R1 R2 l1 l2 (fun e=>hne (by rw [e])) ho k hk1 hk2
  ·obtain ⟨m2,l2'⟩:=look_eraseAll l2
   exact hnewold q1 R1 l1 r2 R2 m2 l2' (.inl ho) k hk1 hk2
  ·obtain ⟨m1,l1'⟩:=look_eraseAll l1
   exact hnewold q2 R2 l2 r1 R1 m1 l1' (.inr ho) k hk2 hk1
  ·exact h.rowsD r1 r2 R1 R2 (look_eraseAll l1).2 (look_eraseAll l2).2 hne ho k hk1 hk2
 ·intro p hp
  rcases mem_appendL hp with hp | hp
  ·obtain ⟨q,hq,rfl⟩:=List.mem_map.1 hp
   obtain ⟨p1,p2,p3⟩:=hF.pers q hq
   have hpure : ∀ k,q.D k → C.w0.heap.size ≤ k ∨ C.S k:=by
    intro k hk
    rcases hps q hq k hk with e | e
    ·exact .inl (Nat.le_trans h.chg.size e)
    ·exact htS k e
   refine ⟨⟨p1,hpure⟩,fun w2 hw2=>⟨p2 w2 hw2,hpure⟩,fun k hD=>⟨(p3 k hD).1,hsplit k (fun i hi=>(p3 k hD).2.1 i hi) (fun b hb hm=>hother b hb hm k (hps q hq k hD)),fun r R hR ho hu=>?_⟩⟩
   rcases look_bringRows hR with ⟨q',rfl,hq'⟩ | hq'
   ·exact (p3 k hD).2.2 q' R hq' ho hu
   ·obtain ⟨hnm,hl⟩:=look_eraseAll hq'
    exact hstay r R hnm hl k (hps q hq k hD) hu
  ·obtain ⟨p1,p2,p3⟩:=h.pers p hp
   have hk : ∀ k,p.D k → w'.heap[k]? = w.heap[k]?:=fun k hD =>
    hsame k (p3 k hD).1 (fun b blk _ hb e=>(p3 k hD).2.1 b (h.heap b blk hb).1 e) (fun r R _ hR ho hu=>(p3 k hD).2.2 r R hR ho hu)
   have hnt : ∀ k,p.D k → ¬ (w.heap.size ≤ k ∨ touch (fun i=>ρ (hs.getD i 0)) F k):=by
    rintro k hD (e | e)
    ·have:=(p3 k hD).1; omega
    ·rcases htouch k e with ⟨b,blk,_,e2,_,e4⟩ | ⟨r2,R2,_,e2,e3,e4⟩
     ·exact (p3 k hD).2.1 b (h.heap b blk e2).1 e4
     ·exact (p3 k hD).2.2 r2 R2 e2 e3 e4
   refine ⟨p2 _ hk,fun w2 hw2=>p2 w2 (fun k hD=>(hw2 k hD).trans (hk k hD)),fun k hD=>⟨Nat.lt_of_lt_of_le (p3 k hD).1 hc.size,?_,fun r R hR ho hu=>?_⟩⟩
   ·refine hsplit k (fun i hi e=>?_) (fun b hb _=>(p3 k hD).2.1 b hb)
    by_cases e1 : i < F.next
    ·rw [hρ' i e1] at e; exact (p3 k hD).2.1 _ (hltn i (by omega)).1 e
    ·exact hnt k hD (e ▸ hnew i (by omega) hi)
   ·rcases look_bringRows hR with ⟨q,rfl,hq⟩ | hq
    ·rcases hru q R hq k hu with ⟨_,ht⟩ | ⟨hno,_⟩ | hf
     ·exact hnt k hD (.inr ht)
     ·rw [ho] at hno; cases hno
     ·exact hnt k hD (.inl hf)
    ·exact (p3 k hD).2.2 r R (look_eraseAll hq).2 ho hu
 ·intro b hb
  obtain ⟨k1,k2⟩:=h.fix b hb
  exact ⟨Nat.lt_of_lt_of_le k1 (Nat.le_add_right _ _),by rw [hρ1 b k1]; exact k2⟩
theorem Sat.bringK (h : Sat C ρ s a w) {hs rs : List Nat} {F F' : St} {ρ' : Nat → Nat} (hp : (pickSt [] hs rs [] s).map fragOf = some (fragOf F)) (hnd : noKeyDup F'.heap = true)
  (hρ' : ∀ b,b < F.next → ρ' b = ρ (hs.getD b 0)) (hnext : F.next ≤ F'.next) (hnew : ∀ b,F.next ≤ b → b < F'.next → w.heap.size ≤ ρ' b ∨ touch (fun i=>ρ (hs.getD i 0)) F (ρ' b))
  (hF : FSat ρ' F' w') (hkeep : ∀ b,b < F.next → ∃ blk,look F'.heap b = some blk) (hc : Chg (touch (fun i=>ρ (hs.getD i 0)) F) w w')
  (hrw : ∀ b blk,b < F.next → look F'.heap b = some blk → blk.rw = true → ∃ blk0,look F.heap b = some blk0 ∧ blk0.rw = true)
  (hru : ∀ r R,look F'.rows r = some R → ∀ k,R.uses k → (R.own = true ∧ touch (fun i=>ρ (hs.getD i 0)) F k) ∨ (R.own = false ∧ usesAny F k) ∨ w.heap.size ≤ k)
  (hps : ∀ q ∈ F'.pers,∀ k,q.D k → w.heap.size ≤ k ∨ touch (fun i=>ρ (hs.getD i 0)) F k) :
  ∃ ρ1,Sat C ρ1 (s.bringK hs rs C.w0.heap.size C.S F') a w' ∧ (∀ b,b < F'.next → ρ1 ((newHs hs s.next F'.next).getD b 0) = ρ' b) ∧
   ∀ v : RV,v.wf F'.W → (v.bring (newHs hs s.next F'.next) s.nr).wf (s.bringK hs rs C.w0.heap.size C.S F').W:=by
 obtain ⟨ρ1,b1,b2,b3,_⟩:=h.bringK1 hp hnd hρ' hnext hnew hF hkeep hc hrw hru hps
 exact ⟨ρ1,b1,b2,b3⟩
end
end Go.SX
end
section
namespace Go.SX
open Go
def walkB (hp : List (Nat × Blk)) : Nat → List SV → List Nat → List Nat
 | 0,_,hs=>hs
 | _ + 1,[],hs=>hs
 | n + 1,x :: q,hs=>match x with
  | .ptr b _=>match hasNat hs b with
   | true=>walkB hp n q hs
   | false=>match look hp b with
    | some blk=>walkB hp n (appendL blk.cells q) (appendL hs [b])
    | none=>walkB hp n q (appendL hs [b])
  | .sli b _ _=>match hasNat hs b with
   | true=>walkB hp n q hs
   | false=>match look hp b with
    | some blk=>walkB hp n (appendL blk.cells q) (appendL hs [b])
    | none=>walkB hp n q (appendL hs [b])
  | .fn _ cap=>walkB hp n (appendL (cap.map fun b=>SV.ptr b 0) q) hs
  | _=>walkB hp n q hs
def walkR : List SV → List Nat → List Nat
 | [],rs=>rs
 | x :: q,rs=>match x with
  | .row r _ _ _=>match hasNat rs r with
   | true=>walkR q rs
   | false=>walkR q (appendL rs [r])
  | .el r _ _ _ _=>match hasNat rs r with
   | true=>walkR q rs
   | false=>walkR q (appendL rs [r])
  | _=>walkR q rs
def cellsOf (hp : List (Nat × Blk)) : List Nat → List SV
 | []=>[]
 | b :: l=>match look hp b with
  | some blk=>appendL blk.cells (cellsOf hp l)
  | none=>cellsOf hp l
def CV.svs : CV → List SV
 | .one x=>[x]
 | .agg xs=>xs
def svsOf : List CV → List SV
 | []=>[]
 | x :: l=>appendL x.svs (svsOf l)
def RV.svs : RV → List SV
 | .v x=>x.svs
 | .tup xs=>svsOf xs
 | .grd _ _ _ x=>x.svs
def canon (hp : List (Nat × Blk)) (hs0 : List Nat) (q : List SV) : List Nat × List Nat :=
 match walkB hp 1000 (appendL (cellsOf hp hs0) q) hs0 with
 | hs=>(hs,walkR (appendL (cellsOf hp hs) q) [])
def frameOf (c : Cfg) : Option (FuncId × List CV × (List (Nat × Blk) × Nat × List (Nat × Row) × Nat)) :=
 match callOf c with
 | some (none,f,xs)=>match canon c.st.heap [] (svsOf xs) with
  | (hs,rs)=>match renC hs rs xs,pickSt [] hs rs [] c.st with
   | some ys,some s'=>some (f,ys,fragOf s')
   | _,_=>none
 | _=>none
def hsrs (c : Cfg) : List Nat × List Nat :=
 match callOf c with
 | some (_,_,xs)=>canon c.st.heap [] (svsOf xs)
 | none=>([],[])
def getP : List (Nat × Bool) → List Pers → Option (List Pers)
 | [],_=>some []
 | (i,_) :: l,ps=>match ps[i]? with
  | some p=>match getP l ps with
   | some qs=>some (p :: qs)
   | none=>none
  | none=>none
def askP (n0 : Nat) (S : Nat → Prop) : List (Nat × Bool) → List Pers → List Pers
 | (_,true) :: l,p :: ps=>newP n0 S p :: askP n0 S l ps
 | (_,false) :: l,p :: ps=>p :: askP n0 S l ps
 | _,ps=>ps
theorem getP_mem : ∀ {l : List (Nat × Bool)} {ps qs : List Pers},getP l ps = some qs → ∀ q ∈ qs,q ∈ ps
 | [],ps,qs,h,q,hq=>by simp only [getP,Option.some.injEq] at h; subst h; simp at hq
 | (i,b) :: l,ps,qs,h,q,hq=>by
  simp only [getP] at h
  split at h
  ·rename_i p hp
   split at h
   ·rename_i qs' hqs
    cases h
    rcases List.mem_cons.1 hq with rfl | hq
    ·exact List.mem_of_getElem? hp
    ·exact getP_mem hqs q hq
   ·cases h
  ·cases h
theorem askP_mem {n0 : Nat} {S : Nat → Prop} : ∀ {l : List (Nat × Bool)} {ps : List Pers},∀ p ∈ ps,p ∈ askP n0 S l ps ∨ newP n0 S p ∈ askP n0 S l ps
 | [],ps,p,hp=>.inl (by simpa [askP] using hp)
 | (_,true) :: l,[],p,hp=>by simp at hp
 | (_,false) :: l,[],p,hp=>by simp at hp
 | (_,true) :: l,q :: ps,p,hp=>by
  rcases List.mem_cons.1 hp with rfl | hp
  ·exact .inr (List.mem_cons_self ..)
  ·rcases askP_mem (l:=l) p hp with h | h
   ·exact .inl (List.mem_cons_of_mem _ h)
   ·exact .inr (List.mem_cons_of_mem _ h)
 | (_,false) :: l,q :: ps,p,hp=>by
  rcases List.mem_cons.1 hp with rfl | hp
  ·exact .inl (List.mem_cons_self ..)
  ·rcases askP_mem (l:=l) p hp with h | h
   ·exact .inl (List.mem_cons_of_mem _ h)
   ·exact .inr (List.mem_cons_of_mem _ h)
def behindK (n0 : Nat) (S : Nat → Prop) (c : Cfg) (F' : St) (v : RV) : Cfg :=
 afterD c (c.st.bringK (hsrs c).1 (hsrs c).2 n0 S F') (v.bring (newHs (hsrs c).1 c.st.next F'.next) c.st.nr)
def okK (c : Cfg) (F' : St) (v : RV) : Bool :=
 noKeyDup F'.heap && (ngB v && (afterOp c (c.st.bringK (hsrs c).1 (hsrs c).2 0 (fun _=>False) F') (v.bring (newHs (hsrs c).1 c.st.next F'.next) c.st.nr)).isSome)
section
variable {C : Ctx} {ρ : Nat → Nat} {s : St} {a : Act} {w : World}
theorem bringK_put (s : St) (hs rs : List Nat) (n0 n1 : Nat) (S S1 : Nat → Prop) (F : St) (d : Option Nat) (v : RV) :
  ((s.bringK hs rs n0 S F).put d v).isSome = ((s.bringK hs rs n1 S1 F).put d v).isSome:=by
 unfold St.put
 simp only [St.bringK]
 split
 ·rfl
 ·split
  ·rfl
  ·split <;> rfl
theorem afterOp_bringK (c : Cfg) (hs rs : List Nat) (n0 n1 : Nat) (S S1 : Nat → Prop) (F : St) (v : RV) :
  (afterOp c (c.st.bringK hs rs n0 S F) v).isSome = (afterOp c (c.st.bringK hs rs n1 S1 F) v).isSome:=by
 unfold afterOp
 split
 ·split
  ·rename_i o _
   have:=bringK_put c.st hs rs n0 n1 S S1 F o.dst v
   cases h1 : (c.st.bringK hs rs n0 S F).put o.dst v <;> cases h2 : (c.st.bringK hs rs n1 S1 F).put o.dst v <;> rw [h1,h2] at this <;> simp at this ⊢
  ·rfl
 ·rfl
theorem FSat.withPers {ρ : Nat → Nat} {s' F : St} {w : World} (h : FSat ρ s' w) (he : fragOf s' = fragOf F)
  (hp : ∀ p ∈ F.pers,p.φ w ∧ (∀ w',(∀ k,p.D k → w'.heap[k]? = w.heap[k]?) → p.φ w') ∧
   ∀ k,p.D k → k < w.heap.size ∧ (∀ b,b < F.next → ρ b ≠ k) ∧ ∀ r R,look F.rows r = some R → R.own = true → ¬ R.uses k) : FSat ρ F w:=by
 obtain ⟨n,slots,gs,heap,next,rows,nr,pers,wr,fx⟩:=s'
 obtain ⟨n',slots',gs',heap',next',rows',nr',pers',wr',fx'⟩:=F
 simp only [fragOf,Prod.mk.injEq] at he
 obtain ⟨rfl,rfl,rfl,rfl⟩:=he
 exact ⟨h.heap,h.inj,h.lt,h.rows,h.rowsD,hp⟩
theorem V.callK {α : Type} {f : FuncId} {ys : List CV} {F : St} {p : α → Prop} {v : α → RV} {F' : α → St} {c : Cfg} (pi : List (Nat × Bool)) (hk : CallsK C.P f ys F p v F')
  (hb : entersB C.P f = true) (hc : frameOf c = some (f,ys,fragOf F)) (hpi : getP pi c.st.pers = some (askP C.w0.heap.size C.S pi F.pers))
  (hu : ∀ x,okK c (F' x) (v x) = true) (k : ∀ x,p x → V C (behindK C.w0.heap.size C.S c (F' x) (v x))) : V C c:=by
 unfold frameOf at hc
 split at hc
 case h_2=>cases hc
 rename_i f1 xs hcall
 split at hc
 rename_i hs rs hcan
 split at hc
 case h_2=>cases hc
 rename_i ys1 s' hren hpk
 simp only [Option.some.injEq,Prod.mk.injEq] at hc
 obtain ⟨rfl,rfl,hfr⟩:=hc
 have hh : hsrs c = (hs,rs):=by unfold hsrs; rw [hcall]; exact hcan
 refine V.callM hcall (enters hb) (fun ρ a w hS=>?_)
 have hFs:=(hS.pick hpk).toF
 have hpn : s'.next = F.next:=by simp only [fragOf,Prod.mk.injEq] at hfr; exact hfr.2.1
 have hF : FSat (fun i=>ρ (hs.getD i 0)) F w:=by
  refine hFs.withPers hfr (fun q hq=>?_)
  have hbase : ∀ q' ∈ c.st.pers,q'.φ w ∧ (∀ w',(∀ k,q'.D k → w'.heap[k]? = w.heap[k]?) → q'.φ w') ∧
    ∀ k,q'.D k → k < w.heap.size ∧ (∀ b,b < F.next → ρ (hs.getD b 0) ≠ k) ∧ ∀ r R,look F.rows r = some R → R.own = true → ¬ R.uses k:=by
   intro q' hq'
   obtain ⟨p1,p2,p3⟩:=hS.pers q' hq'
   refine ⟨p1,p2,fun k hD=>⟨(p3 k hD).1,fun b hb'=>?_,fun r R hR ho hu'=>?_⟩⟩
   ·have hlt : hs.getD b 0 < c.st.next:=by
     have hn : b < s'.next:=by rw [hpn]; exact hb'
     have hpk2:=hpk
     unfold pickSt at hpk2
     split at hpk2
     case h_2=>cases hpk2
     rename_i sl hpp rows _ _ _ hhp _
     have hs':=Option.some.inj hpk2
     have hlen : b < hs.length:=by rw [← hs'] at hn; exact hn
     have : ∀ (l : List Nat) (i0 : Nat) (r : List (Nat × Blk)),pickHeap hs rs c.st.heap l i0 = some r → ∀ b ∈ l,∃ blk,look c.st.heap b = some blk:=by
      intro l
      induction l with
      | nil=>intro i0 r _ b hb; simp at hb
      | cons d l ih =>
       intro i0 r hr b hb
       simp only [pickHeap] at hr
       split at hr
       ·rename_i blk hc
        split at hr
        ·split at hr
         ·rename_i r' hr'
          rcases List.mem_cons.1 hb with rfl | hb
          ·exact ⟨blk,hc⟩
          ·exact ih _ _ hr' b hb
         ·cases hr
        ·cases hr
       ·cases hr
     obtain ⟨blk,hbk⟩:=this hs 0 hpp hhp (hs.getD b 0) (by simp [List.getD,List.getElem?_eq_getElem hlen])
     exact (hS.heap _ blk hbk).1
    exact (p3 k hD).2.1 _ hlt
   ·have hpk2:=hpk
    unfold pickSt at hpk2
    split at hpk2
    case h_2=>cases hpk2
    rename_i sl hpp rows _ _ _ _ hrows
    have hs':=Option.some.inj hpk2
    have hR' : look s'.rows r = some R:=by
     simp only [fragOf,Prod.mk.injEq] at hfr; rw [hfr.2.2.1]; exact hR
    rw [← hs'] at hR'
    obtain ⟨r2,_,_,h3⟩:=pickRows_ok hrows r R hR'
    exact (p3 k hD).2.2 r2 R h3 ho hu'
  rcases askP_mem (n0:=C.w0.heap.size) (S:=C.S) (l:=pi) q hq with h1 | h1
  ·exact hbase q (getP_mem hpi q h1)
  ·obtain ⟨p1,p2,p3⟩:=hbase _ (getP_mem hpi _ h1)
   exact ⟨p1.1,fun w' hw'=>(p2 w' hw').1,p3⟩
 have hys : xs.map (CV.den ρ) = ys1.map (CV.den (fun i=>ρ (hs.getD i 0))):=by
  have hpk2:=hpk
  unfold pickSt at hpk2
  split at hpk2
  case h_2=>cases hpk2
  rename_i sl hpp rows _ _ _ _ hrows
  have hRR : RowsRen rs c.st.W ⟨hs.length,rs.length,rows⟩:=by
   intro r' r R hr hl
   obtain ⟨r2,_,h2,h3⟩:=pickRows_ok hrows r' R hl
   simp only [Nat.sub_zero] at h2
   rw [hr] at h2
   cases h2
   exact h3
  exact ((renC_ok (ρ:=ρ) (W:=c.st.W) (W':=⟨hs.length,rs.length,rows⟩) rfl rfl hRR hren).1).symm
 refine ⟨_,by rw [hys]; exact hk _ w hF,?_⟩
 rintro e w' ⟨x,ρ',hp,rfl,k1,k2,k3,k4,k5,k6,k7,k8,k9,k10⟩
 have hux:=hu x
 unfold okK at hux
 rw [hh] at hux
 obtain ⟨u1,u2,u3⟩:=and3 hux
 have hkx:=k x hp
 unfold behindK at hkx
 rw [hh] at hkx
 have hfr' : (pickSt [] hs rs [] c.st).map fragOf = some (fragOf F):=by rw [hpk]; exact congrArg some hfr
 obtain ⟨ρ1,b1,b2,b3⟩:=hS.bringK (F':=F' x) hfr' u1 k1 k2 k3 k4 k5 k7 k8 k9 k10
 refine ⟨ρ1,(v x).bring (newHs hs c.st.next (F' x).next) c.st.nr,_,_,?_,b1,b3 _ k6,?_,afterD_some ?_,hkx⟩
 ·rw [RV.bring_den,RV.den_congr (W:=(F' x).W) (ρ:=ρ') b2 _ k6]
 ·intro g pol b y e
  cases hvx : v x with
  | grd=>rw [hvx] at u2; cases u2
  | v=>rw [hvx] at e; cases e
  | tup=>rw [hvx] at e; cases e
 ·rw [afterOp_bringK c hs rs _ 0 _ (fun _=>False)]; exact u3
def fixS (F : St) : SV → Option SV
 | .ptr b off=>match Nat.blt b F.next with
  | true=>some (.ptr b off)
  | false=>none
 | .row r _ _ _=>match look F.rows r,Nat.blt r F.nr with
  | some R,true=>some (.row r R.s R.n R.cap)
  | _,_=>none
 | .int k n=>some (.int k n)
 | .bool b=>some (.bool b)
 | .sb b=>some (.sb b)
 | .str l=>some (.str l)
 | .val v=>some (.val v)
 | .fn f cap=>match cap.all fun b=>Nat.blt b F.next with
  | true=>some (.fn f cap)
  | false=>none
 | .sli b n cap=>match Nat.blt b F.next with
  | true=>some (.sli b n cap)
  | false=>none
 | _=>none
def fixL (F : St) : List SV → Option (List SV)
 | []=>some []
 | x :: l=>match fixS F x,fixL F l with
  | some y,some m=>some (y :: m)
  | _,_=>none
def fixC (F : St) : CV → Option CV
 | .one x=>match fixS F x with
  | some y=>some (.one y)
  | none=>none
 | .agg xs=>match fixL F xs with
  | some ys=>some (.agg ys)
  | none=>none
def fixA (F : St) : List CV → Option (List CV)
 | []=>some []
 | x :: l=>match fixC F x,fixA F l with
  | some y,some m=>some (y :: m)
  | _,_=>none
theorem blt_lt {a b : Nat} (h : Nat.blt a b = true) : a < b:=Nat.le_of_ble_eq_true h
theorem fixS_wf {F : St} {x y : SV} (h : fixS F x = some y) : y.wf F.W:=by
 cases x with
 | ptr b off=>simp only [fixS] at h; split at h <;> cases h; rename_i hb; exact blt_lt hb
 | row r s n cap =>
  simp only [fixS] at h
  split at h
  ·rename_i R hR hr
   cases h
   exact ⟨blt_lt hr,fun R' hR'=>by rw [show look F.W.rows r = look F.rows r from rfl,hR] at hR'; cases hR'; exact ⟨rfl,rfl,rfl⟩⟩
  ·cases h
 | int k n=>cases h; trivial
 | bool b=>cases h; trivial
 | sb b=>cases h; trivial
 | str l=>cases h; trivial
 | val v=>cases h; trivial
 | fn f cap=>simp only [fixS] at h; split at h <;> cases h; rename_i hb; exact fun c hc=>blt_lt (List.all_eq_true.1 hb c hc)
 | sli b n cap=>simp only [fixS] at h; split at h <;> cases h; rename_i hb; exact blt_lt hb
 | el=>cases h
theorem fixL_wf {F : St} : ∀ {l m : List SV},fixL F l = some m → ∀ x ∈ m,x.wf F.W
 | [],m,h,x,hx=>by simp only [fixL,Option.some.injEq] at h; subst h; simp at hx
 | y :: l,m,h,x,hx=>by
  simp only [fixL] at h
  split at h
  ·rename_i z m' hz hm
   cases h
   rcases List.mem_cons.1 hx with rfl | hx
   ·exact fixS_wf hz
   ·exact fixL_wf hm x hx
  ·cases h
theorem fixC_wf {F : St} {x y : CV} (h : fixC F x = some y) : y.wf F.W:=by
 cases x with
 | one x=>simp only [fixC] at h; split at h <;> cases h; rename_i hx; exact fixS_wf hx
 | agg xs=>simp only [fixC] at h; split at h <;> cases h; rename_i hx; exact fixL_wf hx
theorem fixA_wf {F : St} : ∀ {l m : List CV},fixA F l = some m → ∀ x ∈ m,x.wf F.W
 | [],m,h,x,hx=>by simp only [fixA,Option.some.injEq] at h; subst h; simp at hx
 | y :: l,m,h,x,hx=>by
  simp only [fixA] at h
  split at h
  ·rename_i z m' hz hm
   cases h
   rcases List.mem_cons.1 hx with rfl | hx
   ·exact fixC_wf hz
   ·exact fixA_wf hm x hx
  ·cases h
theorem CallsK.mk {α : Type} {P : Program} {f : FuncId} {fn : Func} {ys : List CV} {F : St} {p : α → Prop} {v : α → RV} {F' : α → St} (wr : Bool) (hf : P.funcs[f]? = some fn)
  (hb : (fn.body.isSome && Nat.ble ys.length fn.ntmps) = true) (hw : fixA F ys = some ys)
  (h : ∀ ρ w,V ⟨P,f,GivesK ρ F p v F' w,touch ρ F,w,ρ,none⟩ ⟨[.code (bodyOf fn)],stF fn.ntmps ys F wr⟩) : CallsK P f ys F p v F':=by
 intro ρ w hF
 rw [Bool.and_eq_true] at hb
 exact Calls.of_F hF ys wr hf hb.1 hb.2 (fixA_wf hw) (h ρ w)
def endOf (P : Program) (f : FuncId) (n : Nat) (c : Cfg) : Option (RV × (List (Nat × Blk) × Nat × List (Nat × Row) × Nat)) :=
 match resOf P f c.st with
 | some u=>match canon c.st.heap (upto n 0) u.svs with
  | (hs,rs)=>match u.ren hs rs,pickSt [] hs rs [] c.st,preN n hs 0 with
   | some v,some s',true=>some (v,fragOf s')
   | _,_,_=>none
 | none=>none
def rwAll : List (Nat × Blk) → Bool
 | []=>true
 | (_,blk) :: l=>match blk.rw with
  | true=>rwAll l
  | false=>false
def rwNew (n : Nat) : List (Nat × Blk) → Bool
 | []=>true
 | (b,blk) :: l=>match Nat.blt b n,blk.rw with
  | false,false=>false
  | _,_=>rwNew n l
def rwOld (n : Nat) (hp0 : List (Nat × Blk)) : List (Nat × Blk) → Bool
 | []=>true
 | (b,blk) :: l=>match Nat.blt b n,blk.rw with
  | true,true=>match look hp0 b with
   | some blk0=>match blk0.rw with
    | true=>rwOld n hp0 l
    | false=>false
   | none=>false
  | _,_=>rwOld n hp0 l
theorem blt_of_lt {a b : Nat} (h : a < b) : Nat.blt a b = true:=Nat.ble_eq_true_of_le h
theorem not_blt {a b : Nat} (h : ¬ a < b) : Nat.blt a b = false:=by
 cases e : Nat.blt a b with
 | true=>exact absurd (blt_lt e) h
 | false=>rfl
theorem rwNew_ok {n : Nat} : ∀ {l : List (Nat × Blk)} {b : Nat} {blk : Blk},rwNew n l = true → look l b = some blk → n ≤ b → blk.rw = true
 | (k,q) :: l,b,blk,h,hl,hn=>by
  simp only [rwNew] at h
  simp only [look] at hl
  split at hl
  ·rename_i e
   have:=(beq_iff _ _).1 e
   subst this
   cases hl
   split at h
   ·cases h
   ·rename_i hno
    cases hrw : q.rw with
    | true=>rfl
    | false=>exact absurd hrw (hno (not_blt (by omega)))
  ·split at h
   ·cases h
   ·exact rwNew_ok h hl hn
theorem rwOld_ok {n : Nat} {hp0 : List (Nat × Blk)} : ∀ {l : List (Nat × Blk)} {b : Nat} {blk : Blk},rwOld n hp0 l = true → look l b = some blk → b < n → blk.rw = true → ∃ blk0,look hp0 b = some blk0 ∧ blk0.rw = true
 | (k,q) :: l,b,blk,h,hl,hn,hrw=>by
  simp only [rwOld] at h
  simp only [look] at hl
  split at hl
  ·rename_i e
   have:=(beq_iff _ _).1 e
   subst this
   cases hl
   rw [blt_of_lt hn,hrw] at h
   simp only at h
   split at h
   ·rename_i blk0 hb
    split at h
    ·rename_i h0; exact ⟨blk0,hb,h0⟩
    ·cases h
   ·cases h
  ·split at h
   ·split at h
    ·split at h
     ·exact rwOld_ok h hl hn hrw
     ·cases h
    ·cases h
   ·exact rwOld_ok h hl hn hrw
theorem preN_pre : ∀ {n : Nat} {l : List Nat} {i : Nat},preN n l i = true → ∀ b,b < n → l.getD b 0 = i + b
 | n,l,i,h,b,hb=>by
  have:=preN_spec h hb
  simp [List.getD,this]
theorem preN_len : ∀ {n : Nat} {l : List Nat} {i : Nat},preN n l i = true → n ≤ l.length
 | 0,_,_,_=>Nat.zero_le _
 | n + 1,b :: l,i,h=>by
  simp only [preN] at h
  split at h
  ·have:=preN_len h; simp; omega
  ·cases h
 | n + 1,[],_,h=>by cases h
theorem V.retK {P : Program} {f : FuncId} {w0 : World} {ρ0 : Nat → Nat} {F : St} {α : Type} {p : α → Prop} {v : α → RV} {F' : α → St} (x : α) (pi : List (Nat × Bool)) {c : Cfg}
  (hr : endOf P f F.next c = some (v x,fragOf (F' x))) (he : (isEnd c.todo && (Nat.beq c.st.fx F.next && (rwOld F.next F.heap (F' x).heap && (rwNew F.next (F' x).heap && (ownAll (F' x).rows && told (F' x).next (F' x).heap))))) = true)
  (hpi : getP pi c.st.pers = some ((F' x).pers.map (newP w0.heap.size (touch ρ0 F)))) (hp : p x) :
  V ⟨P,f,GivesK ρ0 F p v F' w0,touch ρ0 F,w0,ρ0,none⟩ c:=by
 simp only [Bool.and_eq_true] at he
 obtain ⟨e1,e2,e3,e4,e5,e6⟩:=he
 have hfx:=(beq_iff _ _).1 e2
 unfold endOf at hr
 split at hr
 case h_2=>cases hr
 rename_i u hu
 split at hr
 rename_i hs rs hcan
 split at hr
 case h_2=>cases hr
 rename_i v' s' hv hpk hpre
 simp only [Option.some.injEq,Prod.mk.injEq] at hr
 obtain ⟨rfl,hfr⟩:=hr
 refine V.ret u hu e1 (fun ρ a w hS=>?_)
 have hS':=hS.pick hpk
 have hfs:=hS'.toF
 have hpk':=hpk
 unfold pickSt at hpk'
 split at hpk'
 case h_2=>cases hpk'
 rename_i sl hpp rows hnd hndr hsl hhp hrows
 have hs':=Option.some.inj hpk'
 have hn' : s'.next = hs.length:=by rw [← hs']
 have hfr2:=hfr
 simp only [fragOf,Prod.mk.injEq] at hfr2
 obtain ⟨f1,f2,f3,f4⟩:=hfr2
 have hnext : (F' x).next = hs.length:=by rw [← f2,hn']
 have hpl:=preN_len hpre
 have hρ : ∀ b,b < F.next → ρ (hs.getD b 0) = ρ0 b:=by
  intro b hb
  rw [preN_pre hpre b hb,Nat.zero_add]
  exact (hS.fix b (by rw [hfx]; exact hb)).2
 have hW : s'.W = (F' x).W:=by simp only [St.W,f2,f3,f4]
 have hRR : RowsRen rs c.st.W ⟨hs.length,rs.length,rows⟩:=by
  intro r' r R hr hl
  obtain ⟨r2,_,h2,h3⟩:=pickRows_ok hrows r' R hl
  simp only [Nat.sub_zero] at h2
  rw [hr] at h2
  cases h2
  exact h3
 obtain ⟨r1,r2,_⟩:=RV.ren_ok (ρ:=ρ) (W:=c.st.W) (W':=⟨hs.length,rs.length,rows⟩) rfl rfl hRR hv
 have hwfu : u.wf c.st.W:=by
  replace hu:=(resOf_0 hu).1
  unfold resOf0 at hu
  split at hu
  ·rename_i fn _
   have hone : ∀ (l : List ResultVar) (xs : List CV),resList P c.st l = some xs → ∀ y ∈ xs,y.wf c.st.W:=by
    intro l
    induction l with
    | nil=>intro xs hx y hy; simp only [resList,Option.some.injEq] at hx; subst hx; simp at hy
    | cons q l ih =>
     intro xs hx y hy
     simp only [resList] at hx
     split at hx
     ·rename_i z hz
      split at hx
      ·rename_i zs hzs
       cases hx
       rcases List.mem_cons.1 hy with rfl | hy
       ·cases q with
        | tmp t =>
         simp only [resOne] at hz
         split at hz
         ·rename_i y' hl
          cases hz
          exact (hS.slots t _ hl).2
         ·cases hz
        | cell ad t =>
         simp only [resOne] at hz
         split at hz
         ·split at hz
          ·rename_i blk hbl
           obtain ⟨q1,q2,q3,q4⟩:=hS.heap _ blk hbl
           exact (cellsAt_load (ρ:=ρ) (w:=w) hz c.st.W q3 q2).2
          ·cases hz
         ·cases hz
       ·exact ih zs hzs y hy
      ·cases hx
     ·cases hx
   split at hu
   ·rename_i y hy; cases hu; exact hone _ _ hy y (List.mem_cons_self ..)
   ·rename_i xs _ hy; cases hu; exact hone _ _ hy
   ·cases hu
  ·cases hu
 have hWs : s'.W = ⟨hs.length,rs.length,rows⟩:=by rw [← hs']; rfl
 have hwv : (v x).wf (F' x).W:=by rw [← hW,hWs]; exact r2 hwfu
 have hbl : ∀ i blk,look (F' x).heap i = some blk → i < hs.length ∧ ∃ b0 blk0,hs.getD i 0 = b0 ∧ look c.st.heap b0 = some blk0 ∧ blk.rw = blk0.rw:=by
  intro i blk hl
  rw [← f1,← hs'] at hl
  obtain ⟨b,blk0,_,h2,h3,_,_,h6⟩:=pickHeap_ok hhp i blk hl
  simp only [Nat.sub_zero] at h2
  exact ⟨(List.getElem?_eq_some_iff.1 h2).1,b,blk0,by simp [List.getD,h2],h3,h6⟩
 have hpw : ∀ q ∈ (F' x).pers,newP w0.heap.size (touch ρ0 F) q ∈ c.st.pers:=fun q hq=>getP_mem hpi _ (List.mem_map.2 ⟨q,hq,rfl⟩)
 refine ⟨x,fun i=>ρ (hs.getD i 0),hp,by rw [r1],hρ,by rw [hnext]; exact hpl,?_,?_,fun b hb=>told_ok e6 (by rw [hnext]; omega),hwv,hS.chg,?_,?_,?_⟩
 ·intro b hb hb'
  obtain ⟨blk,hlk⟩:=told_ok e6 hb'
  have hrw:=rwNew_ok e4 hlk hb
  obtain ⟨_,b0,blk0,q1,q2,q3⟩:=hbl b blk hlk
  have:=(hS.heap b0 blk0 q2).2.2.2 (by rw [← q3]; exact hrw)
  simp only [q1]
  exact this
 ·refine hfs.withPers hfr (fun q hq=>?_)
  obtain ⟨p1,p2,p3⟩:=hS.pers _ (hpw q hq)
  refine ⟨p1.1,fun w' hw'=>(p2 w' hw').1,fun k hD=>⟨(p3 k hD).1,fun b hb=>?_,fun r R hR ho hu'=>?_⟩⟩
  ·obtain ⟨blk,hlk⟩:=told_ok e6 hb
   obtain ⟨_,b0,blk0,q1,q2,_⟩:=hbl b blk hlk
   simp only [q1]
   exact (p3 k hD).2.1 b0 (hS.heap b0 blk0 q2).1
  ·rw [← f3,← hs'] at hR
   obtain ⟨r2,_,_,h3⟩:=pickRows_ok hrows r R hR
   exact (p3 k hD).2.2 r2 R h3 ho hu'
 ·intro b blk hb hlk hrw; exact rwOld_ok e3 hlk hb hrw
 ·intro r R hR k hk
  have ho:=ownAll_ok e5 hR
  have hR' : look s'.rows r = some R:=by rw [f3]; exact hR
  rcases ((hS'.rows r R hR').2.2 k hk).2.2 ho with q | q
  ·exact .inr (.inr q)
  ·exact .inl ⟨ho,q⟩
 ·intro q hq k hD
  exact (hS.pers _ (hpw q hq)).1.2 k hD
end
theorem V.z {P : Program} {f : FuncId} {w0 : World} {ρ0 : Nat → Nat} {F : St} {v : Unit → RV} {F' : Unit → St} {c : Cfg} (hr : endOf P f F.next c = some (v (),fragOf (F' ())):=by kernel_rfl)
    (he : (isEnd c.todo && (Nat.beq c.st.fx F.next && (rwOld F.next F.heap (F' ()).heap && (rwNew F.next (F' ()).heap && (ownAll (F' ()).rows && told (F' ()).next (F' ()).heap))))) = true:=by kernel_rfl)
    (hpi : getP [] c.st.pers = some ((F' ()).pers.map (newP w0.heap.size (touch ρ0 F))):=by kernel_rfl) : V ⟨P,f,GivesK ρ0 F (fun _ : Unit=>True) v F' w0,touch ρ0 F,w0,ρ0,none⟩ c:=V.retK () [] hr he hpi trivial
end Go.SX
end
section
namespace Go.SX
open Go
def SV.ptrLt (ρ : Nat → Nat) (w : World) : SV → Prop
 | .ptr b _=>ρ b < w.heap.size
 | _=>True
structure Con (P : Program) where
 f : FuncId
 need : List Pers
 fn : List CV → Option (RV × List Prop)
 ok : ∀ xs v ob,fn xs = some (v,ob) → (∀ p ∈ ob,p) → ∀ (ρ : Nat → Nat) (w : World),PersOk need w → (∀ x ∈ xs,∀ y ∈ x.svs,y.ptrLt ρ w) → Calls P f (xs.map (CV.den ρ)).toArray w (Gives (v.den ρ) w)
structure Ent (P : Program) where
 sp : Con P
 is : List Nat
def findE {P : Program} : List (Ent P) → FuncId → Option (Ent P)
 | [],_=>none
 | e :: T,f=>match Nat.beq e.sp.f f with
  | true=>some e
  | false=>findE T f
def unrowS : SV → SV
 | .row _ s n c=>.val (.slice s n c)
 | x=>x
def unrowC : CV → CV
 | .one x=>.one (unrowS x)
 | .agg l=>.agg (l.map unrowS)
theorem unrowS_den (ρ : Nat → Nat) (x : SV) : (unrowS x).den ρ = x.den ρ:=by cases x <;> rfl
theorem unrowC_den (ρ : Nat → Nat) (x : CV) : (unrowC x).den ρ = x.den ρ:=by
 cases x with
 | one x=>exact unrowS_den ρ x
 | agg l =>
  simp only [unrowC,CV.den,List.map_map]
  congr 2
  exact List.map_congr_left (fun x _=>unrowS_den ρ x)
theorem unrow_map (ρ : Nat → Nat) (xs : List CV) : (xs.map unrowC).map (CV.den ρ) = xs.map (CV.den ρ):=by
 rw [List.map_map]
 exact List.map_congr_left (fun x _=>unrowC_den ρ x)
def callT {P : Program} (T : List (Ent P)) (n : Nat) (f : FuncId) (xs : List CV) : Option (RV × List Prop) :=
 match findE T f with
 | some e=>match entersB P f,(xs.map unrowC).all (wfC n) with
  | true,true=>match e.sp.fn (xs.map unrowC) with
   | some (v,ob)=>match wfR n v with
    | true=>some (v,ob)
    | false=>none
   | none=>none
  | _,_=>none
 | none=>none
def getE : List Nat → List Pers → List (Option Pers)
 | [],_=>[]
 | i :: l,ps=>ps.reverse[i]? :: getE l ps
def needT {P : Program} : List (Ent P) → List Pers → List (List (Option Pers))
 | [],_=>[]
 | e :: T,ps=>getE e.is ps :: needT T ps
def wantT {P : Program} : List (Ent P) → List (List (Option Pers))
 | []=>[]
 | e :: T=>e.sp.need.map some :: wantT T
theorem getE_mem : ∀ {l : List Nat} {ps qs : List Pers},getE l ps = qs.map some → ∀ q ∈ qs,q ∈ ps
 | [],ps,qs,h,q,hq=>by
  cases qs with
  | nil=>simp at hq
  | cons a l=>simp [getE] at h
 | i :: l,ps,qs,h,q,hq=>by
  cases qs with
  | nil=>simp at hq
  | cons a qs =>
   simp only [getE,List.map_cons,List.cons.injEq] at h
   rcases List.mem_cons.1 hq with rfl | hq
   ·exact List.mem_reverse.1 (List.mem_of_getElem? h.1)
   ·exact getE_mem h.2 q hq
theorem needT_ok {P : Program} : ∀ {T : List (Ent P)} {ps : List Pers},needT T ps = wantT T → ∀ e ∈ T,∀ q ∈ e.sp.need,q ∈ ps
 | [],ps,_,e,he=>by simp at he
 | e0 :: T,ps,h,e,he=>by
  simp only [needT,wantT,List.cons.injEq] at h
  rcases List.mem_cons.1 he with rfl | he
  ·exact getE_mem h.1
  ·exact needT_ok h.2 e he
theorem findE_mem {P : Program} : ∀ {T : List (Ent P)} {f : FuncId} {e : Ent P},findE T f = some e → e ∈ T ∧ e.sp.f = f
 | e0 :: T,f,e,h=>by
  simp only [findE] at h
  split at h
  ·rename_i hf; cases h; exact ⟨List.mem_cons_self ..,(beq_iff _ _).1 hf⟩
  ·obtain ⟨h1,h2⟩:=findE_mem h; exact ⟨List.mem_cons_of_mem _ h1,h2⟩
def isStoreO : Op → Bool
 | .store _ _ _=>true
 | _=>false
def findL (ops : Array Oper) : Nat → Nat → Nat
 | 0,_=>ops.size
 | n + 1,i=>match ops[i]? with
  | some o=>match isStoreO o.op with
   | true=>match lastB ops i with
    | true=>i
    | false=>findL ops n (i + 1)
   | false=>findL ops n (i + 1)
  | none=>ops.size
def loopT (P : Program) (T : List (Ent P)) (ops : Array Oper) (k : List Item) (h0 : List (Nat × Blk)) (r0 : List (Nat × Row)) (L : Nat) : Nat → DCfg → Option (Cfg × List Prop)
 | 0,_=>none
 | m + 1,d=>match endD P ops L d with
  | some s1=>some (⟨k,s1⟩,[])
  | none=>match Region.ready .any ops d.listed,d.fuel with
   | [i],n + 1=>match callD ops i d.st,ops[i]? with
    | some (none,f,xs),some o=>match callT T d.st.next f xs with
     | some (v,ob)=>match d.st.put o.dst v with
      | some s'=>match runDM P ops h0 r0 ops.size ⟨n,d.listed.setIfInBounds i true,s'⟩ with
       | (d',ob')=>match loopT P T ops k h0 r0 L m d' with
        | some (c',ob'')=>some (c',ob ++ (ob' ++ ob''))
        | none=>none
      | none=>none
     | none=>none
    | some (some (g,pol,b),f,xs),some o=>match callT T d.st.next f xs with
     | some (.v x,ob)=>match ({ d.st with gs:=addNat d.st.gs g } : St).put o.dst (.grd g pol b x) with
      | some s'=>match runDM P ops h0 r0 ops.size ⟨n,d.listed.setIfInBounds i true,s'⟩ with
       | (d',ob')=>match loopT P T ops k h0 r0 L m d' with
        | some (c',ob'')=>some (c',impAll b pol ob ++ (ob' ++ ob''))
        | none=>none
      | none=>none
     | _=>none
    | _,_=>none
   | _,_=>none
def drawB (P : Program) (T : List (Ent P)) (c : Cfg) (ops : Array Oper) (k : List Item) (L : Nat) : Option (Cfg × List Prop) :=
 match P.follows .mixedOrders,Region.noSelect ops,lastB ops L || Nat.ble ops.size L with
 | true,true,true=>match runDM P ops c.st.heap c.st.rows ops.size ⟨ops.size,Array.replicate ops.size false,c.st⟩ with
  | (d,ob)=>match loopT P T ops k c.st.heap c.st.rows L 50 d with
   | some (c',ob')=>some (c',ob ++ ob')
   | none=>none
 | _,_,_=>none
def drawT (P : Program) (T : List (Ent P)) (c : Cfg) : Option (Cfg × List Prop) :=
 match drawOf c with
 | some (ops,k)=>drawB P T c ops k (findL ops ops.size 0)
 | none=>none
def stepT (P : Program) (T : List (Ent P)) (c : Cfg) : Option (Cfg × List Prop) :=
 match sstep P c with
 | some r=>some r
 | none=>match callOf c with
  | some (none,f,xs)=>match callT T c.st.next f xs with
   | some (v,ob)=>match afterOp c c.st v with
    | some c'=>some (c',ob)
    | none=>none
   | none=>none
  | some (some (g,pol,b),f,xs)=>match callT T c.st.next f xs with
   | some (.v x,ob)=>match afterOp c { c.st with gs:=addNat c.st.gs g } (.grd g pol b x) with
    | some c'=>some (c',impAll b pol ob)
    | none=>none
   | _=>none
  | none=>drawT P T c
def runT (P : Program) (T : List (Ent P)) : Nat → Cfg → Cfg × List Prop
 | 0,c=>(c,[])
 | n + 1,c=>match stepT P T c with
  | none=>(c,[])
  | some (c',[])=>runT P T n c'
  | some (c',ob)=>match runT P T n c' with
   | (c'',ob')=>(c'',ob ++ ob')
section
theorem put_pers {s s' : St} {d : Option Nat} {v : RV} (h : s.put d v = some s') : s'.pers = s.pers:=by
 unfold St.put at h
 split at h
 ·cases h; rfl
 ·split at h
  ·cases h
  ·split at h
   ·cases h
   ·cases h; rfl
theorem opMem_pers {P : Program} {s s' : St} {gc : Option (Nat × Bool)} {v : RV} {op : Op} (h : opMem P s gc op = some (v,s')) : s'.pers = s.pers:=by
 unfold opMem at h
 repeat' split at h
 all_goals first | (cases h; rfl) | cases h
theorem opStore_pers {P : Program} {s s' : St} {gc : Option (Nat × Bool)} {op : Op} (h : opStore P s gc op = some s') : s'.pers = s.pers:=by
 unfold opStore at h
 repeat' split at h
 all_goals first | (cases h; rfl) | cases h
theorem stepO_pers {P : Program} {ops : Array Oper} {o : Oper} {s s' : St} {ob : List Prop} (h : stepO P ops o s = some (s',ob)) : s'.pers = s.pers:=by
 unfold stepO at h
 split at h
 ·split at h
  ·split at h
   ·rename_i hp; cases h; exact put_pers hp
   ·cases h
  ·split at h
   ·rename_i hm
    split at h
    ·rename_i hp; cases h; exact (put_pers hp).trans (opMem_pers hm)
    ·cases h
   ·split at h
    ·rename_i hs
     split at h
     ·cases h; exact opStore_pers hs
     ·cases h
    ·cases h
 ·split at h
  ·rename_i hp; cases h; exact put_pers hp
  ·cases h
 ·split at h
  ·split at h
   ·rename_i hp; cases h; exact (put_pers hp).trans rfl
   ·cases h
  ·cases h
 ·cases h
theorem sstep_pers {P : Program} {c c' : Cfg} {ob : List Prop} (h : sstep P c = some (c',ob)) : c'.st.pers = c.st.pers:=by
 unfold sstep at h
 split at h
 all_goals first
  | (cases h; done)
  | (cases h; rfl)
  | (split at h <;> first | (cases h; done) | (cases h; rfl) | skip)
 all_goals
  split at h
  ·rename_i hs; cases h; exact stepO_pers hs
  ·cases h
theorem afterOp_pers {c c' : Cfg} {s : St} {v : RV} (h : afterOp c s v = some c') : c'.st.pers = s.pers:=by
 unfold afterOp at h
 split at h
 ·split at h
  ·split at h
   ·rename_i hp; cases h; exact put_pers hp
   ·cases h
  ·cases h
 ·cases h
theorem stepPure_pers {P : Program} {ops : Array Oper} {h0 : List (Nat × Blk)} {r0 : List (Nat × Row)} {o : Oper} {s s' : St} {ob : List Prop} (h : stepPure P ops h0 r0 o s = some (s',ob)) : s'.pers = s.pers:=by
 unfold stepPure at h
 split at h
 ·split at h
  ·split at h
   ·rename_i hp; cases h; exact put_pers hp
   ·cases h
  ·cases h
 ·split at h
  ·rename_i hp; cases h; exact put_pers hp
  ·cases h
 ·split at h
  ·split at h
   ·rename_i hp; cases h; exact (put_pers hp).trans rfl
   ·cases h
  ·cases h
 ·cases h
theorem stepDM_pers {P : Program} {ops : Array Oper} {h0 : List (Nat × Blk)} {r0 : List (Nat × Row)} {d d' : DCfg} {ob : List Prop} (h : stepDM P ops h0 r0 d = some (d',ob)) : d'.st.pers = d.st.pers:=by
 unfold stepDM at h
 split at h
 ·cases h
 ·split at h
  ·rename_i ht
   cases h
   obtain ⟨_,o,_,_,hs⟩:=takeD_spec ht
   exact stepPure_pers hs
  ·split at h
   ·split at h
    ·split at h
     ·split at h
      ·rename_i hm
       split at h
       ·rename_i hp; cases h; exact (put_pers hp).trans (opMem_pers hm)
       ·cases h
      ·cases h
     ·cases h
    ·cases h
   ·cases h
theorem runDM_pers {P : Program} {ops : Array Oper} {h0 : List (Nat × Blk)} {r0 : List (Nat × Row)} : ∀ (m : Nat) (d : DCfg),(runDM P ops h0 r0 m d).1.st.pers = d.st.pers
 | 0,_=>rfl
 | m + 1,d=>by
  unfold runDM
  split
  ·rfl
  ·rename_i d' ob hs
   exact (runDM_pers m d').trans (stepDM_pers hs)
theorem endD_pers {P : Program} {ops : Array Oper} {L : Nat} {d : DCfg} {s : St} (h : endD P ops L d = some s) : s.pers = d.st.pers:=by
 unfold endD at h
 split at h
 ·cases h; rfl
 ·split at h
  ·split at h
   ·rename_i hs _ _; cases h; exact opStore_pers hs
   ·cases h
  ·cases h
 ·cases h
theorem loopT_pers {P : Program} {T : List (Ent P)} {ops : Array Oper} {k : List Item} {h0 : List (Nat × Blk)} {r0 : List (Nat × Row)} {L : Nat} : ∀ {m : Nat} {d : DCfg} {c' : Cfg} {ob : List Prop},loopT P T ops k h0 r0 L m d = some (c',ob) → c'.st.pers = d.st.pers
 | 0,_,_,_,h=>by cases h
 | m + 1,d,c',ob,h=>by
  unfold loopT at h
  split at h
  ·rename_i hs; cases h; exact endD_pers hs
  ·split at h
   ·split at h
    ·split at h
     ·split at h
      ·rename_i hp
       split at h
       rename_i d' ob' hrun
       split at h
       ·rename_i hl
        cases h
        have hpp:=put_pers hp
        exact ((loopT_pers hl).trans (by
         have h1:=congrArg (fun x=>x.1.st.pers) hrun
         simp only [runDM_pers] at h1
         exact h1.symm)).trans hpp
       ·cases h
      ·cases h
     ·cases h
    ·split at h
     ·split at h
      ·rename_i hp
       split at h
       rename_i d' ob' hrun
       split at h
       ·rename_i hl
        cases h
        have hpp:=put_pers hp
        exact ((loopT_pers hl).trans (by
         have h1:=congrArg (fun x=>x.1.st.pers) hrun
         simp only [runDM_pers] at h1
         exact h1.symm)).trans hpp
       ·cases h
      ·cases h
     ·cases h
    ·cases h
   ·cases h
theorem drawT_pers {P : Program} {T : List (Ent P)} {c c' : Cfg} {ob : List Prop} (h : drawT P T c = some (c',ob)) : c'.st.pers = c.st.pers:=by
 unfold drawT at h
 split at h
 ·unfold drawB at h
  split at h
  ·split at h
   rename_i d ob' hrun
   split at h
   ·rename_i hl
    cases h
    exact (loopT_pers hl).trans (by
     have h1:=congrArg (fun x=>x.1.st.pers) hrun
     simp only [runDM_pers] at h1
     exact h1.symm)
   ·cases h
  ·cases h
 ·cases h
theorem stepT_pers {P : Program} {T : List (Ent P)} {c c' : Cfg} {ob : List Prop} (h : stepT P T c = some (c',ob)) : c'.st.pers = c.st.pers:=by
 unfold stepT at h
 split at h
 ·rename_i hs; cases h; exact sstep_pers hs
 ·split at h
  ·split at h
   ·split at h
    ·rename_i ha; cases h; exact afterOp_pers ha
    ·cases h
   ·cases h
  ·split at h
   ·split at h
    ·rename_i ha; cases h; exact (afterOp_pers ha).trans rfl
    ·cases h
   ·cases h
  ·exact drawT_pers h
end
section
variable {C : Ctx}
theorem callT_ok {T : List (Ent C.P)} {s : St} {f : FuncId} {xs : List CV} {v : RV} {ob : List Prop} (hc : callT T s.next f xs = some (v,ob)) (hob : ∀ p ∈ ob,p) (hn : ∀ e ∈ T,∀ q ∈ e.sp.need,q ∈ s.pers) :
  entersB C.P f = true ∧ wfR s.next v = true ∧ ∀ ρ a w,Sat C ρ s a w → Calls C.P f (xs.map (CV.den ρ)).toArray w (Gives (v.den ρ) w):=by
 unfold callT at hc
 split at hc
 ·rename_i e he
  obtain ⟨hm,rfl⟩:=findE_mem he
  split at hc
  ·rename_i h1 h2
   split at hc
   ·rename_i v' ob' hfn
    split at hc
    ·rename_i h3
     cases hc
     refine ⟨h1,h3,fun ρ a w hS=>?_⟩
     rw [← unrow_map ρ xs]
     refine e.sp.ok (xs.map unrowC) v ob hfn hob ρ w (fun q hq=>?_) (fun x hx y hy=>?_)
     ·obtain ⟨p1,p2,p3⟩:=hS.pers q (hn e hm q hq)
      exact ⟨p1,p2,fun k hk=>(p3 k hk).1⟩
     ·have hwx:=List.all_eq_true.1 h2 x hx
      cases y with
      | ptr b off =>
       refine hS.lt b ?_
       cases x with
       | one z=>rcases List.mem_singleton.1 hy with rfl; exact Nat.blt_eq.mp hwx
       | agg zs=>exact Nat.blt_eq.mp (List.all_eq_true.1 hwx _ hy)
      | _=>trivial
    ·cases hc
   ·cases hc
  ·cases hc
 ·cases hc
theorem callT_grd {P : Program} {T : List (Ent P)} {n : Nat} {f : FuncId} {xs : List CV} {x : CV} {ob : List Prop} (hct : callT T n f xs = some (.v x,ob)) : entersB P f = true ∧ wfR n (.v x) = true:=by
 unfold callT at hct
 split at hct
 ·rename_i e he
  obtain ⟨hm,rfl⟩:=findE_mem he
  split at hct
  ·rename_i h1 h2
   split at hct
   ·split at hct
    ·rename_i h3; cases hct; exact ⟨h1,h3⟩
    ·cases hct
   ·cases hct
  ·cases hct
 ·cases hct
theorem loopT_sound {T : List (Ent C.P)} {D : Held} {ops : Array Oper} {k : List Item} {L : Nat} (hD : D.ok) (e3 : D.L = L) (hL : LastOp ops L ∨ ops.size ≤ L) (hsel : Region.noSelect ops = true) :
  ∀ {m : Nat} {d : DCfg} {c' : Cfg} {ob : List Prop},loopT C.P T ops k D.h0 D.r0 L m d = some (c',ob) → (∀ p ∈ ob,p) → (∀ e ∈ T,∀ q ∈ e.sp.need,q ∈ d.st.pers) → D.rows d.st → V C c' → VD C D ops k d
 | 0,_,_,_,h,_,_,_,_=>by cases h
 | m + 1,d,c',ob,h,hob,hn,hrw,hV=>by
  unfold loopT at h
  split at h
  ·rename_i s1 hs
   cases h
   exact VD.fin (by rw [e3]; exact hs) hV
  ·split at h
   ·rename_i i n hr hf
    split at h
    ·rename_i f xs o hc ho
     split at h
     ·rename_i v ob1 hct
      split at h
      ·rename_i s' hput
       split at h
       rename_i d' ob2 hrun
       split at h
       ·rename_i c2 ob3 hl
        cases h
        obtain ⟨b1,b2,b3⟩:=callT_ok (C:=C) hct (fun p hp=>hob p (List.mem_append_left _ hp)) hn
        obtain ⟨w1,w2⟩:=wfR_ok (W:=d.st.W) b2 rfl
        refine VD.call i f xs v hr hf ho hc (enters b1) hput w1 w2 b3 ?_
        have hW:=put_W hput
        have hrw2 : D.rows s':=⟨fun r R hR=>by rw [show s'.rows = d.st.rows from congrArg WF.rows hW]; exact hrw.1 r R hR,by rw [hW]; exact hrw.2⟩
        refine VD.runM hD (by rw [e3]; exact hL) hsel ops.size _ (by rw [hrun]; exact fun p hp=>hob p (List.mem_append_right _ (List.mem_append_left _ hp))) hrw2 (fun hrw3=>?_)
        have hp1:=runDM_pers (P:=C.P) (ops:=ops) (h0:=D.h0) (r0:=D.r0) ops.size ⟨n,d.listed.setIfInBounds i true,s'⟩
        rw [hrun] at hrw3 hp1 ⊢
        refine loopT_sound hD e3 hL hsel hl (fun p hp=>hob p (List.mem_append_right _ (List.mem_append_right _ hp))) (fun e he q hq=>?_) hrw3 hV
        rw [hp1,put_pers hput]
        exact hn e he q hq
       ·cases h
      ·cases h
     ·cases h
    ·rename_i g pol b f xs o hc ho
     split at h
     ·rename_i x ob1 hct
      split at h
      ·rename_i s' hput
       split at h
       rename_i d' ob2 hrun
       split at h
       ·rename_i c2 ob3 hl
        cases h
        have hW:=put_W hput
        have hrw2 : D.rows s':=⟨fun r R hR=>by rw [show s'.rows = d.st.rows from congrArg WF.rows hW]; exact hrw.1 r R hR,by rw [hW]; exact hrw.2⟩
        obtain ⟨b1,b2⟩:=callT_grd hct
        refine VD.callG i g pol b f xs x hr hf ho hc (enters b1) hput (wfC_ok (W:=d.st.W) b2 rfl) (fun hb=>(callT_ok (C:=C) hct (impAll_mem (fun p hp=>hob p (List.mem_append_left _ hp)) hb) hn).2.2) ?_
        refine VD.runM hD (by rw [e3]; exact hL) hsel ops.size _ (by rw [hrun]; exact fun p hp=>hob p (List.mem_append_right _ (List.mem_append_left _ hp))) hrw2 (fun hrw3=>?_)
        have hp1:=runDM_pers (P:=C.P) (ops:=ops) (h0:=D.h0) (r0:=D.r0) ops.size ⟨n,d.listed.setIfInBounds i true,s'⟩
        rw [hrun] at hrw3 hp1 ⊢
        refine loopT_sound hD e3 hL hsel hl (fun p hp=>hob p (List.mem_append_right _ (List.mem_append_right _ hp))) (fun e he q hq=>?_) hrw3 hV
        have hpp:=put_pers hput
        rw [hp1,show s'.pers = d.st.pers from hpp]
        exact hn e he q hq
       ·cases h
      ·cases h
     ·cases h
    ·cases h
   ·cases h
theorem drawT_sound {T : List (Ent C.P)} {c c' : Cfg} {ob : List Prop} (h : drawT C.P T c = some (c',ob)) (hob : ∀ p ∈ ob,p) (hn : ∀ e ∈ T,∀ q ∈ e.sp.need,q ∈ c.st.pers) (hV : V C c') : V C c:=by
 unfold drawT at h
 split at h
 ·rename_i ops k hc
  generalize findL ops ops.size 0 = L at h
  unfold drawB at h
  split at h
  ·rename_i hm hsel hL
   split at h
   rename_i d ob1 hrun
   split at h
   ·rename_i c2 ob2 hl
    cases h
    have hL' : LastOp ops L ∨ ops.size ≤ L:=by
     rw [Bool.or_eq_true] at hL
     rcases hL with hL | hL
     ·exact .inl (lastB_ok hL)
     ·exact .inr (Nat.le_of_ble_eq_true hL)
    refine V.draw [] [] L ops k hc hm (fun D hD h1 h2 h3 h4 _ hrw _ _=>?_) (by simp)
    rw [heldOf_nil] at h1 h3
    refine VD.runM hD (by rw [h4]; exact hL') hsel ops.size _ (by rw [h1,h3,hrun]; exact fun p hp=>hob p (List.mem_append_left _ hp)) hrw (fun hrw2=>?_)
    have hp1:=runDM_pers (P:=C.P) (ops:=ops) (h0:=c.st.heap) (r0:=c.st.rows) ops.size ⟨ops.size,Array.replicate ops.size false,c.st⟩
    rw [h1,h3,hrun] at hrw2 ⊢
    rw [hrun] at hp1
    refine loopT_sound hD h4 hL' hsel (by rw [h1,h3]; exact hl) (fun p hp=>hob p (List.mem_append_right _ hp)) (fun e he q hq=>?_) hrw2 hV
    rw [hp1]
    exact hn e he q hq
   ·cases h
  ·cases h
 ·cases h
theorem stepT_sound {T : List (Ent C.P)} {c c' : Cfg} {ob : List Prop} (h : stepT C.P T c = some (c',ob)) (hob : ∀ p ∈ ob,p) (hn : ∀ e ∈ T,∀ q ∈ e.sp.need,q ∈ c.st.pers) (hV : V C c') : V C c:=by
 unfold stepT at h
 split at h
 ·rename_i r hs; cases h; exact sstep_sound hs hob hV
 ·split at h
  ·rename_i f xs hc
   split at h
   ·rename_i v ob1 hct
    split at h
    ·rename_i c2 ha
     cases h
     obtain ⟨b1,b2,b3⟩:=callT_ok (C:=C) hct hob hn
     obtain ⟨w1,w2⟩:=wfR_ok (W:=c.st.W) b2 rfl
     refine V.callD f xs v hc (enters b1) (by rw [ha]; rfl) w1 w2 b3 ?_
     have : afterD c c.st v = c':=by unfold afterD; rw [ha]; rfl
     rw [this]; exact hV
    ·cases h
   ·cases h
  ·rename_i g pol b f xs hc
   split at h
   ·rename_i x ob1 hct
    split at h
    ·rename_i c2 ha
     cases h
     have : afterD c { c.st with gs:=addNat c.st.gs g } (.grd g pol b x) = c':=by unfold afterD; rw [ha]; rfl
     obtain ⟨b1,b2⟩ : entersB C.P f = true ∧ wfR c.st.next (.v x) = true:=by
      unfold callT at hct
      split at hct
      ·rename_i e he
       obtain ⟨hm,rfl⟩:=findE_mem he
       split at hct
       ·rename_i h1 h2
        split at hct
        ·split at hct
         ·rename_i h3; cases hct; exact ⟨h1,h3⟩
         ·cases hct
        ·cases hct
       ·cases hct
      ·cases hct
     refine V.callAD g pol b f xs x hc (enters b1) (by rw [ha]; rfl) (wfC_ok (W:=c.st.W) b2 rfl) (fun hb ρ a w hS=>?_) (by rw [this]; exact hV)
     exact (callT_ok (C:=C) hct (impAll_mem hob hb) hn).2.2 ρ a w hS
    ·cases h
   ·cases h
  ·exact drawT_sound h hob hn hV
theorem runT_sound {T : List (Ent C.P)} : ∀ (n : Nat) (c : Cfg),(∀ p ∈ (runT C.P T n c).2,p) → (∀ e ∈ T,∀ q ∈ e.sp.need,q ∈ c.st.pers) → V C (runT C.P T n c).1 → V C c
 | 0,c,_,_,h=>h
 | n + 1,c,hob,hn,h=>by
  unfold runT at hob h
  split at hob
  ·rename_i hs; rw [hs] at h; exact h
  ·rename_i c' hs
   rw [hs] at h
   exact stepT_sound hs (by simp) hn (runT_sound n c' hob (fun e he q hq=>by rw [stepT_pers hs]; exact hn e he q hq) h)
  ·rename_i c' ob hne hs
   rw [hs] at h
   have h' : V C (runT C.P T n c').1:=by
    revert h
    split
    ·rename_i heq; cases heq
    ·rename_i c3 heq; cases heq; exact (hne rfl).elim
    ·rename_i c3 ob3 _ heq; cases heq; exact id
   exact stepT_sound hs (fun p hp=>hob p (List.mem_append_left _ hp)) hn (runT_sound n c' (fun p hp=>hob p (List.mem_append_right _ hp)) (fun e he q hq=>by rw [stepT_pers hs]; exact hn e he q hq) h')
theorem V.runT (T : List (Ent C.P)) (ob : List Prop) {c : Cfg} (hr : (SX.runT C.P T 1000 c).2 = ob) (hn : needT T c.st.pers = wantT T) (ho : allP ob) (h : V C (SX.runT C.P T 1000 c).1) : V C c :=
 runT_sound 1000 c (hr ▸ allP_mem ho) (needT_ok hn) h
end
theorem V.q {C : Ctx} {c : Cfg} (h : V C (SX.runT C.P [] 1000 c).1) (hr : (SX.runT C.P [] 1000 c).2 = []:=by kernel_rfl) (hn : needT ([] : List (Ent C.P)) c.st.pers = wantT ([] : List (Ent C.P)):=by kernel_rfl) : V C c:=V.runT [] [] hr hn trivial h
end Go.SX
end
section
namespace Go.SX
open Go
def svsSlots (sl : List (Nat × RV)) : List Nat → List SV
 | []=>[]
 | k :: l=>match look sl k with
  | some v=>appendL v.svs (svsSlots sl l)
  | none=>svsSlots sl l
def headK (ks : List Nat) (pm : List Bool) (c : Cfg) : Option St :=
 match canon c.st.heap (upto c.st.fx 0) (svsSlots c.st.slots ks) with
 | (hs,rs)=>pickSt ks hs rs pm c.st
section
variable {C : Ctx}
theorem V.loopK (ks : List Nat) (pm : List Bool) {ι : Type} (μ : ι → Nat) (st : ι → St) (pre : ι → Prop) (i : ι) {c : Cfg}
  (hp : headK ks pm c = some (st i)) (hi : pre i)
  (hstep : ∀ i,pre i → (∀ j,pre j → μ j < μ i → V C ⟨(SX.iter c).todo,st j⟩) → V C ⟨(SX.iter c).todo,st i⟩) : V C c:=by
 unfold headK at hp
 split at hp
 exact V.loopAt ks _ _ pm μ st pre i hp hi hstep
theorem V.againK (ks : List Nat) (pm : List Bool) {T : List Item} {s' : St} {c : Cfg} (h : V C ⟨T,s'⟩) (hT : (SX.iter c).todo = T)
  (hp : headK ks pm c = some s') : V C c:=by
 unfold headK at hp
 split at hp
 exact V.again ks _ _ pm h hT hp
theorem V.backK (ks : List Nat) (pm : List Bool) {T : List Item} {s' : St} {c : Cfg} (h : V C ⟨T,s'⟩) (hT : c.todo = T) (hp : headK ks pm c = some s') : V C c:=by
 unfold headK at hp
 split at hp
 exact V.back ks _ _ pm h hT hp
def SV.froze (r : Nat) : SV → SV
 | .row r' s n cap=>match Nat.beq r r' with
  | true=>.val (.slice s n cap)
  | false=>.row r' s n cap
 | x=>x
def CV.froze (r : Nat) : CV → CV
 | .one x=>.one (x.froze r)
 | .agg xs=>.agg (xs.map (SV.froze r))
def RV.froze (r : Nat) : RV → RV
 | .v x=>.v (x.froze r)
 | .tup xs=>.tup (xs.map (CV.froze r))
 | .grd g pol c x=>.grd g pol c (x.froze r)
def mapK {α : Type} (f : α → α) : List (Nat × α) → List (Nat × α)
 | []=>[]
 | (k,v) :: l=>(k,f v) :: mapK f l
def Row.lent (R : Row) : Row:={ R with own:=false }
def St.froze (s : St) (r : Nat) (p : Pers) : St :=
 { s with slots:=mapK (RV.froze r) s.slots,heap:=mapK (fun b=>⟨b.cells.map (SV.froze r),b.elem,b.rw⟩) s.heap,rows:=eraseK r s.rows,pers:=p :: s.pers }
theorem look_mapK {α : Type} (f : α → α) : ∀ (l : List (Nat × α)) (i : Nat),look (mapK f l) i = (look l i).map f
 | [],i=>rfl
 | (k,v) :: l,i=>by
  simp only [mapK,look]
  split
  ·rfl
  ·exact look_mapK f l i
theorem SV.froze_den {r : Nat} {ρ : Nat → Nat} (x : SV) : (x.froze r).den ρ = x.den ρ:=by
 cases x with
 | row r' s n cap=>simp only [SV.froze]; split <;> rfl
 | _=>rfl
theorem CV.froze_den {r : Nat} {ρ : Nat → Nat} (x : CV) : (x.froze r).den ρ = x.den ρ:=by
 cases x with
 | one x=>exact SV.froze_den x
 | agg xs=>simp only [CV.froze,CV.den,List.map_map]; congr 2; exact List.map_congr_left fun x _=>SV.froze_den x
theorem RV.froze_den {r : Nat} {ρ : Nat → Nat} (x : RV) : (x.froze r).den ρ = x.den ρ:=by
 cases x with
 | v x=>exact CV.froze_den x
 | tup xs=>simp only [RV.froze,RV.den,List.map_map]; congr 2; exact List.map_congr_left fun x _=>CV.froze_den x
 | grd g pol c x=>simp only [RV.froze,RV.den,CV.froze_den]
theorem SV.froze_wf {r : Nat} {W W' : WF} (hW : W.le W') (x : SV) (h : x.wf W) : (x.froze r).wf W':=by
 cases x with
 | row r' s n cap =>
  simp only [SV.froze]
  split
  ·trivial
  ·exact SV.wf_mono hW _ h
 | _=>exact SV.wf_mono hW _ h
theorem CV.froze_wf {r : Nat} {W W' : WF} (hW : W.le W') (x : CV) (h : x.wf W) : (x.froze r).wf W':=by
 cases x with
 | one x=>exact SV.froze_wf hW x h
 | agg xs=>intro y hy; obtain ⟨z,hz,rfl⟩:=List.mem_map.1 hy; exact SV.froze_wf hW z (h z hz)
theorem RV.froze_wf {r : Nat} {W W' : WF} (hW : W.le W') (x : RV) (h : x.wf W) : (x.froze r).wf W':=by
 cases x with
 | v x=>exact CV.froze_wf hW x h
 | tup xs=>intro y hy; obtain ⟨z,hz,rfl⟩:=List.mem_map.1 hy; exact CV.froze_wf hW z (h z hz)
 | grd g pol c x=>exact fun hc=>CV.froze_wf hW x (h hc)
theorem pers_base {ρ : Nat → Nat} {a : Act} {w : World} {s : St} {pi : List (Nat × Bool)} {qs : List Pers} (hS : Sat C ρ s a w) (hq : getP pi s.pers = some (askP C.w0.heap.size C.S pi qs)) :
  ∀ q ∈ qs,q.φ w ∧ (∀ w',(∀ k,q.D k → w'.heap[k]? = w.heap[k]?) → q.φ w') ∧
   ∀ k,q.D k → k < w.heap.size ∧ (∀ b,b < s.next → ρ b ≠ k) ∧ ∀ r R,look s.rows r = some R → R.own = true → ¬ R.uses k:=by
 intro q hq'
 rcases askP_mem (n0:=C.w0.heap.size) (S:=C.S) (l:=pi) q hq' with h1 | h1
 ·exact hS.pers q (getP_mem hq q h1)
 ·obtain ⟨p1,p2,p3⟩:=hS.pers _ (getP_mem hq _ h1)
  exact ⟨p1.1,fun w' hw'=>(p2 w' hw').1,p3⟩
theorem V.persAs (pi : List (Nat × Bool)) (qs : List Pers) (p : Pers) {c : Cfg} (hq : getP pi c.st.pers = some (askP C.w0.heap.size C.S pi qs)) (hD : ∀ k,p.D k → ∃ q ∈ qs,q.D k) (hφ : ∀ w,(∀ q ∈ qs,q.φ w) → p.φ w)
  (hst : ∀ w w',(∀ k,p.D k → w'.heap[k]? = w.heap[k]?) → p.φ w → p.φ w')
  (h : V C ⟨c.todo,{ c.st with pers:=p :: c.st.pers }⟩) : V C c:=by
 intro ρ a w hS
 have hbase:=pers_base hS hq
 refine h ρ a w ⟨hS.n,hS.slots,hS.grds,hS.heap,hS.inj,hS.lt,hS.defers,hS.chg,hS.rows,hS.rowsD,?_,hS.fix⟩
 intro p' hp'
 rcases List.mem_cons.1 hp' with rfl | hp'
 ·have h0:=hφ w (fun q hq'=>(hbase q hq').1)
  refine ⟨h0,fun w' hw'=>hst w w' hw' h0,fun k hk=>?_⟩
  obtain ⟨q,hq',hk'⟩:=hD k hk
  exact (hbase q hq').2.2 k hk'
 ·exact hS.pers p' hp'
theorem rowP_stable (R : Row) : ∀ w w' : World,(∀ k,(rowP R).D k → w'.heap[k]? = w.heap[k]?) → (rowP R).φ w → (rowP R).φ w':=fun _ _ hw h=>Row.ok.congr h hw
end
end Go.SX
end
