/- A symbolic run of the program that Lean checks, and what the functions of the program come to by it: part 11 of 11. -/
import Derived.Test.YticgechhgdgjlaaGreatDoorRows
import Derived.Test.YticgechhgdgjlaaGreatDoorTie
import Derived.Test.YticgechhgdgjlaaGreatDoorCards
import Derived.JoinedOf
import Derived.KernelRfl
import Derived.SevenTiedAt
import Derived.ChangeMaps5
import Derived.ProofKit
import Derived.OpenShut
import Derived.Stop.Joined
import Derived.Test.YticgechhgdgjlaaGreatDoorRAJ
set_option linter.unusedVariables false
set_option linter.unusedSimpArgs false
section
namespace Go.Proofs
open Go Go.SX
set_option maxRecDepth 10000
set_option maxHeartbeats 4000000
def stkQ (L : LsA) (a : Int × SlA) : Prop:=a.2 = L.sl ∧ L.l.length ≤ 1000000
theorem stkX (L : LsA) : ExN Tryz.prog 91 L.need argOS rsT (stkQ L) (fun a r=>tyQ (stS a.1 L.l) r):=by
 rintro ⟨op,s⟩ ⟨h1,h2⟩
 simp only at h1
 subst h1
 exact strX L op h2
def unOS : List CV → Option (Int × SlA)
 | [.one (.int .i64 n),x]=>match slOf x with
  | some s=>some (n,s)
  | none=>none
 | _=>none
theorem unOS_den (xs : List CV) (a : Int × SlA) (h : unOS xs = some a) (ρ : Nat → Nat) : xs.map (CV.den ρ) = (argOS a).map (CV.den ρ):=by
 unfold unOS at h
 split at h
 case h_2=>cases h
 split at h
 case h_2=>cases h
 rename_i h1
 cases h
 simp only [argOS,List.map_cons,List.map_nil,slOf_den h1 ρ]
noncomputable def cStk (L : LsA) : Con Tryz.prog:=Con.exN (stkX L) unOS unOS_den
def AnyOK (t : Ty) : Prop:=ArOK t ∨ ChOK t ∨ BtOK t ∨ PtOK t
def cmpP (n : Int) (l : List Ty) : Prop:=l.length = 2 ∧ 0 ≤ n ∧ n ≤ 5 ∧ (l.getD 0 Ty0).k = (l.getD 1 Ty0).k ∧ AnyOK (l.getD 0 Ty0) ∧ AnyOK (l.getD 1 Ty0) ∧ ((l.getD 0 Ty0).k = 6 → n ≤ 1)
open Classical in
noncomputable def rsS (op n : Int) (l : List Ty) : Option Ty :=
 if op = 18 then (if cmpP n l then some ⟨4,1,0,false,[]⟩ else none)
 else if 5 ≤ op ∧ op ≤ 13 then (if op = 5 ∨ op = 11 then (if l.length = 1 then fxS op (l.getD 0 Ty0) (l.getD 0 Ty0) else none) else (if l.length = 2 then fxS op (l.getD 0 Ty0) (l.getD 1 Ty0) else none))
 else stS op l
def gNeed (L : LsA) : List Pers:=[rowP opR,rowP L.row]
noncomputable def entG (L : LsA) (k : Nat) (fn : Func) (ys : List CV) : Cfg :=
 ⟨[.code (bodyOf fn)],{ stO fn.ntmps ys (stP (gNeed L)) false with slots:=upd (enum ys 0) k (.v (.one (.row 0 L.q L.l.length L.c))),rows:=[(1000000,opR),(0,L.row)],nr:=1000001 }⟩
theorem CallsF.ofG {f : FuncId} {fn : Func} {ys : List CV} {G : Out → Prop} (L : LsA) (k : Nat) (hf : Tryz.prog.funcs[f]? = some fn) (hb : (fn.body.isSome && (Nat.ble ys.length fn.ntmps && (stP (gNeed L)).rows.isEmpty)) = true) (hw : fixA (stP (gNeed L)) ys = some ys)
  (hl : SX.look (enum ys 0) k = some (.v (.one (.val (.slice L.q L.l.length L.c))))) (h : ∃ o,G o ∧ ∀ ρ base w,V (ctxO Tryz.prog f ρ o w base) (entG L k fn ys)) : ∃ o,G o ∧ CallsF Tryz.prog f ys (stP (gNeed L)) o:=by
 obtain ⟨o,h1,h2⟩:=h
 refine ⟨o,h1,CallsF.mk false hf hb hw (fun ρ w=>?_)⟩
 refine V.asRow k 1 L.row hl rfl rfl rfl ?_
 exact V.tabs [(0,0,opR)] kq kq (h2 ρ ρ w)
def argR (L : LsA) (a : Int × Int) : List CV:=[vI a.1,vI a.2,L.sl.v]
noncomputable def TR38 (L : LsA) : List (Ent Tryz.prog):=[cWithin.e,cArith.e,cBitT.e,cPsc.e,cPfx.e,⟨cStk L,[0]⟩]
def rsU (r : Ty × Bool) : RV:=.tup [.agg (tyC r.1),vT r.2]
def tyU (o : Option Ty) (r : Ty × Bool) : Prop:=match o with
 | some t=>r = (t,true)
 | none=>r.2 = false
set_option maxHeartbeats 4000000
theorem like_any {l : List Ty} {ks : List UInt8} (h : likeP l ks) (j : Nat) (hj : j < l.length) : AnyOK (l.getD j Ty0):=by
 obtain ⟨h1,h2,h3⟩:=h.2 j hj
 by_cases e1 : ks.getD j 0 = 99
 ·exact .inr (.inl (h1 e1))
 by_cases e2 : ks.getD j 0 = 98
 ·exact .inr (.inr (.inl (h2 e2)))
 have:=h3 e1 e2
 exact .inl ⟨.inr ⟨this.1,this.2.1,this.2.2.1,this.2.2.2.1⟩,this.2.2.2.2.1,this.2.2.2.2.2⟩
theorem st_like {op : Int} {l : List Ty} {t : Ty} (h : stS op l = some t) : ∃ ks,likeP l ks:=by
 simp only [stS] at h
 grind (splits:=30)
theorem rs_all {op n : Int} {l : List Ty} {t : Ty} (h : rsS op n l = some t) (j : Nat) (hj : j < l.length) : AnyOK (l.getD j Ty0):=by
 unfold rsS at h
 split at h
 ·split at h
  ·rename_i hc
   obtain ⟨c1,_,_,_,c2,c3,_⟩:=hc
   match j,(show j < 2 by omega) with
   | 0,_=>exact c2
   | 1,_=>exact c3
  ·cases h
 ·split at h
  ·split at h
   ·split at h
    ·simp only [fxS] at h
     have : j = 0:=by omega
     subst this
     have : ArOK (l.getD 0 Ty0):=by grind
     exact .inl this
    ·cases h
   ·split at h
    ·simp only [fxS] at h
     have : ArOK (l.getD 0 Ty0) ∧ ArOK (l.getD 1 Ty0):=by grind
     match j,(show j < 2 by omega) with
     | 0,_=>exact .inl this.1
     | 1,_=>exact .inl this.2
    ·cases h
  ·obtain ⟨ks,hk⟩:=st_like h
   exact like_any hk j hj
set_option maxHeartbeats 1000000
section
variable (L : LsA)
abbrev l0 : Ty:=L.l.getD 0 Ty0
abbrev l1 : Ty:=L.l.getD 1 Ty0
noncomputable def r13S : r13I → Sh
 | .e a=>.leaf
 | .l a i=>(.cond (decide (i < (↑L.l.length : Int))) (.ob [0 ≤ i ∧ i < (↑L.l.length : Int),scaQ (L.l.getD i.toNat Ty0)] (.cond (!vN scaX (L.l.getD i.toNat Ty0)) (.ret (RV.tup [CV.agg (tyC Ty0),CV.one (SV.int IntKind.i64 1)])) (.ob [inK IntKind.i64 (i + 1)] .leaf))) (.cond (a.1 == 5 || a.1 == 11) (.ob [((↑L.l.length : Int) != 1) = false → (0 : Int) ≤ 0 ∧ 0 < (↑L.l.length : Int)] (.cond ((↑L.l.length : Int) != 1 || !((l0 L).k == 1 || (l0 L).k == 2)) (.ret (RV.tup [CV.agg (tyC Ty0),CV.one (SV.int IntKind.i64 1)])) (.ob [(0 : Int) ≤ 0 ∧ 0 < (↑L.l.length : Int)] (.ret (RV.tup [CV.agg (tyC (vN rfxX (a.1,(l0 L),Ty0)).fst),CV.one (SV.int IntKind.i64 (bif (vN rfxX (a.1,(l0 L),Ty0)).snd != 0 then 1 else 0))]))))) (.cond (decide (a.1 ≥ 6) && decide (a.1 ≤ 13)) (.ob [((↑L.l.length : Int) != 2) = false → (0 : Int) ≤ 0 ∧ 0 < (↑L.l.length : Int),((↑L.l.length : Int) != 2 || !((l0 L).k == 1 || (l0 L).k == 2)) = false → (0 : Int) ≤ 1 ∧ 1 < (↑L.l.length : Int),((↑L.l.length : Int) != 2 || !((l0 L).k == 1 || (l0 L).k == 2)) = false → (0 : Int) ≤ 0 ∧ 0 < (↑L.l.length : Int)] (.cond ((↑L.l.length : Int) != 2 || !((l0 L).k == 1 || (l0 L).k == 2) || (l1 L).k != (l0 L).k) (.ret (RV.tup [CV.agg (tyC Ty0),CV.one (SV.int IntKind.i64 1)])) .leaf)) (.cond (decide (a.1 ≥ 14) && decide (a.1 ≤ 17) || decide (a.1 ≥ 19) && decide (a.1 ≤ 24)) (.ob [rskQ L (a.1,L.sl)] (.ret (RV.tup [CV.agg (tyC (vN (rskX L) (a.1,L.sl)).fst),CV.one (SV.int IntKind.i64 (bif (vN (rskX L) (a.1,L.sl)).snd != 0 then 1 else 0))]))) (.ob [(a.1 != 18 || (↑L.l.length : Int) != 2 || decide (a.2 < 0) || decide (a.2 > 5)) = false → (0 : Int) ≤ 0 ∧ 0 < (↑L.l.length : Int),(a.1 != 18 || (↑L.l.length : Int) != 2 || decide (a.2 < 0) || decide (a.2 > 5)) = false → (0 : Int) ≤ 1 ∧ 1 < (↑L.l.length : Int),(a.1 != 18 || (↑L.l.length : Int) != 2 || decide (a.2 < 0) || decide (a.2 > 5) || (l0 L).k != (l1 L).k) = false → (0 : Int) ≤ 0 ∧ 0 < (↑L.l.length : Int),(a.1 != 18 || (↑L.l.length : Int) != 2 || decide (a.2 < 0) || decide (a.2 > 5) || (l0 L).k != (l1 L).k || (l0 L).k == 5) = false → (0 : Int) ≤ 0 ∧ 0 < (↑L.l.length : Int)] (.cond (a.1 != 18 || (↑L.l.length : Int) != 2 || decide (a.2 < 0) || decide (a.2 > 5) || (l0 L).k != (l1 L).k || (l0 L).k == 5 || (l0 L).k == 6 && decide (a.2 > 1)) (.ret (RV.tup [CV.agg (tyC Ty0),CV.one (SV.int IntKind.i64 1)])) (.ret (RV.tup [CV.agg (tyC ⟨4,1,0,false,[]⟩),CV.one (SV.int IntKind.i64 0)]))))))))
noncomputable def r13O (a : Int × Int) : Ty × Int:=((vN rfxX (a.1,l0 L,l1 L)).1,bif (vN rfxX (a.1,l0 L,l1 L)).2 != 0 then 1 else 0)
noncomputable def r13N : r13I → Nat → r13I ⊕ Out
 | .e a,_=>.inl (.l a 0)
 | .l a i,0=>.inl (.l a (i + 1))
 | .l a i,_=>.inr (.ret (rsT (r13O L a)))
theorem r13out {a : Int × Int} {i : Int} {ρ base : Nat → Nat} {w : World} (hl : L.l.length = 2) : V (ctxO Tryz.prog 13 ρ (.ret (rsT (r13O L a))) w base) (leafN (treeY Tryz.prog xt13 13 (T13 L) 69 40 (r13C L (.l a i) ())) 1 (r13C L (.l a i) ())):=by
 refine V.drawN [] 13 kq (fun S w2 hconv=>?_)
 refine @VX.run _ [] [sent] 13 _ _ ([] : List (Ent Tryz.prog)) [(0 : Int) ≤ 0 ∧ 0 < (L.l.length : Int),(0 : Int) ≤ 1 ∧ 1 < (L.l.length : Int)] kq kq ⟨⟨by omega,by omega⟩,⟨by omega,by omega⟩⟩ ?_
 refine @VX.two _ [] [sent] 13 _ _ ([cRfx0.e] : List (Ent Tryz.prog)) [] 7 11 kq kq kq kq kq trivial ?_ ?_
 ·refine @VX.run _ [] [sent] 13 _ _ ([] : List (Ent Tryz.prog)) [] kq kq trivial ?_
  refine @VX.storeN _ [] 13 _ _ 12 kq kq kq ?_
  refine @VX.run _ [] [sent] 13 _ _ ([] : List (Ent Tryz.prog)) [] kq kq trivial ?_
  refine @VX.stop _ [] [sent] 13 _ _ kq (hconv _ ?_)
  exact V.shY (X:=xt13) (T13 L) 69 wrE hMu kq 40 (.ret (rsT (r13O L a))) kq kq (fun q hq=>absurd hq List.not_mem_nil) (fun _=>False) ⟨rfl,rfl⟩ (fun _ _ _ hf=>hf.elim)
 ·refine @VX.run _ [] [sent] 13 _ _ ([cRfx0.e] : List (Ent Tryz.prog)) [] kq kq trivial ?_
  refine @VX.storeN _ [] 13 _ _ 12 kq kq kq ?_
  refine @VX.run _ [] [sent] 13 _ _ ([] : List (Ent Tryz.prog)) [] kq kq trivial ?_
  refine @VX.stop _ [] [sent] 13 _ _ kq (hconv _ ?_)
  exact V.shY (X:=xt13) (T13 L) 69 wrE hMu kq 40 (.ret (rsT (r13O L a))) kq kq (fun q hq=>absurd hq List.not_mem_nil) (fun _=>False) ⟨rfl,rfl⟩ (fun _ _ _ hf=>hf.elim)
end
set_option maxHeartbeats 1000000
def tyQ1 (o : Option Ty) (r : Ty × Int) : Prop:=match o with
 | some t=>r = (t,0)
 | none=>r = (Ty0,1)
theorem tyQ1_of {o o' : Option Ty} {r : Ty × Int} (h : tyQ o r) (e : o' = o) : tyQ1 o' (r.1,bif r.2 != 0 then 1 else 0):=by
 subst e
 unfold tyQ at h
 unfold tyQ1
 cases o' with
 | some t=>simp only at h ⊢; rw [h]; rfl
 | none =>
  obtain ⟨h1,h2⟩:=h
  simp only at h1 h2 ⊢
  have : (r.2 != 0) = true:=by simpa using h2
  rw [h1,this]; rfl
section
variable (L : LsA)
def r13M : r13I → Nat
 | .e a=>L.l.length + 2
 | .l a i=>((L.l.length : Int) - i).toNat + 1
def r13P (a0 : Int × Int) : r13I → Prop
 | .e a=>a = a0
 | .l a i=>a = a0 ∧ 0 ≤ i ∧ i ≤ (L.l.length : Int) ∧ ∀ j : Nat,(j : Int) < i → vN scaX (L.l.getD j Ty0) = true
theorem any_k {t : Ty} (h : AnyOK t) : t.k ≠ 5:=by
 simp only [AnyOK,ArOK,ChOK,BtOK,PtOK] at h
 omega
theorem sca_iff (t : Ty) (hs : t.s.length ≤ 1000000) : t.k ≠ 5 → (vN scaX t = true ↔ AnyOK t):=(vN_ok scaX t hs).2
theorem fx_un {op : Int} {a b : Ty} (h : op = 5 ∨ op = 11) : fxS op a b = fxS op a a:=by simp only [fxS]; grind
theorem rs_un {op n : Int} {l : List Ty} (h : op = 5 ∨ op = 11) (hl : l.length = 1) : rsS op n l = fxS op (l.getD 0 Ty0) (l.getD 0 Ty0):=by simp only [rsS]; grind
theorem rs_un0 {op n : Int} {l : List Ty} (h : op = 5 ∨ op = 11) (hn : l.length ≠ 1 ∨ ¬ ((l.getD 0 Ty0).k = 1 ∨ (l.getD 0 Ty0).k = 2)) : rsS op n l = none:=by simp only [rsS,fxS,ArOK]; grind
theorem rs_bin {op n : Int} {l : List Ty} (h : 6 ≤ op ∧ op ≤ 13) (h2 : ¬ (op = 5 ∨ op = 11)) (hl : l.length = 2) : rsS op n l = fxS op (l.getD 0 Ty0) (l.getD 1 Ty0):=by simp only [rsS]; grind
theorem rs_bin0 {op n : Int} {l : List Ty} (h : 6 ≤ op ∧ op ≤ 13) (h2 : ¬ (op = 5 ∨ op = 11)) (hn : l.length ≠ 2 ∨ ¬ ((l.getD 0 Ty0).k = 1 ∨ (l.getD 0 Ty0).k = 2) ∨ (l.getD 1 Ty0).k ≠ (l.getD 0 Ty0).k) : rsS op n l = none:=by simp only [rsS,fxS,ArOK]; grind
theorem rs_str {op n : Int} {l : List Ty} (h : 14 ≤ op ∧ op ≤ 17 ∨ 19 ≤ op ∧ op ≤ 24) : rsS op n l = stS op l:=by simp only [rsS]; grind
theorem rs_out {op n : Int} {l : List Ty} (h : ¬ (op = 5 ∨ op = 11)) (h1 : ¬ (6 ≤ op ∧ op ≤ 13)) (h2 : ¬ (14 ≤ op ∧ op ≤ 17 ∨ 19 ≤ op ∧ op ≤ 24)) (h3 : op ≠ 18) : rsS op n l = none:=by simp only [rsS,stS]; grind (splits:=30)
theorem rs_cmp {n : Int} {l : List Ty} (h : cmpP n l) : rsS 18 n l = some ⟨4,1,0,false,[]⟩:=by simp only [rsS]; grind
theorem rs_cmp0 {n : Int} {l : List Ty} (h : ¬ cmpP n l) : rsS 18 n l = none:=by simp only [rsS]; grind
end
end Go.Proofs
end
section
namespace Go.SX
open Go
section
variable {P : Program} {f : FuncId}
theorem cutsK (X : Ext P) {T : List (Ent P)} {mu : FuncId} {wr : Int → List PanicEntry} (hmu : ∀ b e,CallsF P mu [.one (.sb b),.one (.int .i64 e)] (stP []) (if b then .ret (.tup []) else .pan (wr e)))
  (hent : (entersB P mu && (P.funcs[f]?).isSome) = true) {ι Y : Type} (n : Nat) (cf : ι → Y → Cfg) (sh : ι → Sh) (nx : ι → Nat → ι ⊕ Out) (μ : ι → Nat) (I : ι → Prop) (K : ι → Nat → Prop) (G : Out → Prop)
  (hsh : ∀ i x,(treeY P X f T mu n (cf i x)).sh = sh i) (hn : ∀ i x,needT T (cf i x).st.pers = wantT T) (hx : ∀ i x,∀ q ∈ X.need,q ∈ (cf i x).st.pers)
  (hok : ∀ i,I i → Sh.okE wr G (fun j=>K i j ∧ match nx i j with | .inl i'=>I i' ∧ μ i' < μ i | .inr o=>G o) 0 (sh i))
  (hback : ∀ i x j,I i → K i j → j < (sh i).n → match nx i j with
   | .inl i'=>∀ ρ base w o,(∀ y,V (ctxO P f ρ o w base) (cf i' y)) → V (ctxO P f ρ o w base) (leafN (treeY P X f T mu n (cf i x)) j (cf i x))
   | .inr o=>∀ ρ base w,V (ctxO P f ρ o w base) (leafN (treeY P X f T mu n (cf i x)) j (cf i x))) :
  ∀ (k : Nat) (i : ι),μ i < k → I i → ∃ o,G o ∧ ∀ x ρ base w,V (ctxO P f ρ o w base) (cf i x)
 | 0,i,h,_=>absurd h (Nat.not_lt_zero _)
 | k + 1,i,h,hi=>by
  rcases Sh.okE_way (sh i) 0 (hok i hi) with ⟨o,h1,h2⟩ | ⟨j,h1,h2,h3⟩
  ·exact ⟨o,h1,fun x ρ base w=>V.shY T mu wr hmu hent n (sh i) (hsh i x) (hn i x) (hx i x) (fun _=>False) h2 (fun _ _ _ hf=>hf.elim)⟩
  ·obtain ⟨hK,h1⟩:=h1
   have hb:=fun x=>hback i x j hi hK (by omega)
   cases hnx : nx i j with
   | inl i' =>
    rw [hnx] at h1
    simp only [hnx] at hb
    obtain ⟨o,g1,g2⟩:=cutsK X hmu hent n cf sh nx μ I K G hsh hn hx hok hback k i' (by omega) h1.1
    refine ⟨o,g1,fun x ρ base w=>V.shY T mu wr hmu hent n (sh i) (hsh i x) (hn i x) (hx i x) (fun k=>k = j) (h3 o) (fun j' c' hj he=>?_)⟩
    subst he
    have:=hb x ρ base w o (fun y=>g2 y ρ base w)
    rw [leafN_some (c:=cf i x) hj] at this
    exact this
   | inr o =>
    rw [hnx] at h1
    simp only [hnx] at hb
    refine ⟨o,h1,fun x ρ base w=>V.shY T mu wr hmu hent n (sh i) (hsh i x) (hn i x) (hx i x) (fun k=>k = j) (h3 o) (fun j' c' hj he=>?_)⟩
    subst he
    have:=hb x ρ base w
    rw [leafN_some (c:=cf i x) hj] at this
    exact this
end
end Go.SX
end
section
namespace Go.Proofs
open Go Go.SX
set_option maxRecDepth 10000
set_option maxHeartbeats 4000000
theorem r13X (L : LsA) (hL : L.l.length ≤ 1000000) (hs : ∀ j,j < L.l.length → (L.l.getD j Ty0).s.length ≤ 1000000) (a0 : Int × Int) :
  ∃ o,(∃ r,o = .ret (rsT r) ∧ tyQ1 (rsS a0.1 a0.2 L.l) r) ∧ CallsF Tryz.prog 13 (argR3 L a0) (stP L.need) o:=by
 suffices h : ∃ o,(∃ r,o = .ret (rsT r) ∧ tyQ1 (rsS a0.1 a0.2 L.l) r) ∧ ∀ x ρ base w,V (ctxO Tryz.prog 13 ρ o w base) (r13C L (.e a0) x) by
  obtain ⟨o,h1,h2⟩:=h
  exact CallsF.ofR L 2 Tryz.func13 kq kq kq ⟨o,h1,fun ρ base w=>h2 () ρ base w⟩
 refine cutsK xt13 hMu kq (T:=T13 L) 40 (r13C L) (r13S L) (r13N L) (r13M L) (r13P L a0) (fun i j=>match i,j with | .l _ _,1=>L.l.length = 2 | _,_=>True) (fun o=>∃ r,o = .ret (rsT r) ∧ tyQ1 (rsS a0.1 a0.2 L.l) r) (fun i x=>by cases i <;> kernel_rfl) (fun i x=>by cases i <;> kernel_rfl) (fun i x q hq=>absurd hq List.not_mem_nil) ?_ (fun i x j hi hK hj=>?_) _ (.e a0) (Nat.lt_succ_self _) rfl
 ·intro i hi
  cases i with
  | e a =>
   have hi : a = a0:=hi
   subst hi
   exact ⟨trivial,⟨rfl,Int.le_refl _,by omega,fun j hj=>by omega⟩,by simp only [r13M]; omega⟩
  | l a i =>
   obtain ⟨g1,g2,g3,g4⟩:=hi
   subst g1
   refine ⟨fun h=>?_,fun h=>?_⟩
   ·have h:=of_decide_eq_true h
    have hq:=hs i.toNat (by omega)
    refine ⟨⟨⟨by omega,by omega⟩,hq⟩,fun hb=>⟨⟨(Ty0,1),rfl,?_⟩,rfl⟩,fun hb=>⟨⟨by omega,by omega⟩,trivial,⟨rfl,by omega,by omega,fun j hj=>?_⟩,by simp only [r13M]; omega⟩⟩
    ·cases hr : rsS a.1 a.2 L.l with
     | none=>rfl
     | some t =>
      have h1:=rs_all hr i.toNat (by omega)
      have h2:=(sca_iff _ hq (any_k h1)).2 h1
      rw [h2] at hb; cases hb
    ·by_cases e : (j : Int) = i
     ·have : i.toNat = j:=by omega
      rw [this] at hb; simpa using hb
     ·exact g4 j (by omega)
   ·have h:=of_decide_eq_false h
    have hall : ∀ j,j < L.l.length → (L.l.getD j Ty0).k ≠ 5 → AnyOK (L.l.getD j Ty0):=fun j hj hk=>(sca_iff _ (hs j hj) hk).1 (g4 j (by omega))
    have bad : rsS a.1 a.2 L.l = none → tyQ1 (rsS a.1 a.2 L.l) (Ty0,1):=fun e=>by rw [e]; rfl
    refine ⟨fun c1=>?_,fun c1=>?_⟩
    ·have c1 : a.1 = 5 ∨ a.1 = 11:=by simpa using c1
     refine ⟨fun g=>by have g : (L.l.length : Int) = 1:=(by simpa using g); exact ⟨by omega,by omega⟩,fun c2=>⟨⟨(Ty0,1),rfl,bad (rs_un0 c1 ?_)⟩,rfl⟩,fun c2=>?_⟩
     ·simp only [Bool.or_eq_true,bne_iff_ne,ne_eq,Bool.not_eq_true',Bool.or_eq_false_iff,beq_eq_false_iff_ne] at c2
      rcases c2 with c2 | c2
      ·exact .inl (by omega)
      ·exact .inr (fun e=>e.elim c2.1 c2.2)
     ·simp only [Bool.or_eq_false_iff,bne_eq_false_iff_eq,Bool.not_eq_false',Bool.or_eq_true,beq_iff_eq] at c2
      have hl : L.l.length = 1:=by omega
      refine ⟨⟨by omega,by omega⟩,⟨_,rfl,tyQ1_of (vN_ok rfxX (a.1,l0 L,Ty0) trivial).2 ?_⟩,rfl⟩
      rw [rs_un c1 hl]
      exact (fx_un c1).symm
    ·have c1 : ¬ (a.1 = 5 ∨ a.1 = 11):=by simpa using c1
     refine ⟨fun c2=>?_,fun c2=>?_⟩
     ·simp only [Bool.and_eq_true,decide_eq_true_eq] at c2
      refine ⟨⟨fun g=>?_,fun g=>?_,fun g=>?_⟩,fun c3=>⟨⟨(Ty0,1),rfl,bad (rs_bin0 c2 c1 ?_)⟩,rfl⟩,fun c3=>?_⟩
      ·have g : (L.l.length : Int) = 2:=by simpa using g
       exact ⟨by omega,by omega⟩
      ·simp only [Bool.or_eq_false_iff,bne_eq_false_iff_eq] at g
       exact ⟨by omega,by omega⟩
      ·simp only [Bool.or_eq_false_iff,bne_eq_false_iff_eq] at g
       exact ⟨by omega,by omega⟩
      ·simp only [Bool.or_eq_true,bne_iff_ne,ne_eq,Bool.not_eq_true',Bool.or_eq_false_iff,beq_eq_false_iff_ne] at c3
       rcases c3 with (c3 | c3) | c3
       ·exact .inl (by omega)
       ·exact .inr (.inl (fun e=>e.elim c3.1 c3.2))
       ·exact .inr (.inr c3)
      ·simp only [Bool.or_eq_false_iff,bne_eq_false_iff_eq] at c3
       refine ⟨(by show L.l.length = 2; omega),_,rfl,?_⟩
       exact tyQ1_of (vN_ok rfxX (a.1,l0 L,l1 L) trivial).2 (rs_bin c2 c1 (by omega))
     ·have c2' : ¬ (6 ≤ a.1 ∧ a.1 ≤ 13):=fun e=>by simp [e.1,e.2] at c2
      refine ⟨fun c3=>?_,fun c3=>?_⟩
      ·simp only [Bool.or_eq_true,Bool.and_eq_true,decide_eq_true_eq] at c3
       exact ⟨⟨rfl,hL⟩,⟨_,rfl,tyQ1_of (vN_ok (rskX L) (a.1,L.sl) ⟨rfl,hL⟩).2 (rs_str c3)⟩,rfl⟩
      ·have c3' : ¬ (14 ≤ a.1 ∧ a.1 ≤ 17 ∨ 19 ≤ a.1 ∧ a.1 ≤ 24):=fun e=>by rcases e with e | e <;> simp [e.1,e.2] at c3
       have hlen : ∀ b : Bool,(a.1 != 18 || (L.l.length : Int) != 2 || b) = false → L.l.length = 2:=fun b g=>by
        simp only [Bool.or_eq_false_iff,bne_eq_false_iff_eq] at g
        omega
       have hix : L.l.length = 2 → ((0 : Int) ≤ 0 ∧ 0 < (L.l.length : Int)) ∧ ((0 : Int) ≤ 1 ∧ 1 < (L.l.length : Int)):=fun e=>by omega
       refine ⟨⟨fun g=>(hix ?_).1,fun g=>(hix ?_).2,fun g=>(hix ?_).1,fun g=>(hix ?_).1⟩,fun c4=>⟨⟨(Ty0,1),rfl,bad ?_⟩,rfl⟩,fun c4=>⟨⟨(⟨4,1,0,false,[]⟩,0),rfl,?_⟩,rfl⟩⟩
       ·simp only [Bool.or_eq_false_iff,bne_eq_false_iff_eq] at g; omega
       ·simp only [Bool.or_eq_false_iff,bne_eq_false_iff_eq] at g; omega
       ·simp only [Bool.or_eq_false_iff,bne_eq_false_iff_eq] at g; omega
       ·simp only [Bool.or_eq_false_iff,bne_eq_false_iff_eq] at g; omega
       ·by_cases e18 : a.1 = 18
        ·rw [e18]
         refine rs_cmp0 (fun hc=>?_)
         obtain ⟨d1,d2,d3,d4,d5,d6,d7⟩:=hc
         have hk:=any_k d5
         simp only [l0,l1,Bool.or_eq_true,Bool.and_eq_true,bne_iff_ne,ne_eq,decide_eq_true_eq,beq_iff_eq] at c4
         omega
        ·exact rs_out c1 c2' c3' e18
       ·simp only [l0,l1,Bool.or_eq_false_iff,Bool.and_eq_false_iff,bne_eq_false_iff_eq,decide_eq_false_iff_not,beq_eq_false_iff_ne] at c4
        obtain ⟨⟨⟨⟨⟨⟨b1,b2⟩,b3⟩,b4⟩,b5⟩,b6⟩,b7⟩:=c4
        rw [b1,rs_cmp ⟨by omega,by omega,by omega,b5,hall 0 (by omega) b6,hall 1 (by omega) (by rw [← b5]; exact b6),fun e=>by omega⟩]
        rfl
 ·cases i with
  | e a=>match j,hj with
   | 0,_=>exact fun ρ base w o k=>V.nrm (V.againK [0,1,2,6,8] [true] (k ()) kq kq)
  | l a i=>match j,hj with
   | 0,_=>exact fun ρ base w o k=>V.nrm (V.againK [0,1,2,6,8] [true] (k ()) kq kq)
   | 1,_=>exact fun ρ base w=>r13out L hK
set_option maxHeartbeats 1000000
section
variable (L : LsA)
noncomputable def r38C (a : Int × Int) : Cfg:=entG L 2 Tryz.f38 (argR L a)
noncomputable def lf38 (a : Int × Int) (j : Nat) : Cfg:=leafN (treeX Tryz.prog 38 (TR38 L) 69 40 (r38C L a)) j (r38C L a)
def pairB (r : Ty × Int) : Ty × Bool:=(r.1,r.2 == 0)
theorem r38fx {a : Int × Int} {ρ base : Nat → Nat} {w : World} (h0 : 0 < L.l.length) (hL : L.l.length ≤ 1000000) :
  V (ctxO Tryz.prog 38 ρ (.ret (rsU (pairB (vN pfX (a.1,L.l.getD 0 Ty0,L.l.getD ((L.l.length : Int) - 1).toNat Ty0))))) w base) (lf38 L a 1):=by
 refine V.drawN [] 16 kq (fun S w2 hconv=>?_)
 refine @VX.run _ [] [sent] 16 _ _ ([] : List (Ent Tryz.prog)) [(0 : Int) ≤ 0 ∧ 0 < (L.l.length : Int),inK .i64 ((L.l.length : Int) - 1),0 ≤ (L.l.length : Int) - 1 ∧ (L.l.length : Int) - 1 < (L.l.length : Int)] kq kq ⟨⟨by omega,by omega⟩,⟨by omega,by omega⟩,⟨by omega,by omega⟩⟩ ?_
 refine @VX.two _ [] [sent] 16 _ _ ([cPfx0.e] : List (Ent Tryz.prog)) [] 10 14 kq kq kq kq kq trivial ?_ ?_
 ·refine @VX.run _ [] [sent] 16 _ _ ([] : List (Ent Tryz.prog)) [] kq kq trivial ?_
  refine @VX.storeN _ [] 16 _ _ 15 kq kq kq ?_
  refine @VX.run _ [] [sent] 16 _ _ ([] : List (Ent Tryz.prog)) [] kq kq trivial ?_
  refine @VX.stop _ [] [sent] 16 _ _ kq (hconv _ ?_)
  exact V.shY (X:=Ext.none) (TR38 L) 69 wrE hMu kq 40 (.ret (rsU (pairB (vN pfX (a.1,L.l.getD 0 Ty0,L.l.getD ((L.l.length : Int) - 1).toNat Ty0))))) kq kq (fun q hq=>absurd hq List.not_mem_nil) (fun _=>False) ⟨rfl,rfl⟩ (fun _ _ _ hf=>hf.elim)
 ·refine @VX.run _ [] [sent] 16 _ _ ([cPfx0.e] : List (Ent Tryz.prog)) [] kq kq trivial ?_
  refine @VX.storeN _ [] 16 _ _ 15 kq kq kq ?_
  refine @VX.run _ [] [sent] 16 _ _ ([] : List (Ent Tryz.prog)) [] kq kq trivial ?_
  refine @VX.stop _ [] [sent] 16 _ _ kq (hconv _ ?_)
  exact V.shY (X:=Ext.none) (TR38 L) 69 wrE hMu kq 40 (.ret (rsU (pairB (vN pfX (a.1,L.l.getD 0 Ty0,L.l.getD ((L.l.length : Int) - 1).toNat Ty0))))) kq kq (fun q hq=>absurd hq List.not_mem_nil) (fun _=>False) ⟨rfl,rfl⟩ (fun _ _ _ hf=>hf.elim)
noncomputable def cmB (a : Int × Int) : Bool:=(decide (0 ≤ a.2) && decide (a.2 ≤ 5) && (l0 L).k == (l1 L).k && ((l0 L).k == 1 || (l0 L).k == 2 || (l0 L).k == 3 || (l0 L).k == 4 || (l0 L).k == 6 && decide (a.2 ≤ 1))) && vN pscX (l0 L) && vN pscX (l1 L)
noncomputable def cmS (a : Int × Int) : Sh:=.ob [(decide (0 ≤ a.2) && decide (a.2 ≤ 5) && (l0 L).k == (l1 L).k && ((l0 L).k == 1 || (l0 L).k == 2 || (l0 L).k == 3 || (l0 L).k == 4 || (l0 L).k == 6 && decide (a.2 ≤ 1))) = true → pscQ (l0 L),((decide (0 ≤ a.2) && decide (a.2 ≤ 5) && (l0 L).k == (l1 L).k && ((l0 L).k == 1 || (l0 L).k == 2 || (l0 L).k == 3 || (l0 L).k == 4 || (l0 L).k == 6 && decide (a.2 ≤ 1))) && vN pscX (l0 L)) = true → pscQ (l1 L)] (.ret (rsU (⟨4,1,0,false,[]⟩,cmB L a)))
theorem cmS_ok (a : Int × Int) : Sh.ok wrE (.ret (rsU (⟨4,1,0,false,[]⟩,cmB L a))) (fun _=>False) 0 (cmS L a):=by
 refine ⟨⟨fun h=>?_,fun h=>?_⟩,rfl,rfl⟩
 ·show (l0 L).k ≠ 5
  simp only [Bool.and_eq_true,Bool.or_eq_true,beq_iff_eq,decide_eq_true_eq] at h
  omega
 ·show (l1 L).k ≠ 5
  simp only [Bool.and_eq_true,Bool.or_eq_true,beq_iff_eq,decide_eq_true_eq] at h
  omega
theorem r38cm {a : Int × Int} {ρ base : Nat → Nat} {w : World} (h0 : L.l.length = 2) : V (ctxO Tryz.prog 38 ρ (.ret (rsU (⟨4,1,0,false,[]⟩,cmB L a))) w base) (lf38 L a 0):=by
 refine V.drawN [] 9 kq (fun S w2 hconv=>?_)
 refine @VX.run _ [] [sent] 9 _ _ ([] : List (Ent Tryz.prog)) [(0 : Int) ≤ 0 ∧ 0 < (L.l.length : Int),(0 : Int) ≤ 1 ∧ 1 < (L.l.length : Int)] kq kq ⟨⟨by omega,by omega⟩,⟨by omega,by omega⟩⟩ ?_
 refine @VX.mems _ [] 9 _ _ [sent] 6 7 kq kq kq kq ?_ ?_
 ·refine @VX.run _ [] [sent] 9 _ _ ([] : List (Ent Tryz.prog)) [] kq kq trivial ?_
  refine @VX.storeN _ [] 9 _ _ 8 kq kq kq ?_
  refine @VX.run _ [] [sent] 9 _ _ ([] : List (Ent Tryz.prog)) [] kq kq trivial ?_
  refine @VX.stop _ [] [sent] 9 _ _ kq (hconv _ ?_)
  exact V.shY (X:=Ext.none) (TR38 L) 69 wrE hMu kq 40 (cmS L a) kq kq (fun q hq=>absurd hq List.not_mem_nil) (fun _=>False) (cmS_ok L a) (fun _ _ _ hf=>hf.elim)
 ·refine @VX.run _ [] [sent] 9 _ _ ([] : List (Ent Tryz.prog)) [] kq kq trivial ?_
  refine @VX.storeN _ [] 9 _ _ 8 kq kq kq ?_
  refine @VX.run _ [] [sent] 9 _ _ ([] : List (Ent Tryz.prog)) [] kq kq trivial ?_
  refine @VX.stop _ [] [sent] 9 _ _ kq (hconv _ ?_)
  exact V.shY (X:=Ext.none) (TR38 L) 69 wrE hMu kq 40 (cmS L a) kq kq (fun q hq=>absurd hq List.not_mem_nil) (fun _=>False) (cmS_ok L a) (fun _ _ _ hf=>hf.elim)
end
set_option maxHeartbeats 4000000
def lenI (op : Int) : Int:=if op = 5 ∨ op = 11 ∨ op = 17 ∨ op = 21 then 1 else if op = 19 ∨ op = 23 then 3 else 2
theorem opLen (op : Int) (h1 : 5 ≤ op) (h2 : op ≤ 24) : IntKind.i64.wrap (opL.getD op.toNat (0,0)).1 = lenI op:=by
 have hd : ∀ n : Fin 20,IntKind.i64.wrap (opL.getD (n.val + 5) (0,0)).1 = lenI ((n.val + 5 : Nat) : Int):=by decide
 have h:=hd ⟨(op - 5).toNat,by omega⟩
 simp only at h
 rw [show (op - 5).toNat + 5 = op.toNat from by omega,show ((op.toNat : Nat) : Int) = op from by omega] at h
 exact h
theorem rs_len {op n : Int} {l : List Ty} {t : Ty} (h : rsS op n l = some t) : 5 ≤ op ∧ op ≤ 24 ∧ (l.length : Int) = lenI op:=by
 have k1 : likeP l [99,99] → l.length = 2:=fun h=>h.1
 have k2 : likeP l [98,98] → l.length = 2:=fun h=>h.1
 have k3 : likeP l [98] → l.length = 1:=fun h=>h.1
 have k4 : likeP l [99] → l.length = 1:=fun h=>h.1
 have k5 : likeP l [99,105,105] → l.length = 3:=fun h=>h.1
 have k6 : likeP l [98,105,105] → l.length = 3:=fun h=>h.1
 have k7 : likeP l [99,99,99] → l.length = 3:=fun h=>h.1
 have k8 : likeP l [99,105] → l.length = 2:=fun h=>h.1
 have k9 : likeP l [98,105] → l.length = 2:=fun h=>h.1
 have k0 : cmpP n l → l.length = 2:=fun h=>h.1
 simp only [rsS,stS,fxS] at h
 simp only [lenI]
 grind (splits:=40)
theorem psc_iff (t : Ty) (h : t.k ≠ 5) : vN pscX t = true ↔ AnyOK t:=(vN_ok pscX t h).2
theorem any_kinds {t : Ty} (h : AnyOK t) : t.k = 1 ∨ t.k = 2 ∨ t.k = 3 ∨ t.k = 4 ∨ t.k = 6:=by
 simp only [AnyOK,ArOK,ChOK,BtOK,PtOK] at h
 omega
theorem cm_iff (L : LsA) (a : Int × Int) (hl : L.l.length = 2) : cmB L a = true ↔ cmpP a.2 L.l:=by
 constructor
 ·intro h
  simp only [cmB,Bool.and_eq_true,Bool.or_eq_true,beq_iff_eq,decide_eq_true_eq] at h
  obtain ⟨⟨⟨⟨⟨h1,h2⟩,h3⟩,h4⟩,h5⟩,h6⟩:=h
  have e0 : (l0 L).k ≠ 5:=by omega
  have e1 : (l1 L).k ≠ 5:=by omega
  exact ⟨hl,h1,h2,h3,(psc_iff _ e0).1 h5,(psc_iff _ e1).1 h6,fun e=>by have e : (l0 L).k = 6:=e; omega⟩
 ·rintro ⟨_,h1,h2,h3,h4,h5,h6⟩
  have q0:=any_kinds h4
  have e0:=any_k h4
  have e1:=any_k h5
  simp only [cmB,Bool.and_eq_true,Bool.or_eq_true,beq_iff_eq,decide_eq_true_eq]
  refine ⟨⟨⟨⟨⟨h1,h2⟩,h3⟩,?_⟩,(psc_iff _ e0).2 h4⟩,(psc_iff _ e1).2 h5⟩
  show ((((l0 L).k = 1 ∨ (l0 L).k = 2) ∨ (l0 L).k = 3) ∨ (l0 L).k = 4) ∨ (l0 L).k = 6 ∧ a.2 ≤ 1
  rcases q0 with q | q | q | q | q
  ·exact .inl (.inl (.inl (.inl q)))
  ·exact .inl (.inl (.inl (.inr q)))
  ·exact .inl (.inl (.inr q))
  ·exact .inl (.inr q)
  ·exact .inr ⟨q,h6 q⟩
theorem tyU_of {o o' : Option Ty} {r : Ty × Int} (h : tyQ o r) (e : o' = o) : tyU o' (pairB r):=by
 subst e
 unfold tyQ at h
 unfold tyU pairB
 cases o' with
 | some t=>simp only at h ⊢; rw [h]; rfl
 | none =>
  obtain ⟨h1,h2⟩:=h
  simpa using h2
set_option maxHeartbeats 4000000
section
variable (L : LsA)
noncomputable def r38S (a : Int × Int) : Sh :=
 .ob [(!(decide (5 ≤ a.1) && decide (a.1 ≤ 24))) = false → 0 ≤ a.1 ∧ a.1 < ((32 : Nat) : Int),(!(decide (5 ≤ a.1) && decide (a.1 ≤ 24))) = false → (0 : Int) ≤ 0 ∧ 0 < ((2 : Nat) : Int)]
  (.cond (!(decide (5 ≤ a.1) && decide (a.1 ≤ 24)) || (L.l.length : Int) != IntKind.i64.wrap (opL.getD a.1.toNat (0,0)).1) (.ret (rsU (Ty0,false)))
   (.cond (a.1 == 18) .leaf (.cond (decide (a.1 ≤ 13)) .leaf (.ob [stkQ L (a.1,L.sl)] (.ret (rsU (pairB (vN (stkX L) (a.1,L.sl)))))))))
noncomputable def r38N (a : Int × Int) : Nat → (Int × Int) ⊕ Out
 | 0=>.inr (.ret (rsU (⟨4,1,0,false,[]⟩,cmB L a)))
 | _=>.inr (.ret (rsU (pairB (vN pfX (a.1,L.l.getD 0 Ty0,L.l.getD ((L.l.length : Int) - 1).toNat Ty0)))))
theorem r38X (hL : L.l.length ≤ 1000000) (a : Int × Int) :
  ∃ o,(∃ r,o = .ret (rsU r) ∧ tyU (rsS a.1 a.2 L.l) r) ∧ CallsF Tryz.prog 38 (argR L a) (stP (gNeed L)) o:=by
 suffices h : ∃ o,(∃ r,o = .ret (rsU r) ∧ tyU (rsS a.1 a.2 L.l) r) ∧ ∀ (x : Unit) ρ base w,V (ctxO Tryz.prog 38 ρ o w base) (r38C L a) by
  obtain ⟨o,h1,h2⟩:=h
  exact CallsF.ofG L 2 Tryz.func38 kq kq kq ⟨o,h1,fun ρ base w=>h2 () ρ base w⟩
 refine cutsK Ext.none hMu kq (T:=TR38 L) 40 (fun a (_ : Unit)=>r38C L a) (r38S L) (r38N L) (fun _=>0) (fun b=>b = a) (fun b j=>match j with | 0=>L.l.length = 2 | _=>0 < L.l.length) (fun o=>∃ r,o = .ret (rsU r) ∧ tyU (rsS a.1 a.2 L.l) r)
  (fun i x=>kq) (fun i x=>kq) (fun i x q hq=>absurd hq List.not_mem_nil) ?_ (fun i x j hi hK hj=>?_) 1 a (Nat.lt_succ_self _) rfl
 ·intro b hb
  subst hb
  refine ⟨⟨fun g=>?_,fun _=>⟨by decide,by decide⟩⟩,fun c=>?_,fun c=>?_⟩
  ·simp only [Bool.not_eq_false',Bool.and_eq_true,decide_eq_true_eq] at g
   exact ⟨by omega,by show b.1 < 32; omega⟩
  ·refine ⟨⟨(Ty0,false),rfl,?_⟩,rfl⟩
   cases hr : rsS b.1 b.2 L.l with
   | none=>rfl
   | some t =>
    obtain ⟨q1,q2,q3⟩:=rs_len hr
    rw [opLen b.1 q1 q2] at c
    simp [q1,q2,q3] at c
  ·have q1 : 5 ≤ b.1 ∧ b.1 ≤ 24:=by
    simp only [Bool.or_eq_false_iff,Bool.not_eq_false',Bool.and_eq_true,decide_eq_true_eq] at c
    exact c.1
   have q3 : (L.l.length : Int) = lenI b.1:=by
    rw [opLen b.1 q1.1 q1.2] at c
    simp only [Bool.or_eq_false_iff,bne_eq_false_iff_eq] at c
    exact c.2
   refine ⟨fun c2=>?_,fun c2=>⟨fun c3=>?_,fun c3=>?_⟩⟩
   ·have c2 : b.1 = 18:=by simpa using c2
    have hl : L.l.length = 2:=by simp [lenI,c2] at q3; omega
    refine ⟨hl,_,rfl,?_⟩
    have hi:=cm_iff L b hl
    rw [c2]
    cases hc : cmB L b with
    | true=>rw [rs_cmp (hi.1 hc)]; rfl
    | false=>rw [rs_cmp0 (fun e=>by rw [hi.2 e] at hc; cases hc)]; rfl
   ·have c2 : ¬ b.1 = 18:=by simpa using c2
    have c3 : b.1 ≤ 13:=by simpa using c3
    by_cases hu : b.1 = 5 ∨ b.1 = 11
    ·have hl : L.l.length = 1:=by simp only [lenI] at q3; omega
     refine ⟨by show 0 < L.l.length; omega,_,rfl,tyU_of (vN_ok pfX _ trivial).2 ?_⟩
     rw [rs_un hu hl]
     exact (fx_un hu).symm
    ·have hl : L.l.length = 2:=by simp only [lenI] at q3; omega
     refine ⟨by show 0 < L.l.length; omega,_,rfl,tyU_of (vN_ok pfX _ trivial).2 ?_⟩
     rw [rs_bin ⟨by omega,c3⟩ hu hl,hl]
     rfl
   ·have c2 : ¬ b.1 = 18:=by simpa using c2
    have c3 : ¬ b.1 ≤ 13:=by simpa using c3
    refine ⟨⟨rfl,hL⟩,⟨_,rfl,tyU_of (vN_ok (stkX L) (b.1,L.sl) ⟨rfl,hL⟩).2 (rs_str ?_)⟩,rfl⟩
    omega
 ·match j,hj with
  | 0,_=>exact fun ρ base w=>r38cm L hK
  | 1,_=>exact fun ρ base w=>r38fx L hK hL
end
set_option maxHeartbeats 4000000
def argRS (a : Int × Int × SlA) : List CV:=[vI a.1,vI a.2.1,a.2.2.v]
def unRS : List CV → Option (Int × Int × SlA)
 | [.one (.int .i64 m),.one (.int .i64 n),x]=>match slOf x with
  | some s=>some (m,n,s)
  | none=>none
 | _=>none
theorem unRS_den (xs : List CV) (a : Int × Int × SlA) (h : unRS xs = some a) (ρ : Nat → Nat) : xs.map (CV.den ρ) = (argRS a).map (CV.den ρ):=by
 unfold unRS at h
 split at h
 case h_2=>cases h
 split at h
 case h_2=>cases h
 rename_i h1
 cases h
 simp only [argRS,List.map_cons,List.map_nil,slOf_den h1 ρ]
section
variable (L : LsA)
def r38Q (a : Int × Int × SlA) : Prop:=a.2.2 = L.sl ∧ L.l.length ≤ 1000000
theorem r38K : ExN Tryz.prog 38 (gNeed L) argRS rsU (r38Q L) (fun a r=>tyU (rsS a.1 a.2.1 L.l) r):=by
 rintro ⟨m,n,s⟩ ⟨h1,h2⟩
 simp only at h1
 subst h1
 exact r38X L h2 (m,n)
noncomputable def cR38 : Con Tryz.prog:=Con.exN (r38K L) unRS unRS_den
noncomputable def T12 : List (Ent Tryz.prog):=[⟨cR38 L,[1,0]⟩]
noncomputable def r12C (a : Int × Int) : Cfg:=⟨[.code (bodyOf Tryz.f12)],stO Tryz.f12.ntmps (argR L a) (stP (gNeed L)) false⟩
noncomputable def r12S (a : Int × Int) : Sh :=
 .ob [r38Q L (a.1,a.2,L.sl)] (.cond (!(vN (r38K L) (a.1,a.2,L.sl)).2) (.ret (rsT (Ty0,1))) (.ret (rsT ((vN (r38K L) (a.1,a.2,L.sl)).1,0))))
theorem r12X (hL : L.l.length ≤ 1000000) (a : Int × Int) :
  ∃ o,(∃ r,o = .ret (rsT r) ∧ tyQ1 (rsS a.1 a.2 L.l) r) ∧ CallsF Tryz.prog 12 (argR L a) (stP (gNeed L)) o:=by
 suffices h : ∃ o,(∃ r,o = .ret (rsT r) ∧ tyQ1 (rsS a.1 a.2 L.l) r) ∧ ∀ (x : Unit) ρ base w,V (ctxO Tryz.prog 12 ρ o w base) (r12C L a) by
  obtain ⟨o,h1,h2⟩:=h
  exact CallsF.ofV false Tryz.func12 kq kq ⟨o,h1,fun ρ base w=>h2 () ρ base w⟩
 refine cutsK Ext.none hMu kq (T:=T12 L) 40 (fun a (_ : Unit)=>r12C L a) (r12S L) (fun _ _=>.inr (.ret (rsT (Ty0,1)))) (fun _=>0) (fun b=>b = a) (fun _ _=>False) (fun o=>∃ r,o = .ret (rsT r) ∧ tyQ1 (rsS a.1 a.2 L.l) r)
  (fun i x=>kq) (fun i x=>kq) (fun i x q hq=>absurd hq List.not_mem_nil) ?_ (fun i x j hi hK hj=>hK.elim) 1 a (Nat.lt_succ_self _) rfl
 intro b hb
 subst hb
 have hq : tyU (rsS b.1 b.2 L.l) (vN (r38K L) (b.1,b.2,L.sl)):=(vN_ok (r38K L) (b.1,b.2,L.sl) ⟨rfl,hL⟩).2
 have key : ∀ r : Ty × Bool,tyU (rsS b.1 b.2 L.l) r → ((!r.2) = true → tyQ1 (rsS b.1 b.2 L.l) (Ty0,1)) ∧ ((!r.2) = false → tyQ1 (rsS b.1 b.2 L.l) (r.1,0)):=by
  intro r h
  unfold tyU at h
  unfold tyQ1
  cases hr : rsS b.1 b.2 L.l with
  | none=>rw [hr] at h; simp only at h ⊢; rw [h]; exact ⟨fun _=>trivial,fun e=>by cases e⟩
  | some t=>rw [hr] at h; simp only at h ⊢; rw [h]; exact ⟨(fun e=>by cases e),fun _=>rfl⟩
 exact ⟨⟨rfl,hL⟩,fun c=>⟨⟨_,rfl,(key _ hq).1 c⟩,rfl⟩,fun c=>⟨⟨_,rfl,(key _ hq).2 c⟩,rfl⟩⟩
end
set_option maxHeartbeats 4000000
noncomputable def cLong : Con Tryz.prog:=Con.auto Tryz.func11 true [] [] kq kq
def fn11 : CV:=.one (.val (.func (.func 11) #[] #[]))
inductive ixI where
 | e
 | l (i : Int)
section
variable (L : LsA)
def argIx : List CV:=[L.sl.v,fn11]
noncomputable def TIx : List (Ent Tryz.prog):=[cLong.e]
noncomputable def ixT : List Item:=(SX.iter (leafN (treeX Tryz.prog 37 TIx 69 40 (entR ⟨[],none,0⟩ 0 Tryz.f37 (argIx ⟨[],none,0⟩))) 0 (entR ⟨[],none,0⟩ 0 Tryz.f37 (argIx ⟨[],none,0⟩)))).todo
def ixSt (i : Int) : St :=
 { n:=19,slots:=[(0,.v (.one (.row 0 L.q L.l.length L.c))),(1,.v fn11),(7,.v (vI L.l.length)),(8,.v (vI i))],gs:=[],heap:=[],next:=0,rows:=[(0,L.row)],nr:=1,pers:=L.need,wr:=false,fx:=0 }
noncomputable def ixC : ixI → Unit → Cfg
 | .e,_=>entR L 0 Tryz.f37 (argIx L)
 | .l i,_=>⟨ixT,ixSt L i⟩
def ixS : ixI → Sh
 | .e=>.leaf
 | .l i=>.cond (decide (i < (L.l.length : Int))) (.ob [0 ≤ i ∧ i < (L.l.length : Int)] (.cond (decide (((L.l.getD i.toNat Ty0).s.length : Int) > 100)) (.ret (.v (vI i))) (.ob [inK .i64 (i + 1)] .leaf))) (.ret (.v (vI (-1))))
def ixN : ixI → Nat → ixI
 | .e,_=>.l 0
 | .l i,_=>.l (i + 1)
def ixK : ixI → List Nat
 | .e=>[]
 | .l _=>[0,1,7,8]
def ixM : ixI → Nat
 | .e=>L.l.length + 2
 | .l i=>((L.l.length : Int) - i).toNat + 1
def ixP : ixI → Prop
 | .e=>True
 | .l i=>0 ≤ i ∧ i ≤ (L.l.length : Int) ∧ ∀ j : Nat,(j : Int) < i → (L.l.getD j Ty0).s.length ≤ 100
theorem ixX (hL : L.l.length ≤ 1000000) : ∃ o,(∃ r : Int,o = .ret (.v (vI r)) ∧ (r < 0 → ∀ j,j < L.l.length → (L.l.getD j Ty0).s.length ≤ 100)) ∧ CallsF Tryz.prog 37 (argIx L) (stP L.need) o:=by
 suffices h : ∃ o,(∃ r : Int,o = .ret (.v (vI r)) ∧ (r < 0 → ∀ j,j < L.l.length → (L.l.getD j Ty0).s.length ≤ 100)) ∧ ∀ (x : Unit) ρ base w,V (ctxO Tryz.prog 37 ρ o w base) (ixC L .e ()) by
  obtain ⟨o,h1,h2⟩:=h
  exact CallsF.ofR L 0 Tryz.func37 kq kq kq ⟨o,h1,fun ρ base w=>h2 () ρ base w⟩
 obtain ⟨o,h1,h2⟩:=cuts hMu kq (T:=TIx) (f:=37) 40 (fun i=>ixC L i ()) (ixS L) ixN ixK (fun _=>[true]) (ixM L) (ixP L) (fun o=>∃ r : Int,o = .ret (.v (vI r)) ∧ (r < 0 → ∀ j,j < L.l.length → (L.l.getD j Ty0).s.length ≤ 100)) (fun i=>by cases i <;> kernel_rfl) (fun i=>by cases i <;> kernel_rfl)
  (fun i hi=>by
   cases i with
   | e=>exact ⟨⟨Int.le_refl _,by omega,fun j hj=>by omega⟩,by simp only [ixM,ixN]; omega⟩
   | l i =>
    obtain ⟨g1,g2,g3⟩:=hi
    refine ⟨fun h=>?_,fun h=>⟨⟨-1,rfl,fun _ j hj=>g3 j (by have:=of_decide_eq_false h; omega)⟩,rfl⟩⟩
    have h:=of_decide_eq_true h
    refine ⟨⟨by omega,by omega⟩,fun h2=>⟨⟨i,rfl,fun h=>by omega⟩,rfl⟩,fun h2=>⟨⟨by omega,by omega⟩,⟨by omega,by omega,fun j hj=>?_⟩,by simp only [ixM,ixN]; omega⟩⟩
    have h2:=of_decide_eq_false h2
    by_cases e : (j : Int) = i
    ·have : i.toNat = j:=by omega
     rw [this] at h2; omega
    ·exact g3 j (by omega))
  (fun i j hj=>by
   cases i with
   | e=>match j,hj with
    | 0,_=>exact ⟨kq,kq⟩
   | l i=>match j,hj with
    | 0,_=>exact ⟨kq,kq⟩) _ .e (Nat.lt_succ_self _) trivial
 exact ⟨o,h1,fun x ρ base w=>h2 ρ base w⟩
end
set_option maxHeartbeats 4000000
def unIx : List CV → Option SlA
 | [x,.one (.val (.func (.func 11) ⟨[]⟩ ⟨[]⟩))]=>slOf x
 | [x,.one (.fn 11 [])]=>slOf x
 | _=>none
def argIxS (s : SlA) : List CV:=[s.v,fn11]
theorem unIx_den (xs : List CV) (a : SlA) (h : unIx xs = some a) (ρ : Nat → Nat) : xs.map (CV.den ρ) = (argIxS a).map (CV.den ρ):=by
 unfold unIx at h
 split at h
 case h_3=>cases h
 all_goals
  simp only [argIxS,List.map_cons,List.map_nil,slOf_den h ρ]
  rfl
section
variable (L : LsA)
def ixxQ (s : SlA) : Prop:=s = L.sl ∧ L.l.length ≤ 1000000
theorem ixxX : ExN Tryz.prog 37 L.need argIxS (fun r : Int=>.v (vI r)) (ixxQ L) (fun _ r=>r < 0 → ∀ j,j < L.l.length → (L.l.getD j Ty0).s.length ≤ 100):=by
 rintro s ⟨h1,h2⟩
 subst h1
 exact ixX L h2
noncomputable def cIxx : Con Tryz.prog:=Con.exN (ixxX L) unIx unIx_den
noncomputable def T10 : List (Ent Tryz.prog):=[⟨cIxx L,[0]⟩]
noncomputable def c10C : Cfg:=⟨[.code (bodyOf Tryz.f10)],stO Tryz.f10.ntmps (argIx L) (stP L.need) false⟩
noncomputable def c10S : Sh:=.ob [ixxQ L L.sl] (.ret (.v (vT (decide (vN (ixxX L) L.sl ≥ 0)))))
theorem c10X (hL : L.l.length ≤ 1000000) : ∃ o,(∃ r : Bool,o = .ret (.v (vT r)) ∧ (r = false → ∀ j,j < L.l.length → (L.l.getD j Ty0).s.length ≤ 100)) ∧ CallsF Tryz.prog 10 (argIx L) (stP L.need) o:=by
 suffices h : ∃ o,(∃ r : Bool,o = .ret (.v (vT r)) ∧ (r = false → ∀ j,j < L.l.length → (L.l.getD j Ty0).s.length ≤ 100)) ∧ ∀ (x : Unit) ρ base w,V (ctxO Tryz.prog 10 ρ o w base) (c10C L) by
  obtain ⟨o,h1,h2⟩:=h
  exact CallsF.ofV false Tryz.func10 kq kq ⟨o,h1,fun ρ base w=>h2 () ρ base w⟩
 refine cutsK Ext.none hMu kq (T:=T10 L) 40 (fun (_ : Unit) (_ : Unit)=>c10C L) (fun _=>c10S L) (fun _ _=>.inr (.ret (.v (vT false)))) (fun _=>0) (fun _=>True) (fun _ _=>False) (fun o=>∃ r : Bool,o = .ret (.v (vT r)) ∧ (r = false → ∀ j,j < L.l.length → (L.l.getD j Ty0).s.length ≤ 100))
  (fun i x=>kq) (fun i x=>kq) (fun i x q hq=>absurd hq List.not_mem_nil) (fun _ _=>?_) (fun i x j hi hK hj=>hK.elim) 1 () (Nat.lt_succ_self _) trivial
 have hq : vN (ixxX L) L.sl < 0 → ∀ j,j < L.l.length → (L.l.getD j Ty0).s.length ≤ 100:=(vN_ok (ixxX L) L.sl ⟨rfl,hL⟩).2
 exact ⟨⟨rfl,hL⟩,⟨_,rfl,fun h=>hq (by have:=of_decide_eq_false h; omega)⟩,rfl⟩
end
set_option maxHeartbeats 4000000
noncomputable def rsR (op n : Int) (l : List Ty) : Ty × Int:=match rsS op n l with
 | some t=>(t,0)
 | none=>(Ty0,1)
theorem rsR_of {op n : Int} {l : List Ty} {r : Ty × Int} (h : tyQ1 (rsS op n l) r) : r = rsR op n l:=by
 unfold tyQ1 at h
 unfold rsR
 cases hr : rsS op n l with
 | none=>rw [hr] at h; exact h
 | some t=>rw [hr] at h; exact h
section
variable (L : LsA)
def r12Q (a : Int × Int × SlA) : Prop:=a.2.2 = L.sl ∧ L.l.length ≤ 1000000
theorem r12N : ExN Tryz.prog 12 (gNeed L) argRS rsT (r12Q L) (fun a r=>r = rsR a.1 a.2.1 L.l):=by
 rintro ⟨m,n,s⟩ ⟨h1,h2⟩
 simp only at h1
 subst h1
 obtain ⟨o,⟨r,e,h3⟩,h4⟩:=r12X L h2 (m,n)
 exact ⟨o,⟨r,e,rsR_of h3⟩,h4⟩
noncomputable def cR12 : Con Tryz.prog:=Con.fnN (r12N L) unRS unRS_den
def r13Q (a : Int × Int × SlA) : Prop:=a.2.2 = L.sl ∧ L.l.length ≤ 1000000 ∧ ∀ j,j < L.l.length → (L.l.getD j Ty0).s.length ≤ 1000000
theorem r13N' : ExN Tryz.prog 13 L.need argRS rsT (r13Q L) (fun a r=>r = rsR a.1 a.2.1 L.l):=by
 rintro ⟨m,n,s⟩ ⟨h1,h2,h3⟩
 simp only at h1
 subst h1
 obtain ⟨o,⟨r,e,h4⟩,h5⟩:=r13X L h2 h3 (m,n)
 exact ⟨o,⟨r,e,rsR_of h4⟩,h5⟩
noncomputable def cR13 : Con Tryz.prog:=Con.fnN (r13N' L) unRS unRS_den
def c10Q (s : SlA) : Prop:=s = L.sl ∧ L.l.length ≤ 1000000
theorem c10N : ExN Tryz.prog 10 L.need argIxS (fun r : Bool=>.v (vT r)) (c10Q L) (fun _ r=>r = false → ∀ j,j < L.l.length → (L.l.getD j Ty0).s.length ≤ 100):=by
 rintro s ⟨h1,h2⟩
 subst h1
 exact c10X L h2
noncomputable def cC10 : Con Tryz.prog:=Con.exN (c10N L) unIx unIx_den
end
set_option maxHeartbeats 4000000
def SaneOk : Prop:=CallsF Tryz.prog 9 [] (stP glP) (.ret (.v (vT true)))
def c9 (h : SaneOk) : Con Tryz.prog where
 f:=9
 need:=glP
 fn:=fun xs=>match xs with
  | []=>some (.v (vT true),[])
  | _=>none
 ok:=by
  intro xs v ob hx hob ρ w hp hl
  split at hx
  case h_2=>cases hx
  cases hx
  exact h ρ w (FSat_stP hp)
section
variable (h : SaneOk) (L : LsA)
def lawN : List Pers:=glP ++ [rowP L.row]
noncomputable def TLaw : List (Ent Tryz.prog):=[⟨c9 h,[4,3,2,1]⟩,⟨cC10 L,[0]⟩,⟨cR12 L,[2,0]⟩,⟨cR13 L,[0]⟩]
noncomputable def lawC (a : Int × Int) : Cfg:=⟨[.code (bodyOf Tryz.f3)],stO Tryz.f3.ntmps (argR L a) (stP (lawN L)) false⟩
noncomputable def lawB (a : Int × Int) : Bool :=
 (((rsR a.1 a.2 L.l).1.k == (rsR a.1 a.2 L.l).1.k && ((rsR a.1 a.2 L.l).1.p == (rsR a.1 a.2 L.l).1.p && ((rsR a.1 a.2 L.l).1.q == (rsR a.1 a.2 L.l).1.q && ((rsR a.1 a.2 L.l).1.v == (rsR a.1 a.2 L.l).1.v && (rsR a.1 a.2 L.l).1.s == (rsR a.1 a.2 L.l).1.s)))) && (rsR a.1 a.2 L.l).2 == (rsR a.1 a.2 L.l).2)
theorem lawB_true (a : Int × Int) : lawB L a = true:=by
 unfold lawB
 simp
noncomputable def lawS (a : Int × Int) : Sh :=
 .cond false (.ret (.v (vT false)))
  (.ob [decide ((L.sl.n : Int) > 10) = false → c10Q L L.sl]
   (.cond (decide ((L.sl.n : Int) > 10) || vN (c10N L) L.sl) (.ret (.v (vT true)))
    (.ob [r12Q L (a.1,a.2,L.sl),r13Q L (a.1,a.2,L.sl)] (.ret (.v (vT (lawB L a)))))))
include h in
theorem lawX (a : Int × Int) : CallsF Tryz.prog 3 (argR L a) (stP (lawN L)) (.ret (.v (vT true))):=by
 suffices g : ∃ o,o = .ret (.v (vT true)) ∧ CallsF Tryz.prog 3 (argR L a) (stP (lawN L)) o by
  obtain ⟨o,h1,h2⟩:=g
  rw [← h1]
  exact h2
 suffices g : ∃ o,o = .ret (.v (vT true)) ∧ ∀ (x : Unit) ρ base w,V (ctxO Tryz.prog 3 ρ o w base) (lawC L a) by
  obtain ⟨o,h1,h2⟩:=g
  exact CallsF.ofV false Tryz.func3 kq kq ⟨o,h1,fun ρ base w=>h2 () ρ base w⟩
 refine cutsK Ext.none hMu kq (T:=TLaw h L) 69 (fun a (_ : Unit)=>lawC L a) (lawS L) (fun _ _=>.inr (.ret (.v (vT true)))) (fun _=>0) (fun b=>b = a) (fun _ _=>False) (fun o=>o = .ret (.v (vT true)))
  (fun i x=>kq) (fun i x=>kq) (fun i x q hq=>absurd hq List.not_mem_nil) ?_ (fun i x j hi hK hj=>hK.elim) 1 a (Nat.lt_succ_self _) rfl
 intro b hb
 subst hb
 have hn : L.sl.n = L.l.length:=rfl
 refine ⟨fun c=>(by cases c),fun _=>⟨fun c=>?_,fun c=>⟨rfl,rfl⟩,fun c=>?_⟩⟩
 ·have c:=of_decide_eq_false c
  exact ⟨rfl,by omega⟩
 ·rw [Bool.or_eq_false_iff] at c
  have c1:=of_decide_eq_false c.1
  have hl : L.l.length ≤ 10:=by omega
  have hq:=(vN_ok (c10N L) L.sl ⟨rfl,by omega⟩).2 c.2
  have q1 : r12Q L (b.1,b.2,L.sl):=⟨rfl,by omega⟩
  have q2 : r13Q L (b.1,b.2,L.sl):=⟨rfl,by omega,fun j hj=>(by have:=hq j hj; omega)⟩
  refine ⟨⟨q1,q2⟩,?_,?_⟩
  ·rw [lawB_true]
  ·rfl
end
def hpV (s p : List UInt8) : Bool:=decide ((s.length : Int) ≥ (p.length : Int)) && List.drop ((none : Option Int).getD 0).toNat (List.take ((some (p.length : Int)).getD (s.length : Int)).toNat s) == p
theorem hp86 (s p : List UInt8) (hl : p.length ≤ s.length) : CallsF Tryz.prog 86 [.one (.str s),.one (.str p)] (stP []) (.ret (.v (.one (.sb (hpV s p))))):=by
 refine CallsF.mk true Tryz.func86 kq kq (fun ρ w=>?_)
 refine V.runT ([] : List (Ent Tryz.prog)) [decide ((s.length : Int) ≥ (p.length : Int)) = true → (0 : Int) ≤ (none : Option Int).getD 0 ∧ (none : Option Int).getD 0 ≤ (some (p.length : Int)).getD (s.length : Int) ∧ (some (p.length : Int)).getD (s.length : Int) ≤ (s.length : Int)] kq kq (fun _=>⟨by simp,by simp,by simpa using hl⟩) ?_
 exact V.retO kq kq kq
theorem hp36 (s p : List UInt8) (hl : p.length ≤ s.length) (ht : s.take p.length = p) : CallsF Tryz.prog 36 [.one (.str s),.one (.str p)] (stP []) (.ret (.v (.one (.sb true)))):=by
 have hv : hpV s p = true:=by
  simp only [hpV,Option.getD_none,Option.getD_some,Int.toNat_natCast,Int.toNat_zero,List.drop_zero,ht,beq_self_eq_true,Bool.and_true,decide_eq_true_eq]
  omega
 refine CallsF.mk true Tryz.func36 kq kq (fun ρ w=>?_)
 refine V.runT ([] : List (Ent Tryz.prog)) [] kq kq trivial ?_
 refine V.callO [] (hp86 s p hl) kq kq kq (fun v hv'=>⟨?_,?_⟩) (fun ch hc=>by cases hc)
 ·cases hv'; kernel_rfl
 cases hv'
 rw [hv]
 refine V.runT ([] : List (Ent Tryz.prog)) [] kq kq trivial ?_
 exact V.retO kq kq kq
theorem chk0 : CallsF Tryz.prog 21 [.agg [nilS,.int .i64 0,nilS,nilS,nilS,nilS]] (stP gl) (.ret (iV 100)):=by
 refine CallsF.mk true Tryz.func21 kq kq (fun ρ w=>V.lit ?_)
 refine V.runZ ev0 [] [67] 200 (fun os=>kq) kq kq (fun os=>?_)
 refine V.callO [(0,false),(1,false),(2,false)] (cCaught (g:=68) (bs:=[0]) kq chkProg) kq kq kq (fun v hv=>⟨?_,?_⟩) (fun ch hc=>by cases hc)
 ·cases hv; kernel_rfl
 ·cases hv
  refine V.runZ ev0 [] [67] 200 (fun os=>kq) kq kq (fun os=>?_)
  exact V.retO kq kq kq
end Go.Proofs
end
section
namespace Go.SX
open Go
theorem CallsF.sub {P : Program} {f : FuncId} {ys : List CV} {qs ps : List Pers} {o : Out} (h : CallsF P f ys (stP qs) o) (hq : ∀ q ∈ qs,q ∈ ps) : CallsF P f ys (stP ps) o:=by
 intro ρ w hS
 exact h ρ w ⟨hS.heap,hS.inj,hS.lt,hS.rows,hS.rowsD,fun p hp=>hS.pers p (hq p hp)⟩
end Go.SX
namespace Go.Proofs
open Go Go.SX
set_option maxRecDepth 100000
set_option maxHeartbeats 4000000
def tyL2 : List Ty:=[⟨2,15,0,false,[]⟩,⟨1,5,0,false,[]⟩]
def tyF : St:={ noF with heap:=[(0,⟨[.int .i64 2,.int .i64 15,.int .i64 0,.bool false,.str [],.int .i64 1,.int .i64 5,.int .i64 0,.bool false,.str []],26,true⟩)],next:=1,pers:=gl }
def tyF2 : St:={ tyF with heap:=[(0,⟨tyL2.flatMap tyC,26,true⟩)] }
theorem tyF_2 (ρ : Nat → Nat) (w : World) (h : FSat ρ tyF w) : FSat ρ tyF2 w:=by
 refine ⟨fun b blk hb=>?_,h.inj,h.lt,h.rows,h.rowsD,h.pers⟩
 have hb' : b = 0 ∧ blk = ⟨tyL2.flatMap tyC,26,true⟩:=by
  cases b with
  | zero=>exact ⟨rfl,(Option.some.inj hb).symm⟩
  | succ b=>cases hb
 obtain ⟨rfl,rfl⟩:=hb'
 obtain ⟨h1,h2,h3⟩:=h.heap 0 _ rfl
 refine ⟨h1,h2,fun x hx=>?_⟩
 have : x.plain:=by
  simp only [tyL2,tyC,List.flatMap_cons,List.flatMap_nil,List.append_nil,List.cons_append,List.nil_append,List.mem_cons,List.not_mem_nil,or_false] at hx
  rcases hx with rfl | rfl | rfl | rfl | rfl | rfl | rfl | rfl | rfl | rfl <;> trivial
 exact SV.plain_wf this _
theorem tyC_len (x : Ty) : (tyC x).length = 5:=rfl
theorem tyC_pl (x : Ty) : ∀ y ∈ tyC x,y.plain:=by
 intro y hy
 simp only [tyC,List.mem_cons,List.not_mem_nil,or_false] at hy
 rcases hy with rfl | rfl | rfl | rfl | rfl <;> trivial
theorem res12 : CallsF Tryz.prog 12 [i64 18,i64 2,.one (.sli 0 2 2)] tyF (.ret (.tup [.agg (tyC Ty0),i64 1])):=by
 refine CallsF.roF (F':=tyF2) ?_ tyF_2
 refine CallsF.ofBlk tyC Ty0 tyL2 26 5 tyF2 true rfl tyC_len tyC_pl (by decide) (zs:=fun g=>[i64 18,i64 2,.one (.val (.slice (some ⟨g,0,none⟩) 2 2))]) (fun ρ=>rfl) (fun g=>?_)
 obtain ⟨o,⟨r,rfl,h1⟩,h2⟩:=r12X ⟨tyL2,some ⟨g,0,none⟩,2⟩ (show (2 : Nat) ≤ 1000000 by decide) (18,2)
 have h3 : rsS 18 2 tyL2 = none:=by
  unfold rsS
  rw [if_pos rfl,if_neg]
  rintro ⟨_,_,_,h,_⟩
  exact absurd (show (2 : Int) = 1 from h) (by decide)
 simp only [h3,tyQ1] at h1
 subst h1
 refine CallsF.sub h2 (fun q hq=>?_)
 simp only [gNeed,List.mem_cons,List.not_mem_nil,or_false] at hq
 rcases hq with rfl | rfl
 ·exact List.mem_cons_of_mem _ (List.mem_cons_of_mem _ (List.mem_cons_of_mem _ (List.mem_singleton.2 rfl)))
 ·exact List.mem_cons_self ..
end Go.Proofs
end
section
namespace Go.Proofs
open Go Go.SX
set_option maxRecDepth 100000
set_option maxHeartbeats 4000000
def pfxS : List UInt8:=[50,32,61,52,100,52,49,52,57,52,101,32,45,49,32,48,32,52,56,32,48,32,50,32,50,32,48,32,49,32,49,32,48,32,48,32,48,32,48,32,48,32,50,32,49,53,32,48,32,48,32,61,32,49,32,49,32,50,32,49,53,32,48,32,48,32,61,32,55,32,61,32,48,32,48,32,48,32,48,32,48,32,48,32,48,32,48,32,48,32,48,32]
theorem sane9 : CallsF Tryz.prog 9 [] (stP glP) (.ret (.v (vT true))):=by
 refine CallsF.mk true Tryz.func9 kq kq (fun ρ w=>V.lit ?_)
 refine V.runZ ev0 [] [21] 2000 (fun os=>kq) kq kq (fun os=>?_)
 refine V.callO [(0,false),(1,false),(2,false)] (check21 48 0 chkOk) kq kq kq (fun v hv=>⟨?_,?_⟩) (fun ch hc=>by cases hc)
 ·cases hv; kernel_rfl
 cases hv
 refine V.runZ ev0 [] [17] 2000 (fun os=>kq) kq kq (fun o1=>?_)
 refine V.callO [(0,false),(1,false),(2,false)] up17 kq kq kq (fun v hv=>⟨?_,?_⟩) (fun ch hc=>by cases hc)
 ·cases hv; kernel_rfl
 cases hv
 refine V.runZ ev0 [] [30] 2000 (fun os=>kq) kq kq (fun o2=>?_)
 refine V.callNew [(0,false),(1,false),(2,false)] reached30 kq kq kq (fun _=>kq) (fun x _=>?_)
 refine V.runZ ev0 [] [24] 2000 (fun os=>kq) kq kq (fun o3=>?_)
 refine V.callO [(1,false),(2,false),(3,false)] count24 kq kq kq (fun v hv=>⟨?_,?_⟩) (fun ch hc=>by cases hc)
 ·cases hv; kernel_rfl
 cases hv
 refine V.runZ ev0 [] [20] 2000 (fun os=>kq) kq kq (fun o4=>?_)
 refine V.callNew [(1,false),(2,false),(3,false)] ins20 kq kq kq (fun _=>kq) (fun y _=>?_)
 refine V.runZ ev0 [] [35] 2000 (fun os=>kq) kq kq (fun o5=>?_)
 refine V.callO [(3,false),(4,false),(5,false),(6,false)] print35 kq kq kq (fun v hv=>⟨?_,?_⟩) (fun ch hc=>by cases hc)
 ·cases hv; kernel_rfl
 cases hv
 refine V.runZ ev0 [] [28] 2000 (fun os=>kq) kq kq (fun o6=>?_)
 refine V.asRow 73 2 (litR [[.int .i64 0],[.int .i64 1]] x.1 x.2 3 1 false) kq kq kq kq ?_
 refine V.runZ ev0 [] [] 2000 (fun os=>kq) kq kq (fun o7=>?_)
 refine V.asRow 94 0 (litR [prC [77,65,73,78] (-1) 48 (slV y.2.2.1 3),prN y.2.2.2.2] y.1.1 y.1.2 55 7 false) kq kq kq kq ?_
 refine V.runZ ev0 [] [] 2000 (fun os=>kq) kq kq (fun o8=>?_)
 refine V.slotRow 103 1 (litR [prC [77,65,73,78] (-1) 48 (slV y.2.2.1 3),prN y.2.2.2.2] y.1.1 y.1.2 55 7 false) kq kq kq ?_
 refine V.runZ ev0 [] [] 2000 (fun os=>kq) kq kq (fun o9=>?_)
 refine V.asRow 106 1 (litR [smY y.2.2.2.1.1,smC 1 nilS nilS 0,smC 6 nilS nilS 1] y.2.2.1.1 y.2.2.1.2 59 11 false) kq kq kq kq ?_
 refine V.runZ ev0 [] [36] 2000 (fun os=>kq) kq kq (fun o10=>?_)
 refine V.callO [] (hp36 prS pfxS (by decide +kernel) (by decide +kernel)) kq kq kq (fun v hv=>⟨?_,?_⟩) (fun ch hc=>by cases hc)
 ·cases hv; kernel_rfl
 cases hv
 refine V.runZ ev0 [] [12] 4000 (fun os=>kq) kq kq (fun o11=>?_)
 refine V.callO [(3,false),(4,false),(5,false)] res12 kq kq kq (fun v hv=>⟨?_,?_⟩) (fun ch hc=>by cases hc)
 ·cases hv; kernel_rfl
 cases hv
 refine V.runZ ev0 [] [21] 4000 (fun os=>kq) kq kq (fun o11=>?_)
 refine V.callO [(3,false),(4,false),(5,false)] (check21 32 103 chkRef) kq kq kq (fun v hv=>⟨?_,?_⟩) (fun ch hc=>by cases hc)
 ·cases hv; kernel_rfl
 cases hv
 refine V.runZ ev0 [] [21] 4000 (fun os=>kq) kq kq (fun o12=>?_)
 refine V.callO [(3,false),(4,false),(5,false)] chk0 kq kq kq (fun v hv=>⟨?_,?_⟩) (fun ch hc=>by cases hc)
 ·cases hv; kernel_rfl
 cases hv
 refine V.runZ ev0 [] [21] 4000 (fun os=>kq) kq kq (fun o13=>?_)
 exact V.retO kq kq kq
end Go.Proofs
end
section
namespace Go.Proofs.YticgechhgdgjlaaGreatDoor
open Go
set_option maxRecDepth 100000
theorem coreResults_k0 : (Rows.coreResultsRow.wf (OpenSpec.ofChange Rows.coreResultsSpec)) = true:=kq
theorem coreResults_k1 : (laidOutB Tryz.prog) = true:=kq
theorem coreResults_k2 : (mapsRowed Tryz.prog) = true:=kq
theorem coreResults_k3 : (Tryz.f3.params.all (Tryz.prog.readableRec ·)) = true:=kq
theorem coreResults_k4 : (namedTie Tryz.prog Rows.coreResultsRow.named Rows.coreResultsSpec.vars) = true:=kq
theorem coreResults_k5 : ((Rows.coreResultsRow.stops == [])) = true:=kq
theorem coreResults_k6 : ((Tryz.prog.stops == [])) = true:=kq
theorem coreResults_k7 : ((Rows.coreResultsRow.knobs == [])) = true:=kq
theorem coreResults_k8 : ((Tryz.prog.stopKnobs == [])) = true:=kq
theorem coreResults_k9 : ((Rows.coreResultsRow.inPlace == Tryz.prog.inPlace 3)) = true:=kq
theorem coreResults_k10 : ((Rows.coreResultsRow.unfollowed == Tryz.prog.unfollowed 3)) = true:=kq
theorem coreResults_k11 : ((Rows.coreResultsRow.recurses == Tryz.prog.recurses 3)) = true:=kq
theorem coreResults_k12 : ((Rows.coreResultsRow.named == Tryz.prog.varsNamed 3)) = true:=kq
theorem coreResults_k13 : ((Rows.coreResultsRow.maps == (Tryz.f3.params.toList ++ Rows.coreResultsSpec.plain.varTypes Tryz.prog).any (Tryz.prog.mapsRec ·))) = true:=kq
theorem coreResults_k14 : ((Rows.coreResultsRow.ifaces == (Tryz.f3.params.toList ++ Rows.coreResultsSpec.plain.varTypes Tryz.prog).any (Tryz.prog.ifacesRec ·))) = true:=kq
theorem coreResults_k15 : ((Rows.coreResultsRow.mapsOut == Tryz.prog.mapsAmong Tryz.f3.resultTypes.toList)) = true:=kq
theorem coreResults_k16 : ((Rows.coreResultsRow.loops == (Tryz.f3.params.toList ++ Rows.coreResultsSpec.plain.varTypes Tryz.prog).any (Tryz.prog.loopsFrom ·))) = true:=kq
theorem coreResults_k17 : ((Rows.coreResultsRow.wideKeys == (Tryz.f3.params.toList ++ Rows.coreResultsSpec.plain.varTypes Tryz.prog ++ Tryz.f3.resultTypes.toList).any (Tryz.prog.wideKeysFrom ·))) = true:=kq
theorem coreResults_k18 : (Rows.coreResultsSpec.vars.all (Tryz.prog.varReadable ·)) = true:=kq
theorem coreResults_k19 : (Tryz.f3.resultTypes.all (fun t=>Tryz.prog.readableRec t && decide (t < Tryz.prog.types.size))) = true:=kq
theorem coreResults_k20 : ((Rows.coreResultsRow.ifacesOut == Tryz.f3.resultTypes.toList.any (Tryz.prog.ifacesRec ·))) = true:=kq
theorem coreResults_k21 : ((Rows.coreResultsRow.loopsOut == Tryz.f3.resultTypes.toList.any (Tryz.prog.loopsFrom ·))) = true:=kq
theorem coreResults_k22 : ((Rows.coreResultsRow.plainKeys == Tryz.prog.plainKeys)) = true:=kq
theorem coreResults_k23 : (Rows.coreResultsRow.shortTexts.isNone) = true:=kq
theorem coreResults_k24 : (Tryz.prog.stopsHeard) = true:=kq
theorem coreResults_k25 : (Tryz.prog.mayEnter) = true:=kq
theorem coreResults_k26 : ((Rows.coreResultsRow.lifted == Tryz.prog.liftsFinal)) = true:=kq
theorem coreResults_k27 : ((Tryz.prog.make == some Rows.coreResultsRow.make)) = true:=kq
theorem coreResults_k28 : ((Rows.coreResultsRow.kinds == (if Rows.coreResultsRow.domain.isEmpty then [] else Tryz.f3.params.toList.map fun t=>match Tryz.prog.underlying t with | some (.int k)=>some k | _=>none))) = true:=kq
theorem coreResults_k29 : ((Rows.coreResultsRow.pinned == Rows.coreResultsRow.pinnedBy)) = true:=kq
theorem coreResults_k30 : ((Rows.coreResultsRow.veiled == (Tryz.f3.params.toList ++ Rows.coreResultsSpec.plain.varTypes Tryz.prog ++ Tryz.f3.resultTypes.toList).any (Tryz.prog.veiledRec ·))) = true:=kq
theorem coreResults_k31 : (Rows.coreResultsRow.veiledFits Tryz.prog Tryz.f3.params.toList (Tryz.f3.params.toList ++ Rows.coreResultsSpec.plain.varTypes Tryz.prog ++ Tryz.f3.resultTypes.toList)) = true:=kq
theorem coreResults_and {a b : Bool} (ha : a = true) (hb : b = true) : (a && b) = true:=by rw [ha,hb]; rfl
theorem coreResults_joined : joinedFacts Tryz.prog 3 Tryz.f3 Rows.coreResultsSpec Rows.coreResultsRow = true:=by
 unfold joinedFacts
 exact coreResults_and (coreResults_and (coreResults_and (coreResults_and (coreResults_and (coreResults_and (coreResults_and (coreResults_and (coreResults_and (coreResults_and (coreResults_and (coreResults_and (coreResults_and (coreResults_and (coreResults_and (coreResults_and (coreResults_and (coreResults_and (coreResults_and (coreResults_and (coreResults_and (coreResults_and (coreResults_and (coreResults_and (coreResults_and (coreResults_and (coreResults_and (coreResults_and (coreResults_and (coreResults_and (coreResults_and (coreResults_k0) coreResults_k1) coreResults_k2) coreResults_k3) coreResults_k4) coreResults_k5) coreResults_k6) coreResults_k7) coreResults_k8) coreResults_k9) coreResults_k10) coreResults_k11) coreResults_k12) coreResults_k13) coreResults_k14) coreResults_k15) coreResults_k16) coreResults_k17) coreResults_k18) coreResults_k19) coreResults_k20) coreResults_k21) coreResults_k22) coreResults_k23) coreResults_k24) coreResults_k25) coreResults_k26) coreResults_k27) coreResults_k28) coreResults_k29) coreResults_k30) coreResults_k31
theorem coreResults_fn : Tryz.prog.funcNamed "pliant/pliantlaw10.CoreResults" = some 3:=kq
theorem coreResults_inst : Tryz.f3.isInstance Tryz.prog Rows.coreResultsRow.origin Rows.coreResultsRow.targs:=of_decide_eq_true kq
theorem coreResults_wrap : Tryz.f3.isWrapper Tryz.prog Rows.coreResultsRow.wrapper Rows.coreResultsRow.mainSum:=by
 unfold Func.isWrapper
 first | (rw [if_pos (by decide +kernel)]; kernel_rfl) | (rw [if_neg (by decide +kernel)]; exact ⟨rfl,rfl⟩)
theorem coreResults_looks : true = Tryz.prog.looks []:=kq
theorem coreResults_goes : false = Rows.coreResultsRow.goesBy Tryz.prog:=kq
theorem coreResults_wft : Rows.coreResultsRow.wfByText (OpenSpec.ofChange Rows.coreResultsSpec) = true:=kq
theorem coreResults_main : Tryz.prog.mainIs = some (true,"f874ffd9938888031624e5996c1b13a8af86322812edc42febcd9e3cd0564ff1".toList):=kq
theorem coreResults_stand : ([3,3,22].all fun u=>!Tryz.prog.wantsStandIn u) = true:=kq
theorem coreResults_par : Tryz.f3.params = #[3,3,22]:=kq
end Go.Proofs.YticgechhgdgjlaaGreatDoor
end
section
namespace Go.Proofs.YticgechhgdgjlaaGreatDoor
open Go
set_option maxRecDepth 100000
theorem coreResults_holds (lifted : ∀ os : Os,os.Started → ∀ (H : Type) (enc : TypeId × Value → H),ReturnsInHanded {} Tryz.checked os 3 .any (fun w args=>(Rows.coreResultsSpec.pre enc Tryz.prog Tryz.f3 [] false w args ∧ laidMetH Tryz.prog Rows.coreResultsRow.laid w) ∧ sizedMet enc Tryz.prog Tryz.f3 (OpenSpec.ofChange Rows.coreResultsSpec) false w args)
   (Rows.coreResultsSpec.post enc Tryz.prog Tryz.f3 false true false false)) : Rows.CoreResultsSaid :=
 OpenClaim.holds_of_wide 3 Tryz.f3 rfl rfl rfl rfl rfl rfl rfl ⟨rfl,rfl,rfl,rfl,rfl⟩ rfl rfl rfl rfl rfl coreResults_fn Tryz.func3 coreResults_joined coreResults_inst coreResults_wrap (fun os started H enc _=>lifted os started H enc)
theorem coreResults_card (hh : Rows.CoreResultsSaid) : Rows.CoreResultsCardSaid :=
 Claim7.holds_tied_plain_at .later [] [.data,.data,.data,.data,.sentinel,.sentinel,.data,.data,.data,.pinned] true (true,"f874ffd9938888031624e5996c1b13a8af86322812edc42febcd9e3cd0564ff1") true hh (fun _ h=>by cases h) coreResults_wft (fun _ h=>by cases h) coreResults_row_tie rfl ⟨rfl,rfl⟩ coreResults_main rfl
  (fun f fn hf hfn=>by
   obtain rfl : f = 3:=Option.some.inj (coreResults_fn.symm.trans hf) |>.symm
   obtain rfl : fn = Tryz.f3:=(Option.some.inj (Tryz.func3.symm.trans hfn)).symm
   exact ⟨coreResults_looks,fun j t ht=>by
    rw [coreResults_par] at ht
    have hm : t ∈ [3,3,22]:=by simpa using Array.mem_of_getElem? ht
    exact (show Tryz.prog.wantsStandIn t = false by simpa using List.all_eq_true.1 coreResults_stand t hm)⟩)
  coreResults_goes
end Go.Proofs.YticgechhgdgjlaaGreatDoor
end
section
namespace Go.Proofs.YticgechhgdgjlaaGreatDoor
open Go Go.SX Go.ChangeShapes Go.WideShapes Go.ChangeAt Go.RowKit Go.ChangeMaps
set_option maxRecDepth 100000
theorem ownK : ownKnob Tryz.prog.godebug = none:=kq
theorem persOk_of {ps : List Pers} {w : World} (h : ∀ p ∈ ps,LastP p w ∧ Stab p) : PersOk ps w:=fun p hp =>
 ⟨(h p hp).1.1,fun w' hk=>(h p hp).2 w w' hk (h p hp).1.1,(h p hp).1.2⟩
theorem laid_shaped (os : Os) (args : Array Value) : ((World.laidAll Tryz.prog os laidL).forCall (fun _ _=>0) ⟨#[],args,[]⟩).Shaped Tryz.prog:=World.shaped_of_ZipB kq kq
theorem laid_met (os : Os) (args : Array Value) : laidMetH Tryz.prog laidL ((World.laidAll Tryz.prog os laidL).forCall (fun _ _=>0) ⟨#[],args,[]⟩).memory:=by
 rw [MakeChecks.laidMetH_plain _ _ _ kq]
 exact laidMet_laidAll _ kq kq
section
variable {H : Type} {enc : TypeId × Value → H} {w : World} {base : Nat} {sp : Nat → Bool} {held : Bool}
theorem open_tys {r : Reach} {b0 : Nat} {v : Value} {dd : DataW H} {ps : List MemPlace} (hval : Value.okWide Tryz.prog w r b0 22 v) (h : DataW.Trod enc Tryz.prog w base sp held 22 v dd ps) :
  ∃ L : LsA,v = .slice L.q L.l.length L.c ∧ LastP (rowP L.row) w:=by
 obtain ⟨a,n,k,rfl⟩:=okWide_slice (P:=Tryz.prog) (t:=22) (e:=26) kq hval
 obtain ⟨fuel,hf⟩:=h
 obtain ⟨rl,q,c,e,_,h1⟩:=o_tys hf
 have e' : ([.slice a n k] : List Value) = [.slice q rl.length c]:=e
 exact ⟨⟨rl,q,c⟩,(List.cons.inj e').1,h1⟩
end
theorem CallsF.gives {f : FuncId} {ys : List CV} {ps : List Pers} {v : RV} (h : CallsF Tryz.prog f ys (stP ps) (.ret v)) (w : World) (hp : PersOk ps w) :
  Calls Tryz.prog f (ys.map (CV.den fun _=>0)).toArray w (fun e w'=>e = .returned (v.den fun _=>0) ∧ Chg (fun _=>False) w w'):=h (fun _=>0) w (FSat_stP hp)
theorem results_lifted (os : Os) (started : os.Started) (H : Type) (enc : TypeId × Value → H) :
  ReturnsInHanded {} Tryz.checked os 3 .any (fun w args=>(Rows.coreResultsSpec.pre enc Tryz.prog Tryz.f3 [] false w args ∧ laidMetH Tryz.prog laidL w) ∧ sizedMet enc Tryz.prog Tryz.f3 (OpenSpec.ofChange Rows.coreResultsSpec) false w args)
   (Rows.coreResultsSpec.post enc Tryz.prog Tryz.f3 false true false false):=by
 refine returns_wrap (C:=Tryz.checked) (X:=fun w _=>laidMetH Tryz.prog laidL w) (fun _ _ _ hh h=>h.of_heap hh) ownK started kq Tryz.func3
  (ChangeSpec.witness_shaped (enc:=enc) (C:=Tryz.checked) (os:=os) (X:=fun w _=>laidMetH Tryz.prog laidL w) false (World.laidAll Tryz.prog os laidL) #[.int .i64 0,.int .i64 0,.slice none 0 0] 8 (World.laidAll_os _ _ _)
   (laid_shaped os _) kq kq kq (laid_met os _)) ?_
 intro W base args ds gs before hval0 hW hL hsh
 have hval : ∀ (j : Nat) t v,Tryz.f3.params[j]? = some t → args[j]? = some v → Value.okWide Tryz.prog W .any base t v:=hval0
 have hW':=hW
 obtain ⟨p,q,hA0,hV,rfl,_,_⟩:=hW
 have hA : DataW.TrodAll enc Tryz.prog W 0 (fun _=>true) true Tryz.f3.params.toList args.toList ds p:=hA0
 have hpar : Tryz.f3.params = #[3,3,22]:=kq
 rw [hpar] at hA hval
 obtain ⟨v0,v1,v2,d0,d1,d2,p0,p1,p2,rfl,rfl,rfl,h0,h1,h2⟩:=trodAll_three hA
 obtain ⟨rfl,rfl⟩:=trodVars_none hV
 obtain ⟨op,rfl,_,_,_⟩:=open_int Tryz.underlying3 (hval 0 3 v0 rfl rfl) h0
 obtain ⟨n,rfl,_,_,_⟩:=open_int Tryz.underlying3 (hval 1 3 v1 rfl rfl) h1
 obtain ⟨L,rfl,hl⟩:=open_tys (hval 2 22 v2 rfl rfl) h2
 have hP : PersOk (lawN L) W:=persOk_of (fun p hp=>by
  rcases List.mem_append.1 hp with hp | hp
  ·exact glb_of_laid hL p hp
  ·rw [List.mem_singleton.1 hp]
   exact ⟨hl,rowP_stab _⟩)
 refine (CallsF.gives (lawX sane9 L (op,n)) W hP).mono fun e W' ⟨he,hc⟩=>?_
 subst he
 exact ⟨_,rfl,post_true rfl kq (by rw [hpar]; exact fun t ht=>of_decide_eq_true (List.all_eq_true.1 (show ([3,3,22].all fun u=>decide (u < Tryz.prog.types.size)) = true by kernel_rfl) t ht)) hW' rfl hc⟩
theorem results_card_holds : Rows.CoreResultsCardSaid:=coreResults_card (coreResults_holds (fun os started H enc=>results_lifted os started H enc))
end Go.Proofs.YticgechhgdgjlaaGreatDoor
end
