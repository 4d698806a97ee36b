/- A symbolic run of the program that Lean checks, and what the functions of the program come to by it: part 8 of 11. -/
import Derived.Test.YticgechhgdgjlaaGreatDoorRAG
set_option linter.unusedVariables false
set_option linter.unusedSimpArgs false
section
namespace Go.Proofs
open Go Go.SX
set_option maxRecDepth 10000
set_option maxHeartbeats 4000000
def rchQ (a : Ty) : Prop:=a.s.length ≤ 1000000
inductive rchI where
 | e (a : Ty)
noncomputable def rchC : rchI → Cfg
 | .e a=>entO Tryz.f164 (arg1T a)
noncomputable def rchS : rchI → Sh
 | .e a=>(.ob [isaQ a] (.cond (vN isaX a) (.ret (RV.v (CV.one (SV.int IntKind.i64 0)))) (.cond (a.k == 3) (.cond (a.q == 0 && a.s == ([] : List UInt8) && decide (a.p ≥ 0) && decide (a.p ≤ 255)) (.ret (RV.v (CV.one (SV.int IntKind.i64 0)))) (.ret (RV.v (CV.one (SV.int IntKind.i64 5))))) (.cond (a.k == 4) (.cond (a.q == 0 && a.s == ([] : List UInt8) && !a.v && decide (a.p ≥ 0) && decide (a.p ≤ 64)) (.ret (RV.v (CV.one (SV.int IntKind.i64 0)))) (.ret (RV.v (CV.one (SV.int IntKind.i64 5))))) (.cond (a.k == 5) (.ob [(a.p == 0 && a.q == 0 && !a.v) = true → prsQ a.s] (.cond (a.p == 0 && a.q == 0 && !a.v && (exV prsX a.s).e == 0) (.ret (RV.v (CV.one (SV.int IntKind.i64 0)))) (.ret (RV.v (CV.one (SV.int IntKind.i64 5)))))) (.cond (a.k == 6) (.cond (a.q == 0 && a.s == ([] : List UInt8) && a.p == 0 && !a.v) (.ret (RV.v (CV.one (SV.int IntKind.i64 0)))) (.ret (RV.v (CV.one (SV.int IntKind.i64 5))))) (.ret (RV.v (CV.one (SV.int IntKind.i64 5))))))))))
noncomputable def rchN : rchI → Nat → rchI
 | .e a,_=>.e a
def rchK : rchI → List Nat
 | .e _=>[]
def rchM : rchI → Nat
 | .e a=>1
def rchP (a0 : Ty) : rchI → Prop
 | .e a=>a = a0 ∧ a.s.length ≤ 1000000
theorem rchX : ExN Tryz.prog 164 [] arg1T (fun r=>.v (vI r)) rchQ (fun a r=>a.k ≠ 5 → (r = 0 ↔ ArOK a ∨ ChOK a ∨ BtOK a ∨ PtOK a)):=by
 intro a0 ha
 refine CallsF.ofV false Tryz.func164 kq kq (cuts hMu kq (T:=[cIsa.e,cPck.e]) 40 rchC rchS rchN rchK (fun _=>[]) rchM (rchP a0) _ (fun i=>by cases i <;> kernel_rfl) (fun i=>by cases i <;> kernel_rfl) ?_ (fun i j hj=>?_) _ (.e a0) (Nat.lt_succ_self _) ⟨rfl,ha⟩)
 ·intro i hi
  cases i with
  | e a =>
   simp only [rchP] at hi
   obtain ⟨rfl,hi⟩:=hi
   have o1 : isaQ a:=by simp only [allP,isaQ,prsQ] <;> first | omega | grind
   have f1:=(vN_ok isaX a o1).2
   (try simp only at f1)
   refine ⟨o1,?_⟩
   refine ⟨fun h0=>?_,fun h0=>?_⟩
   ·exact ⟨⟨0,rfl,by first | grind | (simp only [ChOK,ArOK,BtOK,PtOK] at *; grind)⟩,rfl⟩
   ·refine ⟨fun h1=>?_,fun h1=>?_⟩
    ·refine ⟨fun h2=>?_,fun h2=>?_⟩
     ·simp only [Bool.or_eq_true,Bool.and_eq_true,Bool.or_eq_false_iff,Bool.and_eq_false_iff,decide_eq_true_eq,decide_eq_false_iff_not,Bool.not_eq_true',Bool.not_eq_false',Bool.not_eq_true,Bool.not_eq_false] at h2
      exact ⟨⟨0,rfl,by first | grind | (simp only [ChOK,ArOK,BtOK,PtOK] at *; grind)⟩,rfl⟩
     ·simp only [Bool.or_eq_true,Bool.and_eq_true,Bool.or_eq_false_iff,Bool.and_eq_false_iff,decide_eq_true_eq,decide_eq_false_iff_not,Bool.not_eq_true',Bool.not_eq_false',Bool.not_eq_true,Bool.not_eq_false] at h2
      exact ⟨⟨5,rfl,by first | grind | (simp only [ChOK,ArOK,BtOK,PtOK] at *; grind)⟩,rfl⟩
    ·refine ⟨fun h2=>?_,fun h2=>?_⟩
     ·refine ⟨fun h3=>?_,fun h3=>?_⟩
      ·simp only [Bool.or_eq_true,Bool.and_eq_true,Bool.or_eq_false_iff,Bool.and_eq_false_iff,decide_eq_true_eq,decide_eq_false_iff_not,Bool.not_eq_true',Bool.not_eq_false',Bool.not_eq_true,Bool.not_eq_false] at h3
       exact ⟨⟨0,rfl,by first | grind | (simp only [ChOK,ArOK,BtOK,PtOK] at *; grind)⟩,rfl⟩
      ·simp only [Bool.or_eq_true,Bool.and_eq_true,Bool.or_eq_false_iff,Bool.and_eq_false_iff,decide_eq_true_eq,decide_eq_false_iff_not,Bool.not_eq_true',Bool.not_eq_false',Bool.not_eq_true,Bool.not_eq_false] at h3
       exact ⟨⟨5,rfl,by first | grind | (simp only [ChOK,ArOK,BtOK,PtOK] at *; grind)⟩,rfl⟩
     ·refine ⟨fun h3=>?_,fun h3=>?_⟩
      ·have o2 : (a.p == 0 && a.q == 0 && !a.v) = true → prsQ a.s:=by simp only [allP,prsQ,prsQ] <;> first | omega | grind
       refine ⟨o2,?_⟩
       refine ⟨fun h4=>?_,fun h4=>?_⟩
       ·exact ⟨⟨0,rfl,by first | grind | (simp only [ChOK,ArOK,BtOK,PtOK] at *; grind)⟩,rfl⟩
       ·exact ⟨⟨5,rfl,by first | grind | (simp only [ChOK,ArOK,BtOK,PtOK] at *; grind)⟩,rfl⟩
      ·refine ⟨fun h4=>?_,fun h4=>?_⟩
       ·refine ⟨fun h5=>?_,fun h5=>?_⟩
        ·exact ⟨⟨0,rfl,by first | grind | (simp only [ChOK,ArOK,BtOK,PtOK] at *; grind)⟩,rfl⟩
        ·exact ⟨⟨5,rfl,by first | grind | (simp only [ChOK,ArOK,BtOK,PtOK] at *; grind)⟩,rfl⟩
       ·exact ⟨⟨5,rfl,by first | grind | (simp only [ChOK,ArOK,BtOK,PtOK] at *; grind)⟩,rfl⟩
 ·cases i with
  | e a=>exact absurd hj (Nat.not_lt_zero _)
noncomputable def cRch : Con Tryz.prog:=Con.exN rchX un1T un1T_den
set_option maxHeartbeats 4000000
def rctQ (a : Ty) : Prop:=a.s.length ≤ 1000000
inductive rctI where
 | e (a : Ty)
noncomputable def rctC : rctI → Cfg
 | .e a=>entO Tryz.f92 (arg1T a)
noncomputable def rctS : rctI → Sh
 | .e a=>(.cond (a.k != 7) (.ob [rchQ a] (.ret (RV.v (CV.one (SV.int IntKind.i64 (vN rchX a)))))) (.ob [(a.q != 0 || a.v || !a.s == ([] : List UInt8) || decide (a.p < 16) || decide (a.p > 4096)) = false → (8 : Int) ≠ 0] (.cond (a.q != 0 || a.v || !a.s == ([] : List UInt8) || decide (a.p < 16) || decide (a.p > 4096) || a.p.tmod 8 != 0) (.ret (RV.v (CV.one (SV.int IntKind.i64 5)))) (.ret (RV.v (CV.one (SV.int IntKind.i64 0)))))))
noncomputable def rctN : rctI → Nat → rctI
 | .e a,_=>.e a
def rctK : rctI → List Nat
 | .e _=>[]
def rctM : rctI → Nat
 | .e a=>1
def rctP (a0 : Ty) : rctI → Prop
 | .e a=>a = a0 ∧ a.s.length ≤ 1000000
theorem rctX : ExN Tryz.prog 92 [] arg1T (fun r=>.v (vI r)) rctQ (fun a r=>a.k ≠ 5 → a.k ≠ 7 → (r = 0 ↔ ArOK a ∨ ChOK a ∨ BtOK a ∨ PtOK a)):=by
 intro a0 ha
 refine CallsF.ofV false Tryz.func92 kq kq (cuts hMu kq (T:=[cRch.e]) 40 rctC rctS rctN rctK (fun _=>[]) rctM (rctP a0) _ (fun i=>by cases i <;> kernel_rfl) (fun i=>by cases i <;> kernel_rfl) ?_ (fun i j hj=>?_) _ (.e a0) (Nat.lt_succ_self _) ⟨rfl,ha⟩)
 ·intro i hi
  cases i with
  | e a =>
   simp only [rctP] at hi
   obtain ⟨rfl,hi⟩:=hi
   refine ⟨fun h0=>?_,fun h0=>?_⟩
   ·have o1 : rchQ a:=by simp only [allP,rchQ,prsQ] <;> first | omega | grind
    have f1:=(vN_ok rchX a o1).2
    (try simp only at f1)
    refine ⟨o1,?_⟩
    exact ⟨⟨(vN rchX a),rfl,by first | grind | (simp only [ChOK,ArOK,BtOK,PtOK] at *; grind)⟩,rfl⟩
   ·have o2 : (a.q != 0 || a.v || !a.s == ([] : List UInt8) || decide (a.p < 16) || decide (a.p > 4096)) = false → (8 : Int) ≠ 0:=fun _=>by decide
    refine ⟨o2,?_⟩
    refine ⟨fun h1=>?_,fun h1=>?_⟩
    ·simp only [Bool.or_eq_true,Bool.and_eq_true,Bool.or_eq_false_iff,Bool.and_eq_false_iff,decide_eq_true_eq,decide_eq_false_iff_not,Bool.not_eq_true',Bool.not_eq_false',Bool.not_eq_true,Bool.not_eq_false] at h1
     exact ⟨⟨5,rfl,by first | grind | (simp only [ChOK,ArOK,BtOK,PtOK] at *; grind)⟩,rfl⟩
    ·simp only [Bool.or_eq_true,Bool.and_eq_true,Bool.or_eq_false_iff,Bool.and_eq_false_iff,decide_eq_true_eq,decide_eq_false_iff_not,Bool.not_eq_true',Bool.not_eq_false',Bool.not_eq_true,Bool.not_eq_false] at h1
     exact ⟨⟨0,rfl,by first | grind | (simp only [ChOK,ArOK,BtOK,PtOK] at *; grind)⟩,rfl⟩
 ·cases i with
  | e a=>exact absurd hj (Nat.not_lt_zero _)
noncomputable def cRct : Con Tryz.prog:=Con.exN rctX un1T un1T_den
set_option maxHeartbeats 4000000
def scaQ (a : Ty) : Prop:=a.s.length ≤ 1000000
inductive scaI where
 | e (a : Ty)
noncomputable def scaC : scaI → Cfg
 | .e a=>entO Tryz.f39 (arg1T a)
noncomputable def scaS : scaI → Sh
 | .e a=>(.ob [rctQ a] (.ret (RV.v (CV.one (SV.sb (vN rctX a == 0 && a.k != 7))))))
noncomputable def scaN : scaI → Nat → scaI
 | .e a,_=>.e a
def scaK : scaI → List Nat
 | .e _=>[]
def scaM : scaI → Nat
 | .e a=>1
def scaP (a0 : Ty) : scaI → Prop
 | .e a=>a = a0 ∧ a.s.length ≤ 1000000
theorem scaX : ExN Tryz.prog 39 [] arg1T (fun r=>.v (vT r)) scaQ (fun a r=>a.k ≠ 5 → (r = true ↔ ArOK a ∨ ChOK a ∨ BtOK a ∨ PtOK a)):=by
 intro a0 ha
 refine CallsF.ofV false Tryz.func39 kq kq (cuts hMu kq (T:=[cRct.e]) 40 scaC scaS scaN scaK (fun _=>[]) scaM (scaP a0) _ (fun i=>by cases i <;> kernel_rfl) (fun i=>by cases i <;> kernel_rfl) ?_ (fun i j hj=>?_) _ (.e a0) (Nat.lt_succ_self _) ⟨rfl,ha⟩)
 ·intro i hi
  cases i with
  | e a =>
   simp only [scaP] at hi
   obtain ⟨rfl,hi⟩:=hi
   have o1 : rctQ a:=by simp only [allP,rctQ,prsQ] <;> first | omega | grind
   have f1:=(vN_ok rctX a o1).2
   (try simp only at f1)
   refine ⟨o1,?_⟩
   exact ⟨⟨(vN rctX a == 0 && a.k != 7),rfl,by first | grind | (simp only [ChOK,ArOK,BtOK,PtOK] at *; grind)⟩,rfl⟩
 ·cases i with
  | e a=>exact absurd hj (Nat.not_lt_zero _)
noncomputable def cSca : Con Tryz.prog:=Con.exN scaX un1T un1T_den
set_option maxHeartbeats 4000000
def tyRow (ls : List Ty) (q : Option Addr) (cap : Nat) : Row:=rowL tyC Ty0 ls q cap 26 5 false
def lsN (ls : List Ty) (q : Option Addr) (cap : Nat) : List Pers:=[rowP (tyRow ls q cap)]
def lsV (ls : List Ty) (q : Option Addr) (cap : Nat) : CV:=.one (.val (.slice q ls.length cap))
noncomputable def TL : List (Ent Tryz.prog):=[cCht.e,cBtt.e,cItt.e]
inductive lkI where
 | e (ks : List UInt8)
 | l (ks : List UInt8) (i : Int)
section
variable (ls : List Ty) (q : Option Addr) (cap : Nat)
def argL (ks : List UInt8) : List CV:=[lsV ls q cap,vS ks]
noncomputable def entL (fn : Func) (ys : List CV) : Cfg:=⟨[.code (bodyOf fn)],stO fn.ntmps ys (stP (lsN ls q cap)) false⟩
noncomputable def lkT0 : List Item:=(SX.iter (leafN (treeX Tryz.prog 163 TL 69 40 (entL [] none 0 Tryz.f163 (argL [] none 0 []))) 0 (entL [] none 0 Tryz.f163 (argL [] none 0 [])))).todo
def lkSt (ks : List UInt8) (i : Int) : St :=
 { n:=36,slots:=[(1,.v (vS ks)),(12,.v (.one (.row 0 q ls.length cap))),(13,.v (vI ls.length)),(14,.v (vI i))],gs:=[],heap:=[],next:=0,
    rows:=[(0,tyRow ls q cap)],nr:=1,pers:=lsN ls q cap,wr:=false,fx:=0 }
noncomputable def lkC : lkI → Unit → Cfg
 | .e ks,_=>entL ls q cap Tryz.f163 (argL ls q cap ks)
 | .l ks i,_=>⟨lkT0,lkSt ls q cap ks i⟩
noncomputable def lkS : lkI → Sh
 | .e ks=>.cond ((ls.length : Int) != (ks.length : Int)) (.ret (.v (vT false))) .leaf
 | .l ks i=>.cond (decide (i < (ls.length : Int))) (.ob [0 ≤ i ∧ i < (ls.length : Int),0 ≤ i ∧ i < (ks.length : Int)]
   (.cond (((ks.getD i.toNat 0).toNat : Int) == 99) (.ob [chtQ (ls.getD i.toNat Ty0)] (.cond (!vN chtX (ls.getD i.toNat Ty0)) (.ret (.v (vT false))) (.ob [inK .i64 (i + 1)] .leaf)))
    (.cond (((ks.getD i.toNat 0).toNat : Int) == 98) (.ob [bttQ (ls.getD i.toNat Ty0)] (.cond (!vN bttX (ls.getD i.toNat Ty0)) (.ret (.v (vT false))) (.ob [inK .i64 (i + 1)] .leaf)))
     (.ob [ittQ (ls.getD i.toNat Ty0)] (.cond (!vN ittX (ls.getD i.toNat Ty0)) (.ret (.v (vT false))) (.ob [inK .i64 (i + 1)] .leaf)))))) (.ret (.v (vT true)))
def lkN : lkI → Nat → lkI ⊕ Out
 | .e ks,_=>.inl (.l ks 0)
 | .l ks i,_=>.inl (.l ks (i + 1))
def lkM : lkI → Nat
 | .e ks=>ls.length + 2
 | .l ks i=>((ls.length : Int) - i).toNat + 1
def kdOK (c : UInt8) (t : Ty) : Prop:=(c = 99 → ChOK t) ∧ (c = 98 → BtOK t) ∧ (c ≠ 99 → c ≠ 98 → InOK t)
def likeP (ls : List Ty) (ks : List UInt8) : Prop:=ls.length = ks.length ∧ ∀ j,j < ls.length → kdOK (ks.getD j 0) (ls.getD j Ty0)
def lkP (k0 : List UInt8) : lkI → Prop
 | .e ks=>ks = k0
 | .l ks i=>ks = k0 ∧ ls.length = ks.length ∧ 0 ≤ i ∧ i ≤ (ls.length : Int) ∧ ∀ j : Nat,(j : Int) < i → kdOK (ks.getD j 0) (ls.getD j Ty0)
def likQ (ks : List UInt8) : Prop:=ls.length ≤ 1000000
end
theorem u8_eq {c : UInt8} {n : Nat} (h : ((c.toNat : Int) == (n : Int)) = true) (hn : n < 256) : c = UInt8.ofNat n:=by
 have h:=beq_iff_eq.1 h
 apply UInt8.toNat_inj.1
 rw [UInt8.toNat_ofNat']
 omega
theorem u8_ne {c : UInt8} {n : Nat} (h : ((c.toNat : Int) == (n : Int)) = false) (hn : n < 256) : c ≠ UInt8.ofNat n:=by
 rintro rfl
 rw [UInt8.toNat_ofNat',Nat.mod_eq_of_lt hn] at h
 simp at h
section
variable (ls : List Ty) (q : Option Addr) (cap : Nat)
theorem likX : ExN Tryz.prog 163 (lsN ls q cap) (argL ls q cap) (fun b=>.v (vT b)) (likQ ls) (fun a r=>r = true ↔ likeP ls a):=by
 intro a0 ha
 simp only [likQ] at ha
 suffices h : ∃ o,(∃ r,o = .ret (.v (vT r)) ∧ (r = true ↔ likeP ls a0)) ∧ ∀ x ρ base w,V (ctxO Tryz.prog 163 ρ o w base) (lkC ls q cap (.e a0) x) by
  obtain ⟨o,h1,h2⟩:=h
  exact CallsF.ofV false Tryz.func163 kq kq ⟨o,h1,fun ρ base w=>h2 () ρ base w⟩
 refine cutsX hMu kq (T:=TL) 40 (lkC ls q cap) (lkS ls) lkN (lkM ls) (lkP ls a0) (fun o=>∃ r,o = .ret (.v (vT r)) ∧ (r = true ↔ likeP ls a0)) (fun i x=>by cases i <;> kernel_rfl) (fun i x=>by cases i <;> kernel_rfl) ?_ (fun i x j hi hj=>?_) _ (.e a0) (Nat.lt_succ_self _) rfl
 ·intro i hi
  cases i with
  | e ks =>
   have hi : ks = a0:=hi
   subst hi
   refine ⟨fun h=>⟨⟨false,rfl,?_⟩,rfl⟩,fun h=>?_⟩
   ·simp only [bne_iff_ne,ne_eq,Int.ofNat_inj] at h
    simp only [likeP,Bool.false_eq_true,false_iff,not_and]
    exact fun h2=>absurd h2 h
   ·simp only [bne_eq_false_iff_eq,Int.ofNat_inj] at h
    simp only [Sh.okE,lkN,lkP,lkM]
    exact ⟨⟨trivial,h,by omega,by omega,fun j hj=>by omega⟩,by omega⟩
  | l ks i =>
   obtain ⟨g1,g2,g3,g4,g5⟩:=hi
   subst g1
   have hbad : ¬ kdOK (ks.getD i.toNat 0) (ls.getD i.toNat Ty0) → i < (ls.length : Int) → ((false = true) ↔ likeP ls ks):=fun hb hl=>by
    simp only [likeP,Bool.false_eq_true,false_iff,not_and]
    exact fun _ h2=>hb (h2 i.toNat (by omega))
   have hgo : kdOK (ks.getD i.toNat 0) (ls.getD i.toNat Ty0) → i < (ls.length : Int) → lkP ls ks (.l ks (i + 1)) ∧ lkM ls (.l ks (i + 1)) < lkM ls (.l ks i):=fun hk hl=>by
    simp only [lkP,lkM]
    refine ⟨⟨trivial,g2,by omega,by omega,fun j hj=>?_⟩,by omega⟩
    by_cases e : (j : Int) = i
    ·have : i.toNat = j:=by omega
     rw [this] at hk; exact hk
    ·exact g5 j (by omega)
   refine ⟨fun h=>?_,fun h=>⟨⟨true,rfl,?_⟩,rfl⟩⟩
   ·have h:=of_decide_eq_true h
    refine ⟨⟨⟨by omega,by omega⟩,⟨by omega,by omega⟩⟩,fun hc=>⟨trivial,?_⟩,fun hc=>⟨fun hc2=>⟨trivial,?_⟩,fun hc2=>⟨trivial,?_⟩⟩⟩
    ·have e:=u8_eq (n:=99) hc (by decide)
     have f:=(vN_ok chtX (ls.getD i.toNat Ty0) trivial).2
     refine ⟨fun hb=>⟨⟨false,rfl,hbad (fun hk=>?_) h⟩,rfl⟩,fun hb=>⟨⟨by omega,by omega⟩,hgo ?_ h⟩⟩
     ·have:=f.2 (hk.1 e); rw [this] at hb; cases hb
     ·refine ⟨fun _=>f.1 (by simpa using hb),fun h2=>?_,fun h2 _=>absurd e h2⟩
      rw [e] at h2; exact absurd h2 (by decide)
    ·have e1:=u8_ne (n:=99) hc (by decide)
     have e:=u8_eq (n:=98) hc2 (by decide)
     have f:=(vN_ok bttX (ls.getD i.toNat Ty0) trivial).2
     refine ⟨fun hb=>⟨⟨false,rfl,hbad (fun hk=>?_) h⟩,rfl⟩,fun hb=>⟨⟨by omega,by omega⟩,hgo ?_ h⟩⟩
     ·have:=f.2 (hk.2.1 e); rw [this] at hb; cases hb
     ·exact ⟨fun h2=>absurd h2 e1,fun _=>f.1 (by simpa using hb),fun _ h2=>absurd e h2⟩
    ·have e1:=u8_ne (n:=99) hc (by decide)
     have e2:=u8_ne (n:=98) hc2 (by decide)
     have f:=(vN_ok ittX (ls.getD i.toNat Ty0) trivial).2
     refine ⟨fun hb=>⟨⟨false,rfl,hbad (fun hk=>?_) h⟩,rfl⟩,fun hb=>⟨⟨by omega,by omega⟩,hgo ?_ h⟩⟩
     ·have:=f.2 (hk.2.2 e1 e2); rw [this] at hb; cases hb
     ·exact ⟨fun h2=>absurd h2 e1,fun h2=>absurd h2 e2,fun _ _=>f.1 (by simpa using hb)⟩
   ·have h:=of_decide_eq_false h
    simp only [true_iff]
    exact ⟨g2,fun j hj=>g5 j (by omega)⟩
 ·cases i with
  | e ks=>match j,hj with
   | 0,_ =>
    refine fun ρ base w o k=>V.nrm (V.asRow 12 0 (tyRow ls q cap) kq kq kq kq (V.againK [1,12,13,14] [true] (k ()) kq kq))
  | l ks i=>match j,hj with
   | 0,_=>exact fun ρ base w o k=>V.nrm (V.againK [1,12,13,14] [true] (k ()) kq kq)
   | 1,_=>exact fun ρ base w o k=>V.nrm (V.againK [1,12,13,14] [true] (k ()) kq kq)
   | 2,_=>exact fun ρ base w o k=>V.nrm (V.againK [1,12,13,14] [true] (k ()) kq kq)
end
end Go.Proofs
namespace Go.Proofs
open Go Go.SX
structure LsA where
 l : List Ty
 q : Option Addr
 c : Nat
def LsA.sl (L : LsA) : SlA:=⟨L.q,L.l.length,L.c⟩
def LsA.need (L : LsA) : List Pers:=lsN L.l L.q L.c
def LsA.row (L : LsA) : Row:=tyRow L.l L.q L.c
def argLK (a : SlA × List UInt8) : List CV:=[a.1.v,vS a.2]
def lkkQ (L : LsA) (a : SlA × List UInt8) : Prop:=a.1 = L.sl ∧ L.l.length ≤ 1000000
theorem lkkX (L : LsA) : ExN Tryz.prog 163 L.need argLK (fun b=>.v (vT b)) (lkkQ L) (fun a r=>r = true ↔ likeP L.l a.2):=by
 rintro ⟨s,ks⟩ ⟨h1,h2⟩
 simp only at h1
 subst h1
 exact likX L.l L.q L.c ks h2
def unLK : List CV → Option (SlA × List UInt8)
 | [x,.one (.str ks)]=>match slOf x with
  | some s=>some (s,ks)
  | none=>none
 | _=>none
theorem unLK_den (xs : List CV) (a : SlA × List UInt8) (h : unLK xs = some a) (ρ : Nat → Nat) : xs.map (CV.den ρ) = (argLK a).map (CV.den ρ):=by
 unfold unLK at h
 split at h
 case h_2=>cases h
 split at h
 case h_2=>cases h
 rename_i h1
 cases h
 simp only [argLK,List.map_cons,List.map_nil,slOf_den h1 ρ]
noncomputable def cLkk (L : LsA) : Con Tryz.prog:=Con.exN (lkkX L) unLK unLK_den
noncomputable def entR (L : LsA) (k : Nat) (fn : Func) (ys : List CV) : Cfg :=
 ⟨[.code (bodyOf fn)],{ stO fn.ntmps ys (stP L.need) false with slots:=upd (enum ys 0) k (.v (.one (.row 0 L.q L.l.length L.c))),rows:=[(0,L.row)],nr:=1 }⟩
theorem CallsF.ofR {f : FuncId} {fn : Func} {ys : List CV} {G : Out → Prop} (L : LsA) (k : Nat) (hf : Tryz.prog.funcs[f]? = some fn) (hb : (fn.body.isSome && (Nat.ble ys.length fn.ntmps && (stP L.need).rows.isEmpty)) = true) (hw : fixA (stP L.need) ys = some ys)
  (hl : SX.look (enum ys 0) k = some (.v (.one (.val (.slice L.q L.l.length L.c))))) (h : ∃ o,G o ∧ ∀ ρ base w,V (ctxO Tryz.prog f ρ o w base) (entR L k fn ys)) : ∃ o,G o ∧ CallsF Tryz.prog f ys (stP L.need) o:=by
 obtain ⟨o,h1,h2⟩:=h
 refine ⟨o,h1,CallsF.mk false hf hb hw (fun ρ w=>?_)⟩
 exact V.asRow k 0 L.row hl rfl rfl rfl (h2 ρ ρ w)
set_option maxHeartbeats 4000000
open Classical in
noncomputable def stS (op : Int) (l : List Ty) : Option Ty :=
 if op = 14 ∧ likeP l [99,99] then some ⟨3,min 255 ((l.getD 0 Ty0).p + (l.getD 1 Ty0).p),0,true,[]⟩ else
 if op = 14 ∧ likeP l [98,98] then some ⟨4,min 64 ((l.getD 0 Ty0).p + (l.getD 1 Ty0).p),0,false,[]⟩ else
 if (op = 15 ∨ op = 16) ∧ likeP l [98,98] then some ⟨4,max (l.getD 0 Ty0).p (l.getD 1 Ty0).p,0,false,[]⟩ else
 if op = 17 ∧ likeP l [98] then some (l.getD 0 Ty0) else
 if op = 19 ∧ likeP l [99,105,105] then some ⟨3,(l.getD 0 Ty0).p,0,true,[]⟩ else
 if op = 19 ∧ likeP l [98,105,105] then some (l.getD 0 Ty0) else
 if (op = 20 ∨ op = 22) ∧ (likeP l [99,99] ∨ likeP l [98,98]) then some ⟨2,15,0,false,[]⟩ else
 if op = 21 ∧ (likeP l [99] ∨ likeP l [98]) then some ⟨2,15,0,false,[]⟩ else
 if op = 23 ∧ likeP l [99,99,99] then some (l.getD 0 Ty0) else
 if op = 24 ∧ likeP l [99,105] then some ⟨3,255,0,true,[]⟩ else
 if op = 24 ∧ likeP l [98,105] then some ⟨4,64,0,false,[]⟩ else
 none
theorem st_q {o : Option Ty} {r : Ty × Int} (h1 : ∀ t,o = some t → r.1 = t ∧ r.2 = 0) (h2 : o = none → r.1 = Ty0 ∧ r.2 ≠ 0) : tyQ o r:=by
 cases o with
 | none=>exact h2 rfl
 | some t=>obtain ⟨a,b⟩:=h1 t rfl; exact Prod.ext a b
theorem like_cc {l : List Ty} (h : likeP l [99,99]) : l.length = 2 ∧ ChOK (l.getD 0 Ty0) ∧ ChOK (l.getD 1 Ty0):=⟨h.1,(h.2 0 (by rw [h.1]; decide)).1 rfl,(h.2 1 (by rw [h.1]; decide)).1 rfl⟩
theorem like_bb {l : List Ty} (h : likeP l [98,98]) : l.length = 2 ∧ BtOK (l.getD 0 Ty0) ∧ BtOK (l.getD 1 Ty0):=⟨h.1,(h.2 0 (by rw [h.1]; decide)).2.1 rfl,(h.2 1 (by rw [h.1]; decide)).2.1 rfl⟩
noncomputable def TS (L : LsA) : List (Ent Tryz.prog):=[⟨cLkk L,[0]⟩]
def argOL (L : LsA) (a : Int) : List CV:=[vI a,L.sl.v]
def strQ (L : LsA) (a : Int) : Prop:=L.l.length ≤ 1000000
inductive strI where
 | e (a : Int)
noncomputable def strC (L : LsA) : strI → Cfg
 | .e a=>entR L 1 Tryz.f91 (argOL L a)
noncomputable def strS (L : LsA) : strI → Sh
 | .e a=>(.ob [(a == 14) = true → lkkQ L ({ s:=L.q,n:=L.l.length,c:=L.c },([99,99] : List UInt8))] (.cond (a == 14 && vN (lkkX L) ({ s:=L.q,n:=L.l.length,c:=L.c },([99,99] : List UInt8))) (.ob [(0 : Int) ≤ 0 ∧ 0 < (↑L.l.length : Int),(0 : Int) ≤ 1 ∧ 1 < (↑L.l.length : Int),inK IntKind.i64 ((L.l.getD (Int.toNat 0) Ty0).p + (L.l.getD (Int.toNat 1) Ty0).p)] (.ret (RV.tup [CV.agg [SV.int IntKind.i64 3,SV.int IntKind.i64 (if (L.l.getD (Int.toNat 0) Ty0).p + (L.l.getD (Int.toNat 1) Ty0).p < 255 then (L.l.getD (Int.toNat 0) Ty0).p + (L.l.getD (Int.toNat 1) Ty0).p else 255),SV.int IntKind.i64 0,SV.sb true,SV.str []],CV.one (SV.int IntKind.i64 0)]))) (.ob [(a == 14) = true → lkkQ L ({ s:=L.q,n:=L.l.length,c:=L.c },([98,98] : List UInt8))] (.cond (a == 14 && vN (lkkX L) ({ s:=L.q,n:=L.l.length,c:=L.c },([98,98] : List UInt8))) (.ob [(0 : Int) ≤ 0 ∧ 0 < (↑L.l.length : Int),(0 : Int) ≤ 1 ∧ 1 < (↑L.l.length : Int),inK IntKind.i64 ((L.l.getD (Int.toNat 0) Ty0).p + (L.l.getD (Int.toNat 1) Ty0).p)] (.ret (RV.tup [CV.agg [SV.int IntKind.i64 4,SV.int IntKind.i64 (if (L.l.getD (Int.toNat 0) Ty0).p + (L.l.getD (Int.toNat 1) Ty0).p < 64 then (L.l.getD (Int.toNat 0) Ty0).p + (L.l.getD (Int.toNat 1) Ty0).p else 64),SV.int IntKind.i64 0,SV.sb false,SV.str []],CV.one (SV.int IntKind.i64 0)]))) (.ob [(a == 15 || a == 16) = true → lkkQ L ({ s:=L.q,n:=L.l.length,c:=L.c },([98,98] : List UInt8))] (.cond ((a == 15 || a == 16) && vN (lkkX L) ({ s:=L.q,n:=L.l.length,c:=L.c },([98,98] : List UInt8))) (.ob [(0 : Int) ≤ 0 ∧ 0 < (↑L.l.length : Int),(0 : Int) ≤ 1 ∧ 1 < (↑L.l.length : Int)] (.ret (RV.tup [CV.agg [SV.int IntKind.i64 4,SV.int IntKind.i64 (if (L.l.getD (Int.toNat 1) Ty0).p > (L.l.getD (Int.toNat 0) Ty0).p then (L.l.getD (Int.toNat 1) Ty0).p else (L.l.getD (Int.toNat 0) Ty0).p),SV.int IntKind.i64 0,SV.sb false,SV.str []],CV.one (SV.int IntKind.i64 0)]))) (.ob [(a == 17) = true → lkkQ L ({ s:=L.q,n:=L.l.length,c:=L.c },([98] : List UInt8))] (.cond (a == 17 && vN (lkkX L) ({ s:=L.q,n:=L.l.length,c:=L.c },([98] : List UInt8))) (.ob [(0 : Int) ≤ 0 ∧ 0 < (↑L.l.length : Int)] (.ret (RV.tup [CV.agg (tyC (L.l.getD (Int.toNat 0) Ty0)),CV.one (SV.int IntKind.i64 0)]))) (.ob [(a == 19) = true → lkkQ L ({ s:=L.q,n:=L.l.length,c:=L.c },([99,105,105] : List UInt8))] (.cond (a == 19 && vN (lkkX L) ({ s:=L.q,n:=L.l.length,c:=L.c },([99,105,105] : List UInt8))) (.ob [(0 : Int) ≤ 0 ∧ 0 < (↑L.l.length : Int)] (.ret (RV.tup [CV.agg [SV.int IntKind.i64 3,SV.int IntKind.i64 (L.l.getD (Int.toNat 0) Ty0).p,SV.int IntKind.i64 0,SV.sb true,SV.str []],CV.one (SV.int IntKind.i64 0)]))) (.ob [(a == 19) = true → lkkQ L ({ s:=L.q,n:=L.l.length,c:=L.c },([98,105,105] : List UInt8))] (.cond (a == 19 && vN (lkkX L) ({ s:=L.q,n:=L.l.length,c:=L.c },([98,105,105] : List UInt8))) (.ob [(0 : Int) ≤ 0 ∧ 0 < (↑L.l.length : Int)] (.ret (RV.tup [CV.agg (tyC (L.l.getD (Int.toNat 0) Ty0)),CV.one (SV.int IntKind.i64 0)]))) (.ob [(a == 20 || a == 22) = true → lkkQ L ({ s:=L.q,n:=L.l.length,c:=L.c },([99,99] : List UInt8)),(bif (a == 20 || a == 22) == true then vN (lkkX L) ({ s:=L.q,n:=L.l.length,c:=L.c },([99,99] : List UInt8)) else !false) = false → lkkQ L ({ s:=L.q,n:=L.l.length,c:=L.c },([98,98] : List UInt8))] (.cond ((a == 20 || a == 22) && (vN (lkkX L) ({ s:=L.q,n:=L.l.length,c:=L.c },([99,99] : List UInt8)) || vN (lkkX L) ({ s:=L.q,n:=L.l.length,c:=L.c },([98,98] : List UInt8)))) (.ret (RV.tup [CV.agg [SV.int IntKind.i64 2,SV.int IntKind.i64 15,SV.int IntKind.i64 0,SV.sb false,SV.str []],CV.one (SV.int IntKind.i64 0)])) (.ob [(a == 21) = true → lkkQ L ({ s:=L.q,n:=L.l.length,c:=L.c },([99] : List UInt8)),(bif (a == 21) == true then vN (lkkX L) ({ s:=L.q,n:=L.l.length,c:=L.c },([99] : List UInt8)) else !false) = false → lkkQ L ({ s:=L.q,n:=L.l.length,c:=L.c },([98] : List UInt8))] (.cond (a == 21 && (vN (lkkX L) ({ s:=L.q,n:=L.l.length,c:=L.c },([99] : List UInt8)) || vN (lkkX L) ({ s:=L.q,n:=L.l.length,c:=L.c },([98] : List UInt8)))) (.ret (RV.tup [CV.agg [SV.int IntKind.i64 2,SV.int IntKind.i64 15,SV.int IntKind.i64 0,SV.sb false,SV.str []],CV.one (SV.int IntKind.i64 0)])) (.ob [(a == 23) = true → lkkQ L ({ s:=L.q,n:=L.l.length,c:=L.c },([99,99,99] : List UInt8))] (.cond (a == 23 && vN (lkkX L) ({ s:=L.q,n:=L.l.length,c:=L.c },([99,99,99] : List UInt8))) (.ob [(0 : Int) ≤ 0 ∧ 0 < (↑L.l.length : Int)] (.ret (RV.tup [CV.agg (tyC (L.l.getD (Int.toNat 0) Ty0)),CV.one (SV.int IntKind.i64 0)]))) (.ob [(a == 24) = true → lkkQ L ({ s:=L.q,n:=L.l.length,c:=L.c },([99,105] : List UInt8))] (.cond (a == 24 && vN (lkkX L) ({ s:=L.q,n:=L.l.length,c:=L.c },([99,105] : List UInt8))) (.ret (RV.tup [CV.agg [SV.int IntKind.i64 3,SV.int IntKind.i64 255,SV.int IntKind.i64 0,SV.sb true,SV.str []],CV.one (SV.int IntKind.i64 0)])) (.ob [(a == 24) = true → lkkQ L ({ s:=L.q,n:=L.l.length,c:=L.c },([98,105] : List UInt8))] (.cond (a == 24 && vN (lkkX L) ({ s:=L.q,n:=L.l.length,c:=L.c },([98,105] : List UInt8))) (.ret (RV.tup [CV.agg [SV.int IntKind.i64 4,SV.int IntKind.i64 64,SV.int IntKind.i64 0,SV.sb false,SV.str []],CV.one (SV.int IntKind.i64 0)])) (.ret (RV.tup [CV.agg (tyC Ty0),CV.one (SV.int IntKind.i64 5)]))))))))))))))))))))))))
noncomputable def strN (L : LsA) : strI → Nat → strI
 | .e a,_=>.e a
def strK : strI → List Nat
 | .e _=>[]
def strM (L : LsA) : strI → Nat
 | .e a=>1
def strP (L : LsA) (a0 : Int) : strI → Prop
 | .e a=>a = a0 ∧ L.l.length ≤ 1000000
theorem strX (L : LsA) : ExN Tryz.prog 91 L.need (argOL L) (rsT) (strQ L) (fun a r=>tyQ (stS a L.l) r):=by
 intro a0 ha
 refine CallsF.ofR L 1 Tryz.func91 kq kq kq (cuts hMu kq (T:=(TS L)) 40 (strC L) (strS L) (strN L) strK (fun _=>[]) (strM L) (strP L a0) _ (fun i=>by cases i <;> kernel_rfl) (fun i=>by cases i <;> kernel_rfl) ?_ (fun i j hj=>?_) _ (.e a0) (Nat.lt_succ_self _) ⟨rfl,ha⟩)
 ·intro i hi
  cases i with
  | e a =>
   simp only [strP] at hi
   obtain ⟨rfl,hi⟩:=hi
   have hL : L.l.length ≤ 1000000:=hi
   have k_cc : (vN (lkkX L) ({ s:=L.q,n:=L.l.length,c:=L.c },[99,99])) = true ↔ likeP L.l [99,99]:=(vN_ok (lkkX L) ({ s:=L.q,n:=L.l.length,c:=L.c },[99,99]) ⟨rfl,hL⟩).2
   have l_cc : (vN (lkkX L) ({ s:=L.q,n:=L.l.length,c:=L.c },[99,99])) = true → L.l.length = 2:=fun h=>(k_cc.1 h).1
   have k_bb : (vN (lkkX L) ({ s:=L.q,n:=L.l.length,c:=L.c },[98,98])) = true ↔ likeP L.l [98,98]:=(vN_ok (lkkX L) ({ s:=L.q,n:=L.l.length,c:=L.c },[98,98]) ⟨rfl,hL⟩).2
   have l_bb : (vN (lkkX L) ({ s:=L.q,n:=L.l.length,c:=L.c },[98,98])) = true → L.l.length = 2:=fun h=>(k_bb.1 h).1
   have k_b : (vN (lkkX L) ({ s:=L.q,n:=L.l.length,c:=L.c },[98])) = true ↔ likeP L.l [98]:=(vN_ok (lkkX L) ({ s:=L.q,n:=L.l.length,c:=L.c },[98]) ⟨rfl,hL⟩).2
   have l_b : (vN (lkkX L) ({ s:=L.q,n:=L.l.length,c:=L.c },[98])) = true → L.l.length = 1:=fun h=>(k_b.1 h).1
   have k_c : (vN (lkkX L) ({ s:=L.q,n:=L.l.length,c:=L.c },[99])) = true ↔ likeP L.l [99]:=(vN_ok (lkkX L) ({ s:=L.q,n:=L.l.length,c:=L.c },[99]) ⟨rfl,hL⟩).2
   have l_c : (vN (lkkX L) ({ s:=L.q,n:=L.l.length,c:=L.c },[99])) = true → L.l.length = 1:=fun h=>(k_c.1 h).1
   have k_cii : (vN (lkkX L) ({ s:=L.q,n:=L.l.length,c:=L.c },[99,105,105])) = true ↔ likeP L.l [99,105,105]:=(vN_ok (lkkX L) ({ s:=L.q,n:=L.l.length,c:=L.c },[99,105,105]) ⟨rfl,hL⟩).2
   have l_cii : (vN (lkkX L) ({ s:=L.q,n:=L.l.length,c:=L.c },[99,105,105])) = true → L.l.length = 3:=fun h=>(k_cii.1 h).1
   have k_bii : (vN (lkkX L) ({ s:=L.q,n:=L.l.length,c:=L.c },[98,105,105])) = true ↔ likeP L.l [98,105,105]:=(vN_ok (lkkX L) ({ s:=L.q,n:=L.l.length,c:=L.c },[98,105,105]) ⟨rfl,hL⟩).2
   have l_bii : (vN (lkkX L) ({ s:=L.q,n:=L.l.length,c:=L.c },[98,105,105])) = true → L.l.length = 3:=fun h=>(k_bii.1 h).1
   have k_ccc : (vN (lkkX L) ({ s:=L.q,n:=L.l.length,c:=L.c },[99,99,99])) = true ↔ likeP L.l [99,99,99]:=(vN_ok (lkkX L) ({ s:=L.q,n:=L.l.length,c:=L.c },[99,99,99]) ⟨rfl,hL⟩).2
   have l_ccc : (vN (lkkX L) ({ s:=L.q,n:=L.l.length,c:=L.c },[99,99,99])) = true → L.l.length = 3:=fun h=>(k_ccc.1 h).1
   have k_ci : (vN (lkkX L) ({ s:=L.q,n:=L.l.length,c:=L.c },[99,105])) = true ↔ likeP L.l [99,105]:=(vN_ok (lkkX L) ({ s:=L.q,n:=L.l.length,c:=L.c },[99,105]) ⟨rfl,hL⟩).2
   have l_ci : (vN (lkkX L) ({ s:=L.q,n:=L.l.length,c:=L.c },[99,105])) = true → L.l.length = 2:=fun h=>(k_ci.1 h).1
   have k_bi : (vN (lkkX L) ({ s:=L.q,n:=L.l.length,c:=L.c },[98,105])) = true ↔ likeP L.l [98,105]:=(vN_ok (lkkX L) ({ s:=L.q,n:=L.l.length,c:=L.c },[98,105]) ⟨rfl,hL⟩).2
   have l_bi : (vN (lkkX L) ({ s:=L.q,n:=L.l.length,c:=L.c },[98,105])) = true → L.l.length = 2:=fun h=>(k_bi.1 h).1
   have b_cc : (vN (lkkX L) ({ s:=L.q,n:=L.l.length,c:=L.c },[99,99])) = true → 0 ≤ (L.l.getD 0 Ty0).p ∧ (L.l.getD 0 Ty0).p ≤ 255 ∧ 0 ≤ (L.l.getD 1 Ty0).p ∧ (L.l.getD 1 Ty0).p ≤ 255:=fun h=>by
    obtain ⟨_,h1,h2⟩:=like_cc (k_cc.1 h)
    exact ⟨h1.2.1,h1.2.2.1,h2.2.1,h2.2.2.1⟩
   have b_bb : (vN (lkkX L) ({ s:=L.q,n:=L.l.length,c:=L.c },[98,98])) = true → 0 ≤ (L.l.getD 0 Ty0).p ∧ (L.l.getD 0 Ty0).p ≤ 64 ∧ 0 ≤ (L.l.getD 1 Ty0).p ∧ (L.l.getD 1 Ty0).p ≤ 64:=fun h=>by
    obtain ⟨_,h1,h2⟩:=like_bb (k_bb.1 h)
    exact ⟨h1.2.1,h1.2.2.1,h2.2.1,h2.2.2.1⟩
   have o1 : (a == 14) = true → lkkQ L ({ s:=L.q,n:=L.l.length,c:=L.c },([99,99] : List UInt8)):=by first | exact ⟨rfl,hL⟩ | exact fun _=>⟨rfl,hL⟩
   refine ⟨o1,?_⟩
   refine ⟨fun h0=>?_,fun h0=>?_⟩
   ·(try simp only [Bool.or_eq_true,Bool.and_eq_true,Bool.or_eq_false_iff,Bool.and_eq_false_iff,beq_iff_eq,beq_eq_false_iff_ne,bne_iff_ne,decide_eq_true_eq,decide_eq_false_iff_not,ne_eq] at h0)
    have o2 : (0 : Int) ≤ 0 ∧ 0 < (↑L.l.length : Int):=by grind
    have o3 : (0 : Int) ≤ 1 ∧ 1 < (↑L.l.length : Int):=by grind
    have o4 : inK IntKind.i64 ((L.l.getD (Int.toNat 0) Ty0).p + (L.l.getD (Int.toNat 1) Ty0).p):=by first | (have hb:=b_cc (by grind); exact (⟨by omega,by omega⟩ : inK .i64 ((L.l.getD 0 Ty0).p + (L.l.getD 1 Ty0).p))) | (have hb:=b_bb (by grind); exact (⟨by omega,by omega⟩ : inK .i64 ((L.l.getD 0 Ty0).p + (L.l.getD 1 Ty0).p)))
    refine ⟨⟨o2,o3,o4⟩,?_⟩
    exact ⟨⟨(⟨3,if (L.l.getD (Int.toNat 0) Ty0).p + (L.l.getD (Int.toNat 1) Ty0).p < 255 then (L.l.getD (Int.toNat 0) Ty0).p + (L.l.getD (Int.toNat 1) Ty0).p else 255,0,true,[]⟩,0),rfl,st_q (fun t ht=>by (try simp only [Int.reduceToNat]); simp only [stS,Int.min_def,Int.max_def] at ht; grind (splits:=30)) (fun ht=>by simp only [stS] at ht; grind (splits:=30))⟩,rfl⟩
   ·(try simp only [Bool.or_eq_true,Bool.and_eq_true,Bool.or_eq_false_iff,Bool.and_eq_false_iff,beq_iff_eq,beq_eq_false_iff_ne,bne_iff_ne,decide_eq_true_eq,decide_eq_false_iff_not,ne_eq] at h0)
    have o5 : (a == 14) = true → lkkQ L ({ s:=L.q,n:=L.l.length,c:=L.c },([98,98] : List UInt8)):=by first | exact ⟨rfl,hL⟩ | exact fun _=>⟨rfl,hL⟩
    refine ⟨o5,?_⟩
    refine ⟨fun h1=>?_,fun h1=>?_⟩
    ·(try simp only [Bool.or_eq_true,Bool.and_eq_true,Bool.or_eq_false_iff,Bool.and_eq_false_iff,beq_iff_eq,beq_eq_false_iff_ne,bne_iff_ne,decide_eq_true_eq,decide_eq_false_iff_not,ne_eq] at h1)
     have o6 : (0 : Int) ≤ 0 ∧ 0 < (↑L.l.length : Int):=by grind
     have o7 : (0 : Int) ≤ 1 ∧ 1 < (↑L.l.length : Int):=by grind
     have o8 : inK IntKind.i64 ((L.l.getD (Int.toNat 0) Ty0).p + (L.l.getD (Int.toNat 1) Ty0).p):=by first | (have hb:=b_cc (by grind); exact (⟨by omega,by omega⟩ : inK .i64 ((L.l.getD 0 Ty0).p + (L.l.getD 1 Ty0).p))) | (have hb:=b_bb (by grind); exact (⟨by omega,by omega⟩ : inK .i64 ((L.l.getD 0 Ty0).p + (L.l.getD 1 Ty0).p)))
     refine ⟨⟨o6,o7,o8⟩,?_⟩
     exact ⟨⟨(⟨4,if (L.l.getD (Int.toNat 0) Ty0).p + (L.l.getD (Int.toNat 1) Ty0).p < 64 then (L.l.getD (Int.toNat 0) Ty0).p + (L.l.getD (Int.toNat 1) Ty0).p else 64,0,false,[]⟩,0),rfl,st_q (fun t ht=>by (try simp only [Int.reduceToNat]); simp only [stS,Int.min_def,Int.max_def] at ht; grind (splits:=30)) (fun ht=>by simp only [stS] at ht; grind (splits:=30))⟩,rfl⟩
    ·(try simp only [Bool.or_eq_true,Bool.and_eq_true,Bool.or_eq_false_iff,Bool.and_eq_false_iff,beq_iff_eq,beq_eq_false_iff_ne,bne_iff_ne,decide_eq_true_eq,decide_eq_false_iff_not,ne_eq] at h1)
     have o9 : (a == 15 || a == 16) = true → lkkQ L ({ s:=L.q,n:=L.l.length,c:=L.c },([98,98] : List UInt8)):=by first | exact ⟨rfl,hL⟩ | exact fun _=>⟨rfl,hL⟩
     refine ⟨o9,?_⟩
     refine ⟨fun h2=>?_,fun h2=>?_⟩
     ·(try simp only [Bool.or_eq_true,Bool.and_eq_true,Bool.or_eq_false_iff,Bool.and_eq_false_iff,beq_iff_eq,beq_eq_false_iff_ne,bne_iff_ne,decide_eq_true_eq,decide_eq_false_iff_not,ne_eq] at h2)
      have o10 : (0 : Int) ≤ 0 ∧ 0 < (↑L.l.length : Int):=by grind
      have o11 : (0 : Int) ≤ 1 ∧ 1 < (↑L.l.length : Int):=by grind
      refine ⟨⟨o10,o11⟩,?_⟩
      exact ⟨⟨(⟨4,if (L.l.getD (Int.toNat 1) Ty0).p > (L.l.getD (Int.toNat 0) Ty0).p then (L.l.getD (Int.toNat 1) Ty0).p else (L.l.getD (Int.toNat 0) Ty0).p,0,false,[]⟩,0),rfl,st_q (fun t ht=>by (try simp only [Int.reduceToNat]); simp only [stS,Int.min_def,Int.max_def] at ht; grind (splits:=30)) (fun ht=>by simp only [stS] at ht; grind (splits:=30))⟩,rfl⟩
     ·(try simp only [Bool.or_eq_true,Bool.and_eq_true,Bool.or_eq_false_iff,Bool.and_eq_false_iff,beq_iff_eq,beq_eq_false_iff_ne,bne_iff_ne,decide_eq_true_eq,decide_eq_false_iff_not,ne_eq] at h2)
      have o12 : (a == 17) = true → lkkQ L ({ s:=L.q,n:=L.l.length,c:=L.c },([98] : List UInt8)):=by first | exact ⟨rfl,hL⟩ | exact fun _=>⟨rfl,hL⟩
      refine ⟨o12,?_⟩
      refine ⟨fun h3=>?_,fun h3=>?_⟩
      ·(try simp only [Bool.or_eq_true,Bool.and_eq_true,Bool.or_eq_false_iff,Bool.and_eq_false_iff,beq_iff_eq,beq_eq_false_iff_ne,bne_iff_ne,decide_eq_true_eq,decide_eq_false_iff_not,ne_eq] at h3)
       have o13 : (0 : Int) ≤ 0 ∧ 0 < (↑L.l.length : Int):=by grind
       refine ⟨o13,?_⟩
       exact ⟨⟨((L.l.getD (Int.toNat 0) Ty0),0),rfl,st_q (fun t ht=>by (try simp only [Int.reduceToNat]); simp only [stS,Int.min_def,Int.max_def] at ht; grind (splits:=30)) (fun ht=>by simp only [stS] at ht; grind (splits:=30))⟩,rfl⟩
      ·(try simp only [Bool.or_eq_true,Bool.and_eq_true,Bool.or_eq_false_iff,Bool.and_eq_false_iff,beq_iff_eq,beq_eq_false_iff_ne,bne_iff_ne,decide_eq_true_eq,decide_eq_false_iff_not,ne_eq] at h3)
       have o14 : (a == 19) = true → lkkQ L ({ s:=L.q,n:=L.l.length,c:=L.c },([99,105,105] : List UInt8)):=by first | exact ⟨rfl,hL⟩ | exact fun _=>⟨rfl,hL⟩
       refine ⟨o14,?_⟩
       refine ⟨fun h4=>?_,fun h4=>?_⟩
       ·(try simp only [Bool.or_eq_true,Bool.and_eq_true,Bool.or_eq_false_iff,Bool.and_eq_false_iff,beq_iff_eq,beq_eq_false_iff_ne,bne_iff_ne,decide_eq_true_eq,decide_eq_false_iff_not,ne_eq] at h4)
        have o15 : (0 : Int) ≤ 0 ∧ 0 < (↑L.l.length : Int):=by grind
        refine ⟨o15,?_⟩
        exact ⟨⟨(⟨3,(L.l.getD (Int.toNat 0) Ty0).p,0,true,[]⟩,0),rfl,st_q (fun t ht=>by (try simp only [Int.reduceToNat]); simp only [stS,Int.min_def,Int.max_def] at ht; grind (splits:=30)) (fun ht=>by simp only [stS] at ht; grind (splits:=30))⟩,rfl⟩
       ·(try simp only [Bool.or_eq_true,Bool.and_eq_true,Bool.or_eq_false_iff,Bool.and_eq_false_iff,beq_iff_eq,beq_eq_false_iff_ne,bne_iff_ne,decide_eq_true_eq,decide_eq_false_iff_not,ne_eq] at h4)
        have o16 : (a == 19) = true → lkkQ L ({ s:=L.q,n:=L.l.length,c:=L.c },([98,105,105] : List UInt8)):=by first | exact ⟨rfl,hL⟩ | exact fun _=>⟨rfl,hL⟩
        refine ⟨o16,?_⟩
        refine ⟨fun h5=>?_,fun h5=>?_⟩
        ·(try simp only [Bool.or_eq_true,Bool.and_eq_true,Bool.or_eq_false_iff,Bool.and_eq_false_iff,beq_iff_eq,beq_eq_false_iff_ne,bne_iff_ne,decide_eq_true_eq,decide_eq_false_iff_not,ne_eq] at h5)
         have o17 : (0 : Int) ≤ 0 ∧ 0 < (↑L.l.length : Int):=by grind
         refine ⟨o17,?_⟩
         exact ⟨⟨((L.l.getD (Int.toNat 0) Ty0),0),rfl,st_q (fun t ht=>by (try simp only [Int.reduceToNat]); simp only [stS,Int.min_def,Int.max_def] at ht; grind (splits:=30)) (fun ht=>by simp only [stS] at ht; grind (splits:=30))⟩,rfl⟩
        ·(try simp only [Bool.or_eq_true,Bool.and_eq_true,Bool.or_eq_false_iff,Bool.and_eq_false_iff,beq_iff_eq,beq_eq_false_iff_ne,bne_iff_ne,decide_eq_true_eq,decide_eq_false_iff_not,ne_eq] at h5)
         have o18 : (a == 20 || a == 22) = true → lkkQ L ({ s:=L.q,n:=L.l.length,c:=L.c },([99,99] : List UInt8)):=by first | exact ⟨rfl,hL⟩ | exact fun _=>⟨rfl,hL⟩
         have o19 : (bif (a == 20 || a == 22) == true then vN (lkkX L) ({ s:=L.q,n:=L.l.length,c:=L.c },([99,99] : List UInt8)) else !false) = false → lkkQ L ({ s:=L.q,n:=L.l.length,c:=L.c },([98,98] : List UInt8)):=by first | exact ⟨rfl,hL⟩ | exact fun _=>⟨rfl,hL⟩
         refine ⟨⟨o18,o19⟩,?_⟩
         refine ⟨fun h6=>?_,fun h6=>?_⟩
         ·(try simp only [Bool.or_eq_true,Bool.and_eq_true,Bool.or_eq_false_iff,Bool.and_eq_false_iff,beq_iff_eq,beq_eq_false_iff_ne,bne_iff_ne,decide_eq_true_eq,decide_eq_false_iff_not,ne_eq] at h6)
          exact ⟨⟨(⟨2,15,0,false,[]⟩,0),rfl,st_q (fun t ht=>by (try simp only [Int.reduceToNat]); simp only [stS,Int.min_def,Int.max_def] at ht; grind (splits:=30)) (fun ht=>by simp only [stS] at ht; grind (splits:=30))⟩,rfl⟩
         ·(try simp only [Bool.or_eq_true,Bool.and_eq_true,Bool.or_eq_false_iff,Bool.and_eq_false_iff,beq_iff_eq,beq_eq_false_iff_ne,bne_iff_ne,decide_eq_true_eq,decide_eq_false_iff_not,ne_eq] at h6)
          have o20 : (a == 21) = true → lkkQ L ({ s:=L.q,n:=L.l.length,c:=L.c },([99] : List UInt8)):=by first | exact ⟨rfl,hL⟩ | exact fun _=>⟨rfl,hL⟩
          have o21 : (bif (a == 21) == true then vN (lkkX L) ({ s:=L.q,n:=L.l.length,c:=L.c },([99] : List UInt8)) else !false) = false → lkkQ L ({ s:=L.q,n:=L.l.length,c:=L.c },([98] : List UInt8)):=by first | exact ⟨rfl,hL⟩ | exact fun _=>⟨rfl,hL⟩
          refine ⟨⟨o20,o21⟩,?_⟩
          refine ⟨fun h7=>?_,fun h7=>?_⟩
          ·(try simp only [Bool.or_eq_true,Bool.and_eq_true,Bool.or_eq_false_iff,Bool.and_eq_false_iff,beq_iff_eq,beq_eq_false_iff_ne,bne_iff_ne,decide_eq_true_eq,decide_eq_false_iff_not,ne_eq] at h7)
           exact ⟨⟨(⟨2,15,0,false,[]⟩,0),rfl,st_q (fun t ht=>by (try simp only [Int.reduceToNat]); simp only [stS,Int.min_def,Int.max_def] at ht; grind (splits:=30)) (fun ht=>by simp only [stS] at ht; grind (splits:=30))⟩,rfl⟩
          ·(try simp only [Bool.or_eq_true,Bool.and_eq_true,Bool.or_eq_false_iff,Bool.and_eq_false_iff,beq_iff_eq,beq_eq_false_iff_ne,bne_iff_ne,decide_eq_true_eq,decide_eq_false_iff_not,ne_eq] at h7)
           have o22 : (a == 23) = true → lkkQ L ({ s:=L.q,n:=L.l.length,c:=L.c },([99,99,99] : List UInt8)):=by first | exact ⟨rfl,hL⟩ | exact fun _=>⟨rfl,hL⟩
           refine ⟨o22,?_⟩
           refine ⟨fun h8=>?_,fun h8=>?_⟩
           ·(try simp only [Bool.or_eq_true,Bool.and_eq_true,Bool.or_eq_false_iff,Bool.and_eq_false_iff,beq_iff_eq,beq_eq_false_iff_ne,bne_iff_ne,decide_eq_true_eq,decide_eq_false_iff_not,ne_eq] at h8)
            have o23 : (0 : Int) ≤ 0 ∧ 0 < (↑L.l.length : Int):=by grind
            refine ⟨o23,?_⟩
            exact ⟨⟨((L.l.getD (Int.toNat 0) Ty0),0),rfl,st_q (fun t ht=>by (try simp only [Int.reduceToNat]); simp only [stS,Int.min_def,Int.max_def] at ht; grind (splits:=30)) (fun ht=>by simp only [stS] at ht; grind (splits:=30))⟩,rfl⟩
           ·(try simp only [Bool.or_eq_true,Bool.and_eq_true,Bool.or_eq_false_iff,Bool.and_eq_false_iff,beq_iff_eq,beq_eq_false_iff_ne,bne_iff_ne,decide_eq_true_eq,decide_eq_false_iff_not,ne_eq] at h8)
            have o24 : (a == 24) = true → lkkQ L ({ s:=L.q,n:=L.l.length,c:=L.c },([99,105] : List UInt8)):=by first | exact ⟨rfl,hL⟩ | exact fun _=>⟨rfl,hL⟩
            refine ⟨o24,?_⟩
            refine ⟨fun h9=>?_,fun h9=>?_⟩
            ·(try simp only [Bool.or_eq_true,Bool.and_eq_true,Bool.or_eq_false_iff,Bool.and_eq_false_iff,beq_iff_eq,beq_eq_false_iff_ne,bne_iff_ne,decide_eq_true_eq,decide_eq_false_iff_not,ne_eq] at h9)
             exact ⟨⟨(⟨3,255,0,true,[]⟩,0),rfl,st_q (fun t ht=>by (try simp only [Int.reduceToNat]); simp only [stS,Int.min_def,Int.max_def] at ht; grind (splits:=30)) (fun ht=>by simp only [stS] at ht; grind (splits:=30))⟩,rfl⟩
            ·(try simp only [Bool.or_eq_true,Bool.and_eq_true,Bool.or_eq_false_iff,Bool.and_eq_false_iff,beq_iff_eq,beq_eq_false_iff_ne,bne_iff_ne,decide_eq_true_eq,decide_eq_false_iff_not,ne_eq] at h9)
             have o25 : (a == 24) = true → lkkQ L ({ s:=L.q,n:=L.l.length,c:=L.c },([98,105] : List UInt8)):=by first | exact ⟨rfl,hL⟩ | exact fun _=>⟨rfl,hL⟩
             refine ⟨o25,?_⟩
             refine ⟨fun h10=>?_,fun h10=>?_⟩
             ·(try simp only [Bool.or_eq_true,Bool.and_eq_true,Bool.or_eq_false_iff,Bool.and_eq_false_iff,beq_iff_eq,beq_eq_false_iff_ne,bne_iff_ne,decide_eq_true_eq,decide_eq_false_iff_not,ne_eq] at h10)
              exact ⟨⟨(⟨4,64,0,false,[]⟩,0),rfl,st_q (fun t ht=>by (try simp only [Int.reduceToNat]); simp only [stS,Int.min_def,Int.max_def] at ht; grind (splits:=30)) (fun ht=>by simp only [stS] at ht; grind (splits:=30))⟩,rfl⟩
             ·(try simp only [Bool.or_eq_true,Bool.and_eq_true,Bool.or_eq_false_iff,Bool.and_eq_false_iff,beq_iff_eq,beq_eq_false_iff_ne,bne_iff_ne,decide_eq_true_eq,decide_eq_false_iff_not,ne_eq] at h10)
              exact ⟨⟨(Ty0,5),rfl,st_q (fun t ht=>by (try simp only [Int.reduceToNat]); simp only [stS,Int.min_def,Int.max_def] at ht; grind (splits:=30)) (fun ht=>by simp only [stS] at ht; grind (splits:=30))⟩,rfl⟩
 ·cases i with
  | e a=>exact absurd hj (Nat.not_lt_zero _)
def argOS (a : Int × SlA) : List CV:=[vI a.1,a.2.v]
end Go.Proofs
end
section
namespace Go.SX
open Go
theorem CallsF.ofBlk {α : Type} {P : Program} {f : FuncId} {o : Out} {ys : List CV} {zs : Nat → List CV} (fe : α → List SV) (d : α) (l : List α) (e : TypeId) (sz : Nat) (F : St) (rw : Bool)
  (hF : look F.heap 0 = some ⟨l.flatMap fe,e,rw⟩) (hf : ∀ x,(fe x).length = sz) (hpl : ∀ x,∀ y ∈ fe x,y.plain) (hm : l.length ≤ maxLen)
  (hys : ∀ ρ : Nat → Nat,ys.map (CV.den ρ) = (zs (ρ 0)).map (CV.den ρ)) (h : ∀ g,CallsF P f (zs g) (stP (rowP (rowL fe d l (some ⟨g,0,none⟩) l.length e sz false) :: F.pers)) o) : CallsF P f ys F o:=by
 intro ρ w hS
 rw [hys ρ]
 refine h (ρ 0) ρ w (FSat_stP fun p hp=>?_)
 rcases List.mem_cons.1 hp with rfl | hp
 ·obtain ⟨h1,h2,h3⟩:=hS.heap 0 _ hF
  have hφ : w.heap[ρ 0]? = some (.cells ((l.flatMap fe).map SV.den0).toArray e (0,0)):=by
   rw [h2]
   have : (l.flatMap fe).map (SV.den ρ) = (l.flatMap fe).map SV.den0:=List.map_congr_left fun y hy=>by
    obtain ⟨x,_,hx⟩:=List.mem_flatMap.1 hy
    exact SV.plain_den (hpl x y hx) _
   rw [this]
  have hok:=rowL_ok (own:=false) (d:=d) hφ hf hpl hm
  refine ⟨hok,fun w' hw=>hok.congr hw,fun k hk=>?_⟩
  obtain ⟨ad,e1,e2,_⟩:=hk
  cases e1
  rw [← e2]
  exact hS.lt 0 h1
 ·obtain ⟨h1,h2,h3⟩:=hS.pers p hp
  exact ⟨h1,h2,fun k hk=>(h3 k hk).1⟩
end Go.SX
namespace Go.Proofs
open Go Go.SX
set_option maxRecDepth 10000
set_option maxHeartbeats 4000000
def iv (n : Int) : List SV:=[.int .i64 n]
def irow (ks : List Int) (g : Nat) : Row:=rowL iv 0 ks (some ⟨g,0,none⟩) ks.length 3 1 false
inductive arI where
 | e (ks : List Int) (g : Nat)
 | l (ks : List Int) (g : Nat) (i : Int)
section
variable (L : LsA)
noncomputable def TAr : List (Ent Tryz.prog):=[cKnd.e]
def arNeed (ks : List Int) (g : Nat) : List Pers:=rowP (irow ks g) :: L.need
def argAr (ks : List Int) (g : Nat) : List CV:=[L.sl.v,.one (.val (.slice (some ⟨g,0,none⟩) ks.length ks.length))]
noncomputable def arE (ks : List Int) (g : Nat) : Cfg :=
 ⟨[.code (bodyOf Tryz.f97)],{ stO Tryz.f97.ntmps (argAr L ks g) (stP (arNeed L ks g)) false with
  slots:=[(0,.v (.one (.row 0 L.q L.l.length L.c))),(1,.v (.one (.row 1 (some ⟨g,0,none⟩) ks.length ks.length)))],rows:=[(1,irow ks g),(0,L.row)],nr:=2 }⟩
noncomputable def arT0 : List Item:=(SX.iter (leafN (treeX Tryz.prog 97 TAr 69 40 (arE ⟨[],none,0⟩ [] 0)) 0 (arE ⟨[],none,0⟩ [] 0))).todo
def arSt (ks : List Int) (g : Nat) (i : Int) : St :=
 { n:=27,slots:=[(0,.v (.one (.row 0 L.q L.l.length L.c))),(1,.v (.one (.row 1 (some ⟨g,0,none⟩) ks.length ks.length))),(5,.v (vI i))],gs:=[],heap:=[],next:=0,
    rows:=[(0,L.row),(1,irow ks g)],nr:=2,pers:=arNeed L ks g,wr:=false,fx:=0 }
noncomputable def arC : arI → Unit → Cfg
 | .e ks g,_=>arE L ks g
 | .l ks g i,_=>⟨arT0,arSt L ks g i⟩
noncomputable def arS : arI → Sh
 | .e ks g=>.cond ((L.l.length : Int) != (ks.length : Int)) (.ret (.v (vT false))) .leaf
 | .l ks g i=>.cond (decide (i < (L.l.length : Int))) (.ob [0 ≤ i ∧ i < (L.l.length : Int),0 ≤ i ∧ i < (ks.length : Int),kndQ (L.l.getD i.toNat Ty0)]
   (.cond (vN kndX (L.l.getD i.toNat Ty0) != ks.getD i.toNat 0) (.ret (.v (vT false))) (.ob [inK .i64 (i + 1)] .leaf))) (.ret (.v (vT true)))
def arN : arI → Nat → arI ⊕ Out
 | .e ks g,_=>.inl (.l ks g 0)
 | .l ks g i,_=>.inl (.l ks g (i + 1))
def arM : arI → Nat
 | .e ks g=>L.l.length + 2
 | .l ks g i=>((L.l.length : Int) - i).toNat + 1
def kdI (k : Int) (t : Ty) : Prop:=(k = 3 ∧ ChOK t) ∨ (k = 4 ∧ BtOK t) ∨ (k = 2 ∧ InOK t) ∨ (k = 0 ∧ ¬ ChOK t ∧ ¬ BtOK t ∧ ¬ InOK t)
def arP (ls : List Ty) (ks : List Int) : Prop:=ls.length = ks.length ∧ ∀ j,j < ls.length → kdI (ks.getD j 0) (ls.getD j Ty0)
def arInv (k0 : List Int) : arI → Prop
 | .e ks g=>ks = k0
 | .l ks g i=>ks = k0 ∧ L.l.length = ks.length ∧ 0 ≤ i ∧ i ≤ (L.l.length : Int) ∧ ∀ j : Nat,(j : Int) < i → kdI (ks.getD j 0) (L.l.getD j Ty0)
theorem knd_iff (t : Ty) (k : Int) : vN kndX t = k ↔ kdI k t:=by
 have f:=(vN_ok kndX t trivial).2
 simp only [kdI,ChOK,BtOK,InOK] at *
 grind
theorem arX (k0 : List Int) (hL : L.l.length ≤ 1000000) (g0 : Nat) : ∃ o,(∃ r,o = .ret (.v (vT r)) ∧ (r = true ↔ arP L.l k0)) ∧ CallsF Tryz.prog 97 (argAr L k0 g0) (stP (arNeed L k0 g0)) o:=by
 suffices h : ∃ o,(∃ r,o = .ret (.v (vT r)) ∧ (r = true ↔ arP L.l k0)) ∧ ∀ x ρ base w,V (ctxO Tryz.prog 97 ρ o w base) (arC L (.e k0 g0) x) by
  obtain ⟨o,h1,h2⟩:=h
  refine ⟨o,h1,CallsF.mk false Tryz.func97 kq kq (fun ρ w=>?_)⟩
  refine V.asRow 0 1 L.row kq kq kq kq ?_
  refine V.asRow 1 0 (irow k0 g0) kq kq kq kq ?_
  exact h2 () ρ ρ w
 refine cutsX hMu kq (T:=TAr) 40 (arC L) (arS L) arN (arM L) (arInv L k0) (fun o=>∃ r,o = .ret (.v (vT r)) ∧ (r = true ↔ arP L.l k0)) (fun i x=>by cases i <;> kernel_rfl) (fun i x=>by cases i <;> kernel_rfl) ?_ (fun i x j hi hj=>?_) _ (.e k0 g0) (Nat.lt_succ_self _) rfl
 ·intro i hi
  cases i with
  | e ks g =>
   have hi : ks = k0:=hi
   subst hi
   refine ⟨fun h=>⟨⟨false,rfl,?_⟩,rfl⟩,fun h=>?_⟩
   ·simp only [bne_iff_ne,ne_eq,Int.ofNat_inj] at h
    simp only [arP,Bool.false_eq_true,false_iff,not_and]
    exact fun h2=>absurd h2 h
   ·simp only [bne_eq_false_iff_eq,Int.ofNat_inj] at h
    simp only [Sh.okE,arN,arInv,arM]
    exact ⟨⟨trivial,h,by omega,by omega,fun j hj=>by omega⟩,by omega⟩
  | l ks g i =>
   obtain ⟨g1,g2,g3,g4,g5⟩:=hi
   subst g1
   refine ⟨fun h=>?_,fun h=>⟨⟨true,rfl,?_⟩,rfl⟩⟩
   ·have h:=of_decide_eq_true h
    refine ⟨⟨⟨by omega,by omega⟩,⟨by omega,by omega⟩,trivial⟩,fun hb=>⟨⟨false,rfl,?_⟩,rfl⟩,fun hb=>⟨⟨by omega,by omega⟩,?_⟩⟩
    ·simp only [bne_iff_ne,ne_eq,knd_iff] at hb
     simp only [arP,Bool.false_eq_true,false_iff,not_and]
     exact fun _ h2=>hb (h2 i.toNat (by omega))
    ·simp only [bne_eq_false_iff_eq,knd_iff] at hb
     simp only [Sh.okE,Sh.n,arN,arInv,arM]
     refine ⟨⟨trivial,g2,by omega,by omega,fun j hj=>?_⟩,by omega⟩
     by_cases e : (j : Int) = i
     ·have : i.toNat = j:=by omega
      rw [this] at hb; exact hb
     ·exact g5 j (by omega)
   ·have h:=of_decide_eq_false h
    simp only [true_iff]
    exact ⟨g2,fun j hj=>g5 j (by omega)⟩
 ·cases i with
  | e ks g=>match j,hj with
   | 0,_=>exact fun ρ base w o k=>V.nrm (V.againK [0,1,5] [true,true] (k ()) kq kq)
  | l ks g i=>match j,hj with
   | 0,_=>exact fun ρ base w o k=>V.nrm (V.againK [0,1,5] [true,true] (k ()) kq kq)
end
end Go.Proofs
end
section
namespace Go.Proofs
open Go Go.SX
set_option maxRecDepth 100000
set_option maxHeartbeats 1000000
def ptA (g : Nat) : CV:=.one (.val (.pointer (some ⟨g,0,none⟩)))
def rfC (x : List Int × Bool × List UInt8) : List SV:=[SV.int .i64 (x.1.getD 0 0),SV.int .i64 (x.1.getD 1 0),SV.int .i64 (x.1.getD 2 0),SV.int .i64 (x.1.getD 3 0),nilS,nilS,SV.int .i64 (x.1.getD 4 0),SV.int .i64 (x.1.getD 5 0),SV.int .i64 (x.1.getD 6 0),SV.bool x.2.1,SV.str x.2.2]
end Go.Proofs
end
section
namespace Go.SX
open Go
def cellR (cells : List SV) (g : Nat) (e : TypeId) : Row:=rowL (fun _ : Unit=>cells) () [()] (some ⟨g,0,none⟩) 1 e cells.length false
section
variable {C : Ctx}
end
end Go.SX
end
section
namespace Go.SX
open Go
section
variable {C : Ctx}
end
end Go.SX
end
section
namespace Go.SX
open Go
def pvS : SV → SV
 | .row _ s n cap=>.val (.slice s n cap)
 | .el r (some a) size i j=>.val (.pointer (some ⟨a.block,a.off + (i * size + j),none⟩))
 | x=>x
theorem pvS_den (x : SV) (ρ : Nat → Nat) : (pvS x).den ρ = x.den ρ:=by
 unfold pvS
 split <;> rfl
def pvC : CV → CV
 | .one x=>.one (pvS x)
 | .agg xs=>.agg (xs.map pvS)
theorem pvC_den (x : CV) (ρ : Nat → Nat) : (pvC x).den ρ = x.den ρ:=by
 cases x with
 | one x=>exact pvS_den x ρ
 | agg xs =>
  simp only [pvC,CV.den,List.map_map]
  congr 2
  exact List.map_congr_left fun y _=>pvS_den y ρ
def pvR : RV → RV
 | .v x=>.v (pvC x)
 | .tup xs=>.tup (xs.map pvC)
 | v=>v
theorem pvR_den (v : RV) (ρ : Nat → Nat) : (pvR v).den ρ = v.den ρ:=by
 cases v with
 | v x=>exact pvC_den x ρ
 | tup xs =>
  simp only [pvR,RV.den,List.map_map]
  congr 2
  exact List.map_congr_left fun y _=>pvC_den y ρ
 | grd g pol c x=>rfl
def ownR : List (Nat × Row) → List (Nat × Row)
 | []=>[]
 | (k,R) :: l=>if R.own then (k,R) :: ownR l else (ownR l).filter fun p=>!Nat.beq p.1 k
theorem look_filt (k : Nat) : ∀ (l : List (Nat × Row)) (j : Nat) (R : Row),look (l.filter fun p=>!Nat.beq p.1 k) j = some R → look l j = some R ∧ j ≠ k
 | [],j,R,h=>by cases h
 | (i,Q) :: l,j,R,h=>by
  simp only [List.filter_cons] at h
  by_cases e : Nat.beq i k = true
  ·rw [if_neg (by simp [e])] at h
   obtain ⟨h1,h2⟩:=look_filt k l j R h
   refine ⟨?_,h2⟩
   simp only [look]
   split
   ·rename_i e2
    have:=(beq_iff _ _).1 e
    have:=(beq_iff _ _).1 e2
    omega
   ·exact h1
  ·rw [if_pos (by simp only [Bool.not_eq_true'] ; exact Bool.eq_false_iff.2 e)] at h
   simp only [look] at h ⊢
   split at h
   ·rename_i e2
    cases h
    have e2':=(beq_iff _ _).1 e2
    exact ⟨rfl,fun e3=>e (by rw [e2',e3]; exact Nat.beq_refl k)⟩
   ·exact look_filt k l j R h
theorem look_ownR : ∀ (l : List (Nat × Row)) (j : Nat) (R : Row),look (ownR l) j = some R → look l j = some R
 | [],j,R,h=>by cases h
 | (i,Q) :: l,j,R,h=>by
  simp only [ownR] at h
  by_cases e : Q.own = true
  ·rw [if_pos e] at h
   simp only [look] at h ⊢
   split at h
   ·exact h
   ·exact look_ownR l j R h
  ·rw [if_neg e] at h
   obtain ⟨h1,h2⟩:=look_filt _ _ _ _ h
   have:=look_ownR l j R h1
   simp only [look]
   split
   ·rename_i e2
    exact absurd ((beq_iff _ _).1 e2).symm h2
   ·exact this
section
variable {C : Ctx}
end
end Go.SX
end
section
namespace Go.SX
open Go
def abS (γ : Nat → Nat) : SV → SV
 | .ptr b o=>.val (.pointer (some ⟨γ b,o,none⟩))
 | .sli b n cap=>.val (.slice (some ⟨γ b,0,none⟩) n cap)
 | .fn f cap=>.val (.func (.func f) #[] (cap.map fun b=>Value.pointer (some ⟨γ b,0,none⟩)).toArray)
 | x=>pvS x
theorem abS_den (γ : Nat → Nat) (x : SV) (ρ : Nat → Nat) : (abS γ x).den ρ = x.den γ:=by
 cases x with
 | el r s size i j=>cases s <;> rfl
 | _=>rfl
def abC (γ : Nat → Nat) : CV → CV
 | .one x=>.one (abS γ x)
 | .agg xs=>.agg (xs.map (abS γ))
theorem abC_den (γ : Nat → Nat) (x : CV) (ρ : Nat → Nat) : (abC γ x).den ρ = x.den γ:=by
 cases x with
 | one x=>exact abS_den γ x ρ
 | agg xs =>
  simp only [abC,CV.den,List.map_map]
  congr 2
  exact List.map_congr_left fun y _=>abS_den γ y ρ
def abR (γ : Nat → Nat) : RV → RV
 | .v x=>.v (abC γ x)
 | .tup xs=>.tup (xs.map (abC γ))
 | v=>v
theorem abR_den (γ : Nat → Nat) (v : RV) (hv : plainR (abR γ v) = true) (ρ : Nat → Nat) : (abR γ v).den ρ = v.den γ:=by
 cases v with
 | v x=>exact abC_den γ x ρ
 | tup xs =>
  simp only [abR,RV.den,List.map_map]
  congr 2
  exact List.map_congr_left fun y _=>abC_den γ y ρ
 | grd g pol c x=>cases hv
def clM (γ : Nat → Nat) : List (Nat × RV) → List (Nat × RV)
 | []=>[]
 | (k,v) :: l=>match plainR (abR γ v) with
  | true=>(k,abR γ v) :: clM γ l
  | false=>delK k (clM γ l)
theorem look_clM (γ : Nat → Nat) : ∀ (l : List (Nat × RV)) (k : Nat) (v : RV),look (clM γ l) k = some v → plainR v = true ∧ ∃ u,look l k = some u ∧ v = abR γ u
 | [],k,v,h=>by cases h
 | (j,u) :: l,k,v,h=>by
  simp only [clM] at h
  split at h
  ·rename_i hp
   simp only [look] at h ⊢
   split at h
   ·cases h; exact ⟨hp,u,rfl,rfl⟩
   ·exact look_clM γ l k v h
  ·obtain ⟨h1,h2⟩:=look_delK h
   obtain ⟨h3,u',h4,h5⟩:=look_clM γ l k v h1
   refine ⟨h3,u',?_,h5⟩
   simp only [look]
   split
   ·rename_i e
    exact absurd ((beq_iff _ _).1 e).symm h2
   ·exact h4
def factsM (γ : Nat → Nat) : List (Nat × Blk) → List Pers
 | []=>[]
 | (b,blk) :: l=>rowP (cellR (blk.cells.map (abS γ)) (γ b) blk.elem) :: factsM γ l
def plM (γ : Nat → Nat) : List (Nat × Blk) → Bool
 | []=>true
 | (_,blk) :: l=>match (blk.cells.map (abS γ)).all plainB with
  | true=>plM γ l
  | false=>false
def nodupH : List (Nat × Blk) → Bool
 | []=>true
 | (k,_) :: l=>match look l k with
  | some _=>false
  | none=>nodupH l
theorem look_memH {α : Type} : ∀ {l : List (Nat × α)} {k : Nat} {v : α},(k,v) ∈ l → ∃ u,look l k = some u
 | (j,u) :: l,k,v,h=>by
  simp only [look]
  split
  ·exact ⟨u,rfl⟩
  ·rename_i e
   rcases List.mem_cons.1 h with h | h
   ·cases h; rw [Nat.beq_refl] at e; cases e
   ·exact look_memH h
theorem look_nodup : ∀ {l : List (Nat × Blk)} {k : Nat} {v : Blk},nodupH l = true → (k,v) ∈ l → look l k = some v
 | (j,u) :: l,k,v,hn,h=>by
  simp only [nodupH] at hn
  split at hn
  ·cases hn
  ·rename_i hj
   simp only [look]
   rcases List.mem_cons.1 h with h | h
   ·cases h; rw [Nat.beq_refl]
   ·split
    ·rename_i e
     have:=(beq_iff _ _).1 e
     subst this
     obtain ⟨u',hu⟩:=look_memH h
     rw [hj] at hu; cases hu
    ·exact look_nodup hn h
theorem factsM_mem {γ : Nat → Nat} : ∀ {l : List (Nat × Blk)} {q : Pers},plM γ l = true → q ∈ factsM γ l → ∃ b blk,(b,blk) ∈ l ∧ (blk.cells.map (abS γ)).all plainB = true ∧ q = rowP (cellR (blk.cells.map (abS γ)) (γ b) blk.elem)
 | (b,blk) :: l,q,hp,h=>by
  simp only [plM] at hp
  split at hp
  ·rename_i hb
   simp only [factsM] at h
   rcases List.mem_cons.1 h with h | h
   ·exact ⟨b,blk,List.mem_cons_self ..,hb,h⟩
   ·obtain ⟨b',blk',h1,h2,h3⟩:=factsM_mem hp h
    exact ⟨b',blk',List.mem_cons_of_mem _ h1,h2,h3⟩
  ·cases hp
theorem cellM_ok {γ : Nat → Nat} {b : Nat} {blk : Blk} {w : World} (hpl : (blk.cells.map (abS γ)).all plainB = true) (h : w.heap[γ b]? = some (.cells (blk.cells.map (SV.den γ)).toArray blk.elem (0,0))) :
  (cellR (blk.cells.map (abS γ)) (γ b) blk.elem).ok w:=by
 have hpy : ∀ y ∈ blk.cells.map (abS γ),y.plain:=fun y hy=>plainB_ok (List.all_eq_true.1 hpl y hy)
 have hφ : w.heap[γ b]? = some (.cells ((([()] : List Unit).flatMap fun _=>blk.cells.map (abS γ)).map SV.den0).toArray blk.elem (0,0)):=by
  rw [h]
  have e1 : (([()] : List Unit).flatMap fun _=>blk.cells.map (abS γ)) = blk.cells.map (abS γ):=by simp
  rw [e1,List.map_map]
  have e2 : blk.cells.map (SV.den γ) = blk.cells.map (SV.den0 ∘ abS γ):=List.map_congr_left fun y _=>(abS_den γ y _).symm
  rw [e2]
 exact rowL_ok (own:=false) (d:=()) (l:=[()]) hφ (fun _=>rfl) (fun _=>hpy) (by decide)
theorem cellM_uses {cells : List SV} {g : Nat} {e : TypeId} {k : Nat} (h : (cellR cells g e).uses k) : k = g:=by
 obtain ⟨ad,e1,e2,_⟩:=h
 cases e1
 exact e2.symm
section
variable {C : Ctx}
theorem V.toG2 {l n : Nat} {enc : Nat → Array Value} {w0 : World} (Y : Yd C.P l n enc w0) (i : Nat) (O Ow : Nat → Prop) (ps : List Pers) {c : Cfg} (hp : c.st.pers = jP Y i O Ow ps :: ps)
  (h : V C ⟨c.todo,{ c.st with pers:=gP Y i O Ow (dfP [] :: ps) (fun _=>True) (fun _=>True) [] :: dfP [] :: ps }⟩) : V C c:=by
 intro ρ a w hS
 obtain ⟨⟨p1,p2⟩,p3,p4⟩:=hS.pers (jP Y i O Ow ps) (by rw [hp]; exact List.mem_cons_self ..)
 have hG : ∀ w',Y.J i O Ow w' → (gP Y i O Ow (dfP [] :: ps) (fun _=>True) (fun _=>True) []).φ w':=fun w' hJ =>
  ⟨hJ,fun p hp k hk=>(by
   rcases List.mem_cons.1 hp with rfl | hp
   ·exact absurd hk List.not_mem_nil
   ·exact p2 p hp k hk),fun _ _=>trivial,fun _ _=>trivial,fun r hr=>absurd hr List.not_mem_nil⟩
 refine h ρ a w ⟨hS.n,hS.slots,hS.grds,hS.heap,hS.inj,hS.lt,hS.defers,hS.chg,hS.rows,hS.rowsD,fun p hp'=>?_,hS.fix⟩
 rcases List.mem_cons.1 hp' with rfl | hp'
 ·exact ⟨hG w p1,fun w' hw=>hG w' (Y.st _ _ _ _ _ p1 hw),p4⟩
 ·rcases List.mem_cons.1 hp' with rfl | hp'
  ·exact ⟨⟨List.nodup_nil,fun r hr=>absurd hr List.not_mem_nil⟩,fun w' _=>⟨List.nodup_nil,fun r hr=>absurd hr List.not_mem_nil⟩,fun k hk=>absurd hk List.not_mem_nil⟩
  ·exact hS.pers p (by rw [hp]; exact List.mem_cons_of_mem _ hp')
theorem V.absM {l n : Nat} {enc : Nat → Array Value} {w0 : World} (Y : Yd C.P l n enc w0) (i : Nat) (O Ow : Nat → Prop) (ps : List Pers) (B OB : Nat → Prop) (ds : List Nat) {c : Cfg} (hp : c.st.pers = gP Y i O Ow (dfP ds :: ps) B OB ds :: dfP ds :: ps)
  (hnd : nodupH c.st.heap = true) (hpl : ∀ γ,plM γ c.st.heap = true)
  (h : ∀ γ,V C ⟨c.todo,{ c.st with slots:=clM γ c.st.slots,gs:=[],heap:=[],next:=0,fx:=0,rows:=ownR c.st.rows,pers:=gP Y i O Ow (dfP ds :: (factsM γ c.st.heap ++ ps)) B OB ds :: dfP ds :: (factsM γ c.st.heap ++ ps) }⟩) : V C c:=by
 intro ρ a w hS
 obtain ⟨⟨p1,p2,pB,pO,pd⟩,p3,p4⟩:=hS.pers (gP Y i O Ow (dfP ds :: ps) B OB ds) (by rw [hp]; exact List.mem_cons_self ..)
 have hF : ∀ q ∈ factsM ρ c.st.heap,∃ b,b < c.st.next ∧ q.φ w ∧ Stab q ∧ ∀ k,q.D k → k = ρ b:=fun q hq=>by
  obtain ⟨b,blk,h1,h2,rfl⟩:=factsM_mem (hpl ρ) hq
  obtain ⟨k1,k2,_⟩:=hS.heap b blk (look_nodup hnd h1)
  exact ⟨b,k1,cellM_ok h2 k2,rowP_stab _,fun k hk=>cellM_uses hk⟩
 have hG : ∀ w',Y.J i O Ow w' → (gP Y i O Ow (dfP ds :: (factsM ρ c.st.heap ++ ps)) B OB ds).φ w':=fun w' hJ =>
  ⟨hJ,fun p hp k hk=>(by
   rcases List.mem_cons.1 hp with rfl | hp
   ·exact p2 _ (List.mem_cons_self ..) k hk
   ·rcases List.mem_append.1 hp with hp | hp
    ·obtain ⟨b,h1,_,_,h2⟩:=hF p hp
     have hk':=h2 k hk
     subst hk'
     exact fun ho=>(p4 _ (Y.own i O Ow w p1 _ ho)).2.1 b h1 rfl
    ·exact p2 p (List.mem_cons_of_mem _ hp) k hk),pB,pO,pd⟩
 refine h ρ ρ a w ⟨hS.n,?_,?_,fun b blk hb=>(by cases hb),fun b cc hb=>absurd hb (Nat.not_lt_zero _),fun b hb=>absurd hb (Nat.not_lt_zero _),hS.defers,hS.chg,fun r R hR=>?_,fun r r' R R' h1 h2=>hS.rowsD r r' R R' (look_ownR _ _ _ h1) (look_ownR _ _ _ h2),fun p hp'=>?_,fun b hb=>absurd hb (Nat.not_lt_zero _)⟩
 ·intro j v hv
  obtain ⟨hpv,u,hu,rfl⟩:=look_clM _ _ _ _ hv
  exact ⟨by rw [abR_den ρ u hpv]; exact (hS.slots j u hu).1,(plainR_wf hpv _).1⟩
 ·intro j g pol cc x hv
  obtain ⟨hpv,_⟩:=look_clM _ _ _ _ hv
  cases hpv
 ·obtain ⟨k0,k1,k2⟩:=hS.rows r R (look_ownR _ _ _ hR)
  exact ⟨k0,k1,fun k hk=>⟨(k2 k hk).1,fun b hb=>absurd hb (Nat.not_lt_zero _),(k2 k hk).2.2⟩⟩
 ·rcases List.mem_cons.1 hp' with rfl | hp'
  ·exact ⟨hG w p1,fun w' hw=>hG w' (Y.st _ _ _ _ _ p1 hw),fun k hk=>⟨(p4 k hk).1,fun b hb=>absurd hb (Nat.not_lt_zero _),fun r R hR=>(p4 k hk).2.2 r R (look_ownR _ _ _ hR)⟩⟩
  ·rcases List.mem_cons.1 hp' with rfl | hp'
   ·obtain ⟨q1,q2,q3⟩:=hS.pers (dfP ds) (by rw [hp]; simp)
    exact ⟨q1,q2,fun k hk=>⟨(q3 k hk).1,fun b hb=>absurd hb (Nat.not_lt_zero _),fun r R hR=>(q3 k hk).2.2 r R (look_ownR _ _ _ hR)⟩⟩
   ·rcases List.mem_append.1 hp' with hp' | hp'
    ·obtain ⟨b,h1,h2,h3,h4⟩:=hF p hp'
     refine ⟨h2,fun w' hw=>h3 w w' hw h2,fun k hk=>?_⟩
     have hk':=h4 k hk
     subst hk'
     exact ⟨hS.lt b h1,fun b hb=>absurd hb (Nat.not_lt_zero _),fun r R hR _ hu=>((hS.rows r R (look_ownR _ _ _ hR)).2.2 _ hu).2.1 b h1 rfl⟩
    ·obtain ⟨q1,q2,q3⟩:=hS.pers p (by rw [hp]; exact List.mem_cons_of_mem _ (List.mem_cons_of_mem _ hp'))
     exact ⟨q1,q2,fun k hk=>⟨(q3 k hk).1,fun b hb=>absurd hb (Nat.not_lt_zero _),fun r R hR=>(q3 k hk).2.2 r R (look_ownR _ _ _ hR)⟩⟩
end
theorem Iter.ofBlks {P : Program} {g : FuncId} {ys : List CV} {F : St} {n : Nat} {enc : Nat → Array Value} (hnd : nodupH F.heap = true) (hpl : ∀ γ,plM γ F.heap = true)
  (h : ∀ γ,Iter P g (ys.map (abC γ)) (stP (factsM γ F.heap ++ F.pers)) n enc) : Iter P g ys F n enc:=by
 intro ρ w l Y O Ow hF hJ hO hOw
 have e : ys.map (CV.den ρ) = (ys.map (abC ρ)).map (CV.den ρ):=by
  rw [List.map_map]
  exact List.map_congr_left fun x _=>(abC_den ρ x ρ).symm
 rw [e]
 have hm : ∀ q ∈ factsM ρ F.heap,∃ b,b < F.next ∧ q.φ w ∧ Stab q ∧ ∀ k,q.D k → k = ρ b:=fun q hq=>by
  obtain ⟨b,blk,h1,h2,rfl⟩:=factsM_mem (hpl ρ) hq
  obtain ⟨k1,k2,_⟩:=hF.heap b blk (look_nodup hnd h1)
  exact ⟨b,k1,cellM_ok h2 k2,rowP_stab _,fun k hk=>cellM_uses hk⟩
 refine h ρ ρ w l Y O Ow (FSat_stP (fun p hp=>?_)) hJ (fun k hk=>⟨fun b hb=>absurd hb (Nat.not_lt_zero _),fun r R hR=>by cases hR⟩) (fun p hp k hk=>?_)
 ·rcases List.mem_append.1 hp with hp | hp
  ·obtain ⟨b,h1,h2,h3,h4⟩:=hm p hp
   exact ⟨h2,fun w' hw=>h3 w w' hw h2,fun k hk=>by rw [h4 k hk]; exact hF.lt b h1⟩
  ·obtain ⟨q1,q2,q3⟩:=hF.pers p hp
   exact ⟨q1,q2,fun k hk=>(q3 k hk).1⟩
 ·rcases List.mem_append.1 hp with hp | hp
  ·obtain ⟨b,h1,h2,h3,h4⟩:=hm p hp
   have:=h4 k hk
   subst this
   exact fun ho=>(hO _ (Y.own _ _ _ _ hJ _ ho)).1 b h1 rfl
  ·exact hOw p hp k hk
end Go.SX
end
section
namespace Go.Proofs
open Go Go.SX
set_option maxRecDepth 100000
set_option maxHeartbeats 1000000
abbrev RfX:=List Int × Bool × List UInt8
def exK (x : RfX) (v : Int) (s : List UInt8) (n : Int) : List SV:=[SV.int .i64 (x.1.getD 0 0),SV.int .i64 (x.1.getD 1 0),SV.int .i64 (x.1.getD 2 0),SV.int .i64 (x.1.getD 3 0),SV.bool x.2.1,SV.str x.2.2,.int .i64 v,.str s,.int .i64 n,nilS,nilS]
def slA (g n : Nat) : SV:=.val (.slice (some ⟨g,0,none⟩) n n)
theorem inner_iter2 (g : Nat) (cells : List SV) (x : RfX) (hc : cells = rfC x) (enc : Nat → Array Value) : Iter Tryz.prog 251 [ptA g] (stP [rowP (cellR cells g 97)]) 0 enc:=by
 subst hc
 refine Iter.mk true Tryz.func251 kq kq (fun ρ w l Y O Ow=>?_)
 refine V.asEl 1 1 g 0 0 (cellR (rfC x) g 97) kq kq rfl rfl rfl (by exact Nat.one_pos) (by simp) ?_
 refine V.runC ([] : List (Ent Tryz.prog)) 8 [] kq kq trivial ?_
 exact V.iterEnd Y 0 rfl O Ow [rowP (cellR (rfC x) g 97)] (.tup []) kq kq kq
end Go.Proofs
end
section
namespace Go.SX
open Go
theorem stabL {l : List Row} : ∀ p ∈ l.map rowP,Stab p:=fun p hp=>by
 obtain ⟨R,_,rfl⟩:=List.mem_map.1 hp
 exact rowP_stab R
section
variable {P : Program} {g : FuncId} {l n : Nat} {enc : Nat → Array Value} {w : World} {base : Nat → Nat}
theorem V.endGn (Y : Yd P l n enc w) (fn : Func) (hfn : P.funcs[g]? = some fn) (hres : fn.results = #[]) (O Ow : Nat → Prop) (ps qs : List Pers) (B OB : Nat → Prop) (ds : List Nat) {c : Cfg} (he : isEnd c.todo = true)
  (hd : c.st.defs = collL ds) (hp : c.st.pers = gP Y n O Ow ps B OB ds :: dfP ds :: qs) : V ⟨P,g,IterR Y,fun _=>True,w,base,none⟩ c :=
 V.endG Y fn hfn hres ds he hd (by rw [hp]; simp) ⟨gP Y n O Ow ps B OB ds,by rw [hp]; exact List.mem_cons_self ..,fun W h=>⟨O,Ow,h.2.2.2.2,.inl h.1⟩⟩
theorem V.endGx (Y : Yd P l n enc w) (fn : Func) (hfn : P.funcs[g]? = some fn) (hres : fn.results = #[]) (O Ow : Nat → Prop) (qs : List Pers) (B OB : Nat → Prop) (ds : List Nat) {c : Cfg} (he : isEnd c.todo = true)
  (hd : c.st.defs = collL ds) (hp : c.st.pers = gX Y O Ow B OB ds :: dfP ds :: qs) : V ⟨P,g,IterR Y,fun _=>True,w,base,none⟩ c :=
 V.endG Y fn hfn hres ds he hd (by rw [hp]; simp) ⟨gX Y O Ow B OB ds,by rw [hp]; exact List.mem_cons_self ..,fun W h=>⟨O,Ow,h.2.2.2,.inr h.1⟩⟩
end
end Go.SX
namespace Go.Proofs
open Go Go.SX
set_option maxRecDepth 100000
set_option maxHeartbeats 1000000
def ylV (l : Nat) : SV:=.val (.func (.yield l) #[] #[])
def ptN (a b r e : Nat) (x y : RfX) (v : Int) (s : List UInt8) (n : Int) : List Row :=
 [cellR [slA r 1] a 42,cellR [slA e 1] b 41,cellR (rfC x) r 97,cellR (exK y v s n) e 44]
abbrev dumC : List CV:=[.one (.int .i64 0)]
theorem parts_iter1 (a b r e : Nat) (x y : RfX) (v : Int) (s : List UInt8) (n : Int) :
  Iter Tryz.prog 202 [ptA a,ptA b] (stP ((ptN a b r e x y v s n).map rowP)) 1 (fun _=>#[(CV.agg (exK y v s n)).den fun _=>0]):=by
 refine Iter.mk true Tryz.func202 kq kq (fun ρ w l Y O Ow=>?_)
 refine V.lit ?_
 refine V.toG2 Y 0 O Ow ((ptN a b r e x y v s n).map rowP) rfl ?_
 refine V.asEl 1 2 a 0 0 (cellR [slA r 1] a 42) kq kq rfl rfl rfl (by exact Nat.one_pos) (by simp) ?_
 refine V.runZ Go.Proofs.ev0 [] [] 200 (fun os=>kq) kq kq (fun os=>?_)
 refine V.asRow 9 4 (cellR (rfC x) r 97) kq kq kq kq ?_
 refine V.runZ Go.Proofs.ev0 [] [] 200 (fun os=>kq) kq kq (fun os=>?_)
 refine V.absM Y 0 O Ow ((ptN a b r e x y v s n).map rowP) (fun _=>True) (fun _=>True) [] kq kq (fun γ=>kq) (fun γ=>?_)
 refine V.rangeG Y (fun _=>0) 0 O Ow (([cellR (rfC x) (γ 2) 97,cellR (rfC x) (γ 1) 97,cellR [ylV l] (γ 0) 93] ++ ptN a b r e x y v s n).map rowP) [rowP (cellR (rfC x) (γ 2) 97)] (fun _=>True) (fun _=>True) []
  (fun _=>dumC) (encV:=fun _=>#[.int .i64 0]) (fun _ _=>rfl) (inner_iter2 (γ 2) _ x rfl _) (fun p hp=>by rw [List.mem_singleton.1 hp]; exact List.mem_cons_self ..) stabL kq kq (.inl rfl)
  ⟨rfl,rfl,rfl⟩ (fun _ _=>.inr trivial) (fun _ _=>⟨trivial,trivial⟩) kq kq (fun _=>kq) (fun _=>kq) (fun j _ _ _ _ _ _ hj=>absurd hj (Nat.not_lt_zero _))
  (fun O1 Ow1 ds1 _=>?_) (fun O1 Ow1 ds1 _=>?_)
 ·refine V.asEl 2 6 b 0 0 (cellR [slA e 1] b 41) kq kq rfl rfl rfl (by exact Nat.one_pos) (by simp) ?_
  refine V.asEl 3 4 (γ 0) 0 0 (cellR [ylV l] (γ 0) 93) kq kq rfl rfl rfl (by exact Nat.one_pos) (by simp) ?_
  refine V.runZ Go.Proofs.ev0 [] [] 200 (fun os=>kq) kq kq (fun os=>?_)
  refine V.asRow 23 8 (cellR (exK y v s n) e 44) kq kq kq kq ?_
  refine V.runZ Go.Proofs.ev0 [] [] 200 (fun os=>kq) kq kq (fun os=>?_)
  refine V.absM Y 0 O1 Ow1 (([cellR (rfC x) (γ 2) 97,cellR (rfC x) (γ 1) 97,cellR [ylV l] (γ 0) 93] ++ ptN a b r e x y v s n).map rowP) (fun _=>True) (fun _=>True) ds1 kq kq (fun γ=>kq) (fun δ=>?_)
  refine V.yieldG Y 0 O1 Ow1 (dfP ds1 :: (([cellR (exK y v s n) (δ 0) 44,cellR (rfC x) (γ 2) 97,cellR (rfC x) (γ 1) 97,cellR [ylV l] (γ 0) 93] ++ ptN a b r e x y v s n).map rowP)) (fun _=>True) (fun _=>True) ds1 [.agg (exK y v s n)] kq ⟨rfl,rfl,rfl⟩ (fun _ _=>.inr trivial) (fun _ _=>⟨trivial,trivial⟩) kq
   (fun r hr=>⟨dfP ds1,List.mem_cons_self ..,hr⟩) kq Nat.one_pos (fun ρ=>rfl) kq (fun O2 Ow2=>?_) (fun O2 Ow2=>?_)
  ·refine V.runZ Go.Proofs.ev0 [] [] 200 (fun os=>kq) kq kq (fun os=>?_)
   exact V.endGn Y Tryz.f202 Tryz.func202 kq O2 Ow2 (dfP ds1 :: (([cellR (exK y v s n) (δ 0) 44,cellR (rfC x) (γ 2) 97,cellR (rfC x) (γ 1) 97,cellR [ylV l] (γ 0) 93] ++ ptN a b r e x y v s n).map rowP)) (([cellR (exK y v s n) (δ 0) 44,cellR (rfC x) (γ 2) 97,cellR (rfC x) (γ 1) 97,cellR [ylV l] (γ 0) 93] ++ ptN a b r e x y v s n).map rowP) (fun _=>True) (fun _=>True) ds1 kq kq kq
  ·refine V.runZ Go.Proofs.ev0 [] [] 200 (fun os=>kq) kq kq (fun os=>?_)
   exact V.endGx Y Tryz.f202 Tryz.func202 kq O2 Ow2 (([cellR (exK y v s n) (δ 0) 44,cellR (rfC x) (γ 2) 97,cellR (rfC x) (γ 1) 97,cellR [ylV l] (γ 0) 93] ++ ptN a b r e x y v s n).map rowP) (fun _=>True) (fun _=>True) ds1 kq kq kq
 ·exact V.endGx Y Tryz.f202 Tryz.func202 kq O1 Ow1 (([cellR (rfC x) (γ 2) 97,cellR (rfC x) (γ 1) 97,cellR [ylV l] (γ 0) 93] ++ ptN a b r e x y v s n).map rowP) (fun _=>True) (fun _=>True) ds1 kq kq kq
end Go.Proofs
end
section
namespace Go.Proofs
open Go Go.SX
set_option maxRecDepth 100000
set_option maxHeartbeats 1000000
def fnV (f : FuncId) (l : List Nat) : SV:=.val (.func (.func f) #[] (l.map fun b=>Value.pointer (some ⟨b,0,none⟩)).toArray)
def ptN0 (a b : Nat) : List Row:=[cellR [nilS] a 42,cellR [nilS] b 41]
theorem parts_iter0 (a b : Nat) (enc : Nat → Array Value) : Iter Tryz.prog 202 [ptA a,ptA b] (stP ((ptN0 a b).map rowP)) 0 enc:=by
 refine Iter.mk true Tryz.func202 kq kq (fun ρ w l Y O Ow=>?_)
 refine V.asEl 1 1 a 0 0 (cellR [nilS] a 42) kq kq rfl rfl rfl (by exact Nat.one_pos) (by simp) ?_
 refine V.asEl 2 2 b 0 0 (cellR [nilS] b 41) kq kq rfl rfl rfl (by exact Nat.one_pos) (by simp) ?_
 refine V.runC ([] : List (Ent Tryz.prog)) 8 [] kq kq trivial ?_
 exact V.iterEnd Y 0 rfl O Ow ((ptN0 a b).map rowP) (.tup []) kq kq kq
def ndN0 (a b c : Nat) : List Row:=[cellR [fnV 202 [a,b]] c 126,cellR [nilS] a 42,cellR [nilS] b 41]
theorem nodes_iter0 (a b c : Nat) (enc : Nat → Array Value) : Iter Tryz.prog 201 [ptA c] (stP ((ndN0 a b c).map rowP)) 0 enc:=by
 refine Iter.mk true Tryz.func201 kq kq (fun ρ w l Y O Ow=>?_)
 refine V.lit ?_
 refine V.toG2 Y 0 O Ow ((ndN0 a b c).map rowP) rfl ?_
 refine V.asEl 1 2 c 0 0 (cellR [fnV 202 [a,b]] c 126) kq kq rfl rfl rfl (by exact Nat.one_pos) (by simp) ?_
 refine V.runZ Go.Proofs.ev0 [] [] 200 (fun os=>kq) kq kq (fun os=>?_)
 refine V.absM Y 0 O Ow ((ndN0 a b c).map rowP) (fun _=>True) (fun _=>True) [] kq kq (fun γ=>kq) (fun γ=>?_)
 refine V.rangeG Y (fun _=>0) 0 O Ow (([cellR [ylV l] (γ 0) 93] ++ ndN0 a b c).map rowP) ((ptN0 a b).map rowP) (fun _=>True) (fun _=>True) []
  (fun _=>dumC) (encV:=fun _=>#[.int .i64 0]) (fun _ _=>rfl) (parts_iter0 a b _) (fun p hp=>List.mem_cons_of_mem _ (List.mem_cons_of_mem _ hp)) stabL kq kq (.inl rfl)
  ⟨rfl,rfl,rfl⟩ (fun _ _=>.inr trivial) (fun _ _=>⟨trivial,trivial⟩) kq kq (fun _=>kq) (fun _=>kq) (fun j _ _ _ _ _ _ hj=>absurd hj (Nat.not_lt_zero _))
  (fun O1 Ow1 ds1 _=>?_) (fun O1 Ow1 ds1 _=>?_)
 ·refine V.runZ Go.Proofs.ev0 [] [] 200 (fun os=>kq) kq kq (fun os=>?_)
  exact V.endGn Y Tryz.f201 Tryz.func201 kq O1 Ow1 (dfP ds1 :: (([cellR [ylV l] (γ 0) 93] ++ ndN0 a b c).map rowP)) (([cellR [ylV l] (γ 0) 93] ++ ndN0 a b c).map rowP) (fun _=>True) (fun _=>True) ds1 kq kq kq
 ·exact V.endGx Y Tryz.f201 Tryz.func201 kq O1 Ow1 (([cellR [ylV l] (γ 0) 93] ++ ndN0 a b c).map rowP) (fun _=>True) (fun _=>True) ds1 kq kq kq
end Go.Proofs
end
section
namespace Go.SX
open Go
theorem V.gDs {C : Ctx} {l n : Nat} {enc : Nat → Array Value} {w0 : World} (Y : Yd C.P l n enc w0) (i : Nat) (O Ow : Nat → Prop) (ps : List Pers) (B OB : Nat → Prop) (ds : List Nat) {c : Cfg} (hp : c.st.pers = gP Y i O Ow (dfP ds :: ps) B OB ds :: dfP ds :: ps)
  (h : V C ⟨c.todo,{ c.st with pers:=gP Y i O Ow (dfP [] :: dfP ds :: ps) B OB [] :: dfP [] :: dfP ds :: ps }⟩) : V C c:=by
 intro ρ a w hS
 obtain ⟨⟨p1,p2,pB,pO,pd⟩,p3,p4⟩:=hS.pers (gP Y i O Ow (dfP ds :: ps) B OB ds) (by rw [hp]; exact List.mem_cons_self ..)
 have hG : ∀ w',Y.J i O Ow w' → (gP Y i O Ow (dfP [] :: dfP ds :: ps) B OB []).φ w':=fun w' hJ =>
  ⟨hJ,fun p hp k hk=>(by
   rcases List.mem_cons.1 hp with rfl | hp
   ·exact absurd hk List.not_mem_nil
   ·exact p2 p hp k hk),pB,pO,fun r hr=>absurd hr List.not_mem_nil⟩
 refine h ρ a w ⟨hS.n,hS.slots,hS.grds,hS.heap,hS.inj,hS.lt,hS.defers,hS.chg,hS.rows,hS.rowsD,fun p hp'=>?_,hS.fix⟩
 rcases List.mem_cons.1 hp' with rfl | hp'
 ·exact ⟨hG w p1,fun w' hw=>hG w' (Y.st _ _ _ _ _ p1 hw),p4⟩
 ·rcases List.mem_cons.1 hp' with rfl | hp'
  ·exact ⟨⟨List.nodup_nil,fun r hr=>absurd hr List.not_mem_nil⟩,fun w' _=>⟨List.nodup_nil,fun r hr=>absurd hr List.not_mem_nil⟩,fun k hk=>absurd hk List.not_mem_nil⟩
  ·exact hS.pers p (by rw [hp]; exact List.mem_cons_of_mem _ hp')
theorem stabD {l m : List Row} {ds : List Nat} : ∀ p ∈ l.map rowP ++ dfP ds :: m.map rowP,Stab p:=fun p hp=>by
 rcases List.mem_append.1 hp with hp | hp
 ·exact stabL p hp
 ·rcases List.mem_cons.1 hp with rfl | hp
  ·exact dfP_stab _
  ·exact stabL p hp
end Go.SX
namespace Go.Proofs
open Go Go.SX
set_option maxRecDepth 100000
set_option maxHeartbeats 1000000
theorem sub3 {m : List Row} {A B D : Row} (h1 : A ∈ m) (h2 : B ∈ m) (h3 : D ∈ m) : ∀ {q : List Pers},∀ p ∈ [A,B,D].map rowP,p ∈ m.map rowP ++ q:=fun p hp=>by
 obtain ⟨R,hR,rfl⟩:=List.mem_map.1 hp
 refine List.mem_append_left _ (List.mem_map.2 ⟨R,?_,rfl⟩)
 simp only [List.mem_cons,List.not_mem_nil,or_false] at hR
 rcases hR with rfl | rfl | rfl <;> assumption
def ndN (a b c r e : Nat) (x y : RfX) (v : Int) (s : List UInt8) (n : Int) : List Row:=cellR [fnV 202 [a,b]] c 126 :: ptN a b r e x y v s n
theorem nodes_iter1 (a b c r e : Nat) (x y : RfX) (v : Int) (s : List UInt8) (n : Int) :
  Iter Tryz.prog 201 [ptA c] (stP ((ndN a b c r e x y v s n).map rowP)) 1 (fun _=>#[(CV.agg (exK y v s n)).den fun _=>0]):=by
 refine Iter.mk true Tryz.func201 kq kq (fun ρ w l Y O Ow=>?_)
 refine V.lit ?_
 refine V.toG2 Y 0 O Ow ((ndN a b c r e x y v s n).map rowP) rfl ?_
 refine V.asEl 1 2 c 0 0 (cellR [fnV 202 [a,b]] c 126) kq kq kq kq kq (by exact Nat.one_pos) (by simp) ?_
 refine V.runZ Go.Proofs.ev0 [] [] 200 (fun os=>kq) kq kq (fun os=>?_)
 refine V.absM Y 0 O Ow ((ndN a b c r e x y v s n).map rowP) (fun _=>True) (fun _=>True) [] kq kq (fun γ=>kq) (fun γ=>?_)
 refine V.rangeG Y (fun j=>j) 1 O Ow (([cellR [ylV l] (γ 0) 93] ++ ndN a b c r e x y v s n).map rowP) ((ptN a b r e x y v s n).map rowP) (fun _=>True) (fun _=>True) []
  (fun _=>[.agg (exK y v s n)]) (encV:=fun _=>#[(CV.agg (exK y v s n)).den fun _=>0]) (fun _ _=>rfl) (parts_iter1 a b r e x y v s n) (fun p hp=>List.mem_cons_of_mem _ (List.mem_cons_of_mem _ hp)) stabL kq kq (.inl rfl)
  ⟨rfl,rfl,rfl⟩ (fun _ _=>.inr trivial) (fun _ _=>⟨trivial,trivial⟩) kq kq (fun _=>kq) (fun _=>kq) (fun j O1 Ow1 W lp q ds1 hj hw=>?_)
  (fun O1 Ow1 ds1 _=>?_) (fun O1 Ow1 ds1 _=>?_)
 ·obtain rfl : j = 0:=by omega
  refine V.lit ?_
  refine V.gDs Y 0 O1 Ow1 (([cellR [ylV l] (γ 0) 93] ++ ndN a b c r e x y v s n).map rowP) (bG W Ow1) (oG W O1) ds1 kq ?_
  refine V.runZ Go.Proofs.ev0 [] [] 200 (fun os=>kq) kq kq (fun os=>?_)
  refine V.begin 0 lp (recOf q none) kq rfl kq rfl ?_
  refine V.asEl 2 3 (γ 0) 0 0 (cellR [ylV l] (γ 0) 93) kq kq kq kq kq (by exact Nat.one_pos) (by simp) ?_
  refine V.runZ Go.Proofs.ev0 [] [] 200 (fun os=>kq) kq kq (fun os=>?_)
  refine V.absM Y 0 O1 Ow1 (dfP ds1 :: ([cellR [ylV l] (γ 0) 93] ++ ndN a b c r e x y v s n).map rowP) (bG W Ow1) (oG W O1) [] kq kq (fun γ=>kq) (fun δ=>?_)
  refine V.yieldG Y 0 O1 Ow1 (dfP [] :: ([cellR (exK y v s n) (δ 0) 44].map rowP ++ dfP ds1 :: ([cellR [ylV l] (γ 0) 93] ++ ndN a b c r e x y v s n).map rowP)) (bG W Ow1) (oG W O1) [] [.agg (exK y v s n)] kq hw (fun k hk=>hk.imp id .inl) (fun _ hk=>⟨.inl hk,.inr hk⟩) kq
   (fun r hr=>absurd hr List.not_mem_nil) kq Nat.one_pos (fun ρ=>rfl) kq (fun O2 Ow2=>?_) (fun O2 Ow2=>?_)
  ·refine V.asEl 3 2 (δ 0) 0 0 (cellR (exK y v s n) (δ 0) 44) kq kq kq kq kq (by exact Nat.one_pos) (by simp) ?_
   refine V.runZ Go.Proofs.ev0 [] [] 200 (fun os=>kq) kq kq (fun os=>?_)
   refine V.absM Y 1 O2 Ow2 ([cellR (exK y v s n) (δ 0) 44].map rowP ++ dfP ds1 :: ([cellR [ylV l] (γ 0) 93] ++ ndN a b c r e x y v s n).map rowP) (bG W Ow1) (oG W O1) [] kq kq (fun γ=>kq) (fun κ=>?_)
   refine V.rangeG Y (fun _=>1) 0 O2 Ow2 ([cellR [fnV 202 [κ 1,κ 2]] (κ 3) 126,cellR [nilS] (κ 2) 41,cellR [nilS] (κ 1) 42,cellR (exK y v s n) (κ 0) 44,cellR (exK y v s n) (δ 0) 44].map rowP ++ dfP ds1 :: ([cellR [ylV l] (γ 0) 93] ++ ndN a b c r e x y v s n).map rowP) ((ndN0 (κ 1) (κ 2) (κ 3)).map rowP) (bG W Ow1) (oG W O1) []
    (fun _=>dumC) (encV:=fun _=>#[.int .i64 0]) (fun _ _=>rfl) (nodes_iter0 (κ 1) (κ 2) (κ 3) _) (sub3 (.head _) (.tail _ (.tail _ (.head _))) (.tail _ (.head _))) stabD kq kq (.inr ⟨lp,{ recOf q none with state:=.busy },0,rfl,kq⟩)
    hw (fun k hk=>hk.imp id .inl) (fun _ hk=>⟨.inl hk,.inr hk⟩) kq kq (fun _=>kq) (fun _=>kq) (fun j _ _ _ _ _ _ hj=>absurd hj (Nat.not_lt_zero _))
    (fun O3 Ow3 ds3 _=>?_) (fun O3 Ow3 ds3 _=>?_)
   ·refine V.runZ Go.Proofs.ev0 [] [] 200 (fun os=>kq) kq kq (fun os=>?_)
    exact V.roundG Y 0 1 O3 Ow3 (dfP ds3 :: ([cellR [fnV 202 [κ 1,κ 2]] (κ 3) 126,cellR [nilS] (κ 2) 41,cellR [nilS] (κ 1) 42,cellR (exK y v s n) (κ 0) 44,cellR (exK y v s n) (δ 0) 44].map rowP ++ dfP ds1 :: ([cellR [ylV l] (γ 0) 93] ++ ndN a b c r e x y v s n).map rowP)) ds3 kq kq rfl kq
   ·exact V.roundX Y 0 O3 Ow3 (dfP ds3 :: ([cellR [fnV 202 [κ 1,κ 2]] (κ 3) 126,cellR [nilS] (κ 2) 41,cellR [nilS] (κ 1) 42,cellR (exK y v s n) (κ 0) 44,cellR (exK y v s n) (δ 0) 44].map rowP ++ dfP ds1 :: ([cellR [ylV l] (γ 0) 93] ++ ndN a b c r e x y v s n).map rowP)) ds3 kq kq kq
  ·refine V.runZ Go.Proofs.ev0 [] [] 200 (fun os=>kq) kq kq (fun os=>?_)
   exact V.roundX Y 0 O2 Ow2 (dfP [] :: ([cellR (exK y v s n) (δ 0) 44].map rowP ++ dfP ds1 :: ([cellR [ylV l] (γ 0) 93] ++ ndN a b c r e x y v s n).map rowP)) [] kq kq kq
 ·refine V.runZ Go.Proofs.ev0 [] [] 200 (fun os=>kq) kq kq (fun os=>?_)
  exact V.endGn Y Tryz.f201 Tryz.func201 kq O1 Ow1 (dfP ds1 :: (([cellR [ylV l] (γ 0) 93] ++ ndN a b c r e x y v s n).map rowP)) (([cellR [ylV l] (γ 0) 93] ++ ndN a b c r e x y v s n).map rowP) (fun _=>True) (fun _=>True) ds1 kq kq kq
 ·exact V.endGx Y Tryz.f201 Tryz.func201 kq O1 Ow1 (([cellR [ylV l] (γ 0) 93] ++ ndN a b c r e x y v s n).map rowP) (fun _=>True) (fun _=>True) ds1 kq kq kq
end Go.Proofs
end
section
namespace Go.SX
open Go
def leftD (s : St) (l r : Nat) (q : Loop) (dfs : List Deferred) : St:={ withL s l r q with defs:=⟨.collected r,#[]⟩ :: dfs }
section
variable {C : Ctx} {ρ : Nat → Nat} {s : St} {a : Act} {w w' : World}
theorem V.rangeFD {ι : Type} (sx : ι → St) {sl : List (Nat × RV)} {n nx fx : Nat} {ps : List Pers} (hsh : Shape sx sl n nx fx ps) (pre : Nat → ι → Prop) (prex : Code → ι → Prop) {N : Nat} (enc : Nat → List CV) {encV : Nat → Array Value}
  (henc : ∀ i ρ,((enc i).map (CV.den ρ)).toArray = encV i) (x0 : ι) (ks : List Nat) (pm : List Bool) (pi : List (Nat × Bool)) {g : Operand} {psT : Array Tmp} {asg body : Code} {k : List Item} {c : Cfg} {gf : FuncId} {ys : List CV} {F : St}
  (dfs : List Deferred) (hdd : c.st.defs = dfs) (ht : c.todo = .code (.rangeFunc g psT asg body) :: k) (hr : C.round = none) (hp : headK ks pm ⟨c.todo,{ c.st with defs:=[] }⟩ = some (sx x0)) (hpre : pre 0 x0) (hit : Iter C.P gf ys F N encV) (hen : entersB C.P gf = true)
  (hF : iterOf c g = some (gf,ys,fragOf F)) (hFs : (apart ks c g && (F.rows.isEmpty && (rwAll F.heap && told F.next F.heap))) = true) (hpi : getP pi c.st.pers = some (askP C.w0.heap.size C.S pi F.pers))
  (hsz : ∀ i,(enc i).length = psT.size) (hpl : ∀ i,psOk n (psT.toList.zip (enc i)) = true)
  (hround : ∀ i x ρ W l r q,i < N → pre i x → V ⟨C.P,C.f,RoundR sx pre prex l r q i (withL (sx x) l r (recOf q none)) ρ W,touch ρ (withL (sx x) l r (recOf q none)),W,ρ,some l⟩
   ⟨[.code asg,.beginRound,.code body],roundSt (withL (sx x) l r (recOf q none)) (psT.toList.zip (enc i))⟩)
  (hend : ∀ x l r q,pre N x → V C ⟨k,leftD (sx x) l r q dfs⟩) (hjump : ∀ cd x l r q,prex cd x → V C ⟨.code cd :: k,leftD (sx x) l r q dfs⟩) : V C c:=by
 intro ρ a w hS b hb hk hro cs hcs
 obtain ⟨todo,st⟩:=c
 simp only at ht hS hdd
 subst ht
 simp only [Bool.and_eq_true] at hFs
 obtain ⟨hap,hrw0,hrwF,htold⟩:=hFs
 -- the function
 unfold iterOf at hF
 unfold apart at hap
 split at hF
 case h_2=>cases hF
 rename_i f caps hcal
 rw [hcal] at hap
 simp only at hap
 split at hF
 rename_i hs rs hcan
 split at hF
 case h_2=>cases hF
 rename_i ys1 s' hren hpk
 simp only [Option.some.injEq,Prod.mk.injEq] at hF
 obtain ⟨rfl,rfl,hfr⟩:=hF
 -- the loop's own side
 unfold headK at hp
 rw [hcan] at hap
 split at hp
 rename_i hsO rsO hcanO
 rw [hcanO] at hap
 simp only at hap
 have hmeet : meets hs hsO = false:=by
  cases e : meets hs hsO with
  | true=>rw [e] at hap; cases hap
  | false=>rfl
 have hO:=(hS.setDefs []).pick hp
 have ha : a.defers = dfs:=hS.defers.trans hdd
 -- the two objects
 let q0 : Loop:={ state:=.ready,pending:=none,fn:=C.f,tmps:=a.tmps,params:=psT,assign:=asg,body:=body,defers:=w.heap.size }
 have hsz1 : (w.alloc (.deferred (some []))).heap.size = w.heap.size + 1:=World.size_alloc _ _
 have hO2:=(hO.newObj (.deferred (some []))).newObj (.loop q0)
 rw [hsz1] at hO2
 have hlt0:=keysLt_ok (hsh.keys x0)
 have hO3 : Sat C (fun i=>ρ (hsO.getD i 0)) (withL (sx x0) (w.heap.size + 1) w.heap.size (recOf q0 none)) { a with defers:=[] } ((w.alloc (.deferred (some []))).alloc (.loop q0)):=hO2.rowsEq _ (withL_rows hlt0 (w.heap.size + 1) w.heap.size q0).1
 have hS1:=(hS.below (Chg.alloc _ w (.deferred (some [])))).below (Chg.alloc _ (w.alloc (.deferred (some []))) (.loop q0))
 generalize hw1 : (w.alloc (.deferred (some []))).alloc (.loop q0) = w1 at hO3 hS1 hO2
 have hl : C.w0.heap.size ≤ w.heap.size + 1:=Nat.le_trans hS.chg.size (Nat.le_succ _)
 let Y:=ydOf C sx sl n nx fx ps hsh pre prex N enc encV henc psT hsz hpl { a with defers:=[] } (w.heap.size + 1) w.heap.size q0 ⟨rfl,rfl,rfl⟩ hl w1 (fun i x ρ W=>hround i x ρ W _ _ q0)
 have hFS:=hS1.fragAt hpk hfr pi hpi
 have hpn : s'.next = F.next:=by simp only [fragOf,Prod.mk.injEq] at hfr; exact hfr.2.1
 have hph : s'.heap = F.heap:=by simp only [fragOf,Prod.mk.injEq] at hfr; exact hfr.1
 have hρlt : ∀ b,b < F.next → ρ (hs.getD b 0) < w.heap.size:=fun b hb=>hS.lt _ (pick_lt hS hpk b (by rw [hpn]; exact hb))
 have hne : ∀ b',b' < (sx x0).next → ∀ b,b < F.next → ρ (hs.getD b 0) ≠ ρ (hsO.getD b' 0):=by
  intro b' hb' b hb e
  have h1:=pick_look hp hb'
  have h2:=pick_look hpk (b:=b) (by rw [hpn]; exact hb)
  have:=hS.inj _ _ (pick_lt hS hpk b (by rw [hpn]; exact hb)) (pick_lt (hS.setDefs []) hp b' hb') e
  exact meets_no hmeet _ h1.1 (this ▸ h2.1)
 have hrowO : ∀ q' R,look (withL (sx x0) (w.heap.size + 1) w.heap.size (recOf q0 none)).rows q' = some R → (∃ r2,look st.rows r2 = some R) ∨ ∀ k,R.uses k → w.heap.size ≤ k:=by
  intro q' R h1
  simp only [withL,look_app] at h1
  cases e : look (sx x0).rows q' with
  | some R'=>rw [e] at h1; cases h1; exact .inl (pick_row hp e)
  | none =>
   rw [e] at h1
   simp only [look] at h1
   split at h1
   ·cases h1; exact .inr (fun k hk=>Nat.le_of_eq (objRow_uses.1 hk))
   ·split at h1
    ·cases h1; exact .inr (fun k hk=>by have:=objRow_uses.1 hk; omega)
    ·cases h1
 have hdis : ∀ k,(domS (fun i=>ρ (hsO.getD i 0)) (withL (sx x0) (w.heap.size + 1) w.heap.size (recOf q0 none)) k ∨ (k < C.w0.heap.size ∧ ¬ C.S k)) → ∀ b,b < F.next → ρ (hs.getD b 0) ≠ k:=by
  rintro k ((⟨b',h1,rfl⟩ | ⟨q',R,h1,h2⟩ | ⟨p,h1,h2⟩) | ⟨h1,h2⟩) b hb
  ·exact hne b' h1 b hb
  ·rcases hrowO q' R h1 with ⟨r2,hR⟩ | h
   ·exact ((hS.rows r2 R hR).2.2 k h2).2.1 _ (pick_lt hS hpk b (by rw [hpn]; exact hb))
   ·have:=h k h2; have:=hρlt b hb; omega
  ·exact ((hS.pers p (pick_pers hp h1)).2.2 k h2).2.1 _ (pick_lt hS hpk b (by rw [hpn]; exact hb))
  ·intro e
   obtain ⟨blk,hblk⟩:=told_ok htold hb
   have hrw:=rwAll_ok hrwF hblk
   rw [← hph] at hblk
   obtain ⟨blk0,hb0,hb1⟩:=pick_blk hpk hblk
   rcases (hS.heap _ blk0 hb0).2.2.2 (by rw [← hb1]; exact hrw) with h | h
   ·omega
   ·rw [e] at h; exact h2 h
 have hpO : ∀ p ∈ F.pers,∀ k,p.D k → ¬ touch (fun i=>ρ (hsO.getD i 0)) (withL (sx x0) (w.heap.size + 1) w.heap.size (recOf q0 none)) k:=by
  intro p hpF k hD htk
  have hp3 : k < w.heap.size ∧ (∀ b,b < st.next → ρ b ≠ k) ∧ ∀ r R,look st.rows r = some R → R.own = true → ¬ R.uses k:=by
   rcases askP_mem (n0:=C.w0.heap.size) (S:=C.S) (l:=pi) p hpF with h1 | h1
   ·exact (hS.pers p (getP_mem hpi p h1)).2.2 k hD
   ·exact (hS.pers _ (getP_mem hpi _ h1)).2.2 k hD
  rcases htk with ⟨b,blk,h1,_,h3⟩ | ⟨q',R,h1,h2,h3⟩
  ·exact hp3.2.1 _ (pick_lt (hS.setDefs []) hp b (hO3.heap b blk h1).1) h3
  ·rcases hrowO q' R h1 with ⟨r2,hR⟩ | h
   ·exact hp3.2.2 r2 R hR h2 h3
   ·have:=h k h3; omega
 have hcalls:=hit (fun i=>ρ (hs.getD i 0)) w1 (w.heap.size + 1) Y
  (fun k=>domS (fun i=>ρ (hsO.getD i 0)) (withL (sx x0) (w.heap.size + 1) w.heap.size (recOf q0 none)) k ∨ (k < C.w0.heap.size ∧ ¬ C.S k)) (touch (fun i=>ρ (hsO.getD i 0)) (withL (sx x0) (w.heap.size + 1) w.heap.size (recOf q0 none)))
  hFS ⟨x0,_,hpre,hO3.toAs,fun k=>Iff.rfl,fun k=>Iff.rfl⟩ (fun k hk=>⟨hdis k hk,fun r R hR=>by
   have : F.rows = []:=List.isEmpty_iff.1 hrw0
   rw [this] at hR; cases hR⟩) hpO
 -- the call
 have hxs : evs st none (rangeCall g (w.heap.size + 1)).args.toList = some [.one (.val (.func (.yield (w.heap.size + 1)) #[] #[]))]:=rfl
 have hinv:=calleeS_sound (cl:=rangeCall g (w.heap.size + 1)) (t:=0) (P:=C.P) hS1.toP (GcOk.none st) hcal hxs (enters hen)
 have hren' : ys1.map (CV.den (fun i=>ρ (hs.getD i 0))) = caps.map (CV.den ρ):=by
  unfold pickSt at hpk
  split at hpk
  case h_2=>cases hpk
  rename_i sl hpp rows _ _ _ _ hrows
  have hRR : RowsRen rs st.W ⟨hs.length,rs.length,rows⟩:=by
   intro r' r R hr hl
   obtain ⟨r2,_,h2,h3⟩:=pickRows_ok hrows r' R hl
   simp only [Nat.sub_zero] at h2
   rw [hr] at h2
   cases h2
   exact h3
  exact (renC_ok (ρ:=ρ) (W:=st.W) (W':=⟨hs.length,rs.length,rows⟩) rfl rfl hRR hren).1
 have hargs : (([.one (.val (.func (.yield (w.heap.size + 1)) #[] #[]))] ++ caps : List CV).map (CV.den ρ)).toArray = #[Value.func (.yield (w.heap.size + 1)) #[] #[]] ++ (ys1.map (CV.den (fun i=>ρ (hs.getD i 0)))).toArray:=by
  rw [hren']
  apply Array.ext'
  simp [CV.den,SV.den]
 rw [hargs,Sem.run_bind] at hinv
 cases hres : (resolve a.eval (rangeCall g (w.heap.size + 1)) 0).run C.P w1 with
 | halt x w2=>rw [hres] at hinv; cases hinv
 | ok d w2 =>
  rw [hres] at hinv
  simp only [Result.andThen_ok] at hinv
  have he : (Instr.enterLoop b.fn a.tmps psT asg body b.roundOf).run C.P w = .ok (w.heap.size + 1,[{ target:=.collected w.heap.size,args:=#[] }]) w1:=by
   rw [hro,hr,hb,← hw1]
   exact run_enterLoop_outer C.f a.tmps psT asg body
  have henter:=stepR_rangeFunc (P:=C.P) (b:=b) (a:=a) (k:=k) (cs:=cs) (w:=w) he hres hinv
  obtain ⟨e,w3,fr,hR,hsteps,hfn,hleave⟩:=hcalls (b.atR { a with defers:=[{ target:=.collected w.heap.size,args:=#[] }] ++ a.defers } (.inRangeFunc (w.heap.size + 1) :: k) :: cs)
  obtain ⟨⟨v,rfl⟩,hos,htp,hout,O',Ow',hJ⟩:=hR
  rw [ha] at hsteps henter
  have sback : Steps C.P (lone (b.atR a (.code (.rangeFunc g psT asg body) :: k)) cs w) (lone (b.atR { a with defers:=[{ target:=.collected w.heap.size,args:=#[] }] ++ dfs } (.endRangeFunc (w.heap.size + 1) :: k)) cs w3):=by
   refine .head henter (Steps.trans hsteps (.one ?_))
   rw [← finish_atR_inRangeFunc (w.heap.size + 1) v]; exact step_leave_returned hleave
  have hw1os : w1.os = C.w0.os ∧ w1.tape = C.w0.tape ∧ w1.output = C.w0.output:=⟨hS1.chg.os,hS1.chg.tape,hS1.chg.output⟩
  have hdone : ∀ (x : ι) (ρ3 : Nat → Nat) (jump : Option Code) ,Sat C ρ3 (withL (sx x) (w.heap.size + 1) w.heap.size (recOf q0 jump)) { a with defers:=[] } (asW C.w0 w3) →
    (∀ q,V C ⟨(jump.map Item.code).toList ++ k,leftD (sx x) (w.heap.size + 1) w.heap.size q dfs⟩) → ∃ e w',C.R e w' ∧ Fin C (lone (b.atR a (.code (.rangeFunc g psT asg body) :: k)) cs w) cs e w':=by
   intro x ρ3 jump hS3 hV
   have hw3:=objAt (hsh.keys x) hS3
   have hbusy : (recOf q0 jump).state ≠ .busy:=by
    cases jump with
    | none=>intro h; cases h
    | some _=>intro h; cases h
   have hendL:=run_endLoop (P:=C.P) hw3 hbusy
   have hS4 : Sat C ρ3 (withL (sx x) (w.heap.size + 1) w.heap.size (recOf q0 jump)) { a with defers:=[] } w3:=hS3.move (fun _ _=>rfl) hS3.chg.size (hos.trans hw1os.1) (htp.trans hw1os.2.1) (hout.trans hw1os.2.2)
   have hS5:=Sat.putL (fx:=(sx x).fx) (keysLt_ok (hsh.keys x)) hS4 { recOf q0 jump with state:=.exhausted }
   have hS6:=hS5.setDefs ({ target:=.collected w.heap.size,args:=#[] } :: dfs)
   obtain ⟨e,w',h1,h2⟩:=hV _ ρ3 _ _ hS6 b hb hk hro cs hcs
   exact ⟨e,w',h1,h2.of_steps (Steps.trans sback (.one (stepR_endRangeFunc hendL)))⟩
  rcases hJ with ⟨x,ρ3,h1,h2,_⟩ | ⟨cd,x,ρ3,h1,h2,_⟩
  ·exact hdone x ρ3 none h2 (fun q=>hend x _ _ q h1)
  ·exact hdone x ρ3 (some cd) h2 (fun q=>hjump cd x _ _ q h1)
theorem V.rangeFcD {ι : Type} (sx : ι → St) {sl : List (Nat × RV)} {n nx fx : Nat} {ps : List Pers} (hsh : Shape sx sl n nx fx ps) (pre : Nat → ι → Prop) (prex : Code → ι → Prop) {N : Nat} (enc : Nat → List CV) {encV : Nat → Array Value}
  (henc : ∀ i ρ,((enc i).map (CV.den ρ)).toArray = encV i) (x0 : ι) (ks : List Nat) (pm : List Bool) (pi : List (Nat × Bool)) {c : Cfg} {gf : FuncId} {ys : List CV} {F : St} (hit : Iter C.P gf ys F N encV)
  (dfs : List Deferred) (hdd : c.st.defs = dfs)
  (ht : (isRf c && (C.round.isNone && entersB C.P gf)) = true) (hp : headK ks pm ⟨c.todo,{ c.st with defs:=[] }⟩ = some (sx x0)) (hpre : pre 0 x0)
  (hF : iterOf c (rfG c) = some (gf,ys,fragOf F)) (hFs : (apart ks c (rfG c) && (F.rows.isEmpty && (rwAll F.heap && told F.next F.heap))) = true) (hpi : getP pi c.st.pers = some (askP C.w0.heap.size C.S pi F.pers))
  (hsz : ∀ i,Nat.beq (enc i).length (rfPs c).size = true) (hpl : ∀ i,psOk n ((rfPs c).toList.zip (enc i)) = true)
  (hround : ∀ i x ρ W l r q,i < N → pre i x → V ⟨C.P,C.f,RoundR sx pre prex l r q i (withL (sx x) l r (recOf q none)) ρ W,touch ρ (withL (sx x) l r (recOf q none)),W,ρ,some l⟩
   ⟨[.code (rfAsg c),.beginRound,.code (rfBody c)],roundSt (withL (sx x) l r (recOf q none)) ((rfPs c).toList.zip (enc i))⟩)
  (hend : ∀ x l r q,pre N x → V C ⟨rfK c,leftD (sx x) l r q dfs⟩) (hjump : ∀ cd x l r q,prex cd x → V C ⟨.code cd :: rfK c,leftD (sx x) l r q dfs⟩) : V C c:=by
 obtain ⟨ht1,ht2,ht3⟩:=and3 ht
 have hr : C.round = none:=by simpa using ht2
 obtain ⟨todo,st⟩:=c
 unfold isRf at ht1
 split at ht1
 ·rename_i g ps asg body k he
  simp only at he
  subst he
  exact V.rangeFD sx hsh pre prex enc henc x0 ks pm pi dfs hdd rfl hr hp hpre hit ht3 hF hFs hpi (fun i=>(beq_iff _ _).1 (hsz i)) hpl hround hend hjump
 ·cases ht1
def dfQ (n0 : Nat) (S : Nat → Prop) (ds : List Nat) : Pers:=⟨fun k=>k ∈ ds,fun w=>ds.Nodup ∧ (∀ r ∈ ds,w.heap[r]? = some (.deferred (some []))) ∧ ∀ r ∈ ds,n0 ≤ r ∨ S r⟩
def dropObj : List (Nat × Row) → List (Nat × Row)
 | []=>[]
 | (k,R) :: l=>match R.obj.isSome with
  | true=>(dropObj l).filter fun p=>!Nat.beq p.1 k
  | false=>(k,R) :: dropObj l
theorem look_dropObj : ∀ (l : List (Nat × Row)) (j : Nat) (R : Row),look (dropObj l) j = some R → look l j = some R
 | [],j,R,h=>by cases h
 | (i,Q) :: l,j,R,h=>by
  simp only [dropObj] at h
  split at h
  ·obtain ⟨h1,h2⟩:=look_filt _ _ _ _ h
   have:=look_dropObj l j R h1
   simp only [look]
   split
   ·rename_i e2
    exact absurd ((beq_iff _ _).1 e2).symm h2
   ·exact this
  ·simp only [look] at h ⊢
   split at h
   ·exact h
   ·exact look_dropObj l j R h
theorem V.dfQ0 {c : Cfg} (h : V C ⟨c.todo,{ c.st with pers:=dfQ C.w0.heap.size C.S [] :: c.st.pers }⟩) : V C c:=by
 intro ρ a w hS
 refine h ρ a w ⟨hS.n,hS.slots,hS.grds,hS.heap,hS.inj,hS.lt,hS.defers,hS.chg,hS.rows,hS.rowsD,fun p hp=>?_,hS.fix⟩
 rcases List.mem_cons.1 hp with rfl | hp
 ·exact ⟨⟨List.nodup_nil,fun r hr=>absurd hr List.not_mem_nil,fun r hr=>absurd hr List.not_mem_nil⟩,fun w' _=>⟨List.nodup_nil,fun r hr=>absurd hr List.not_mem_nil,fun r hr=>absurd hr List.not_mem_nil⟩,fun k hk=>absurd hk List.not_mem_nil⟩
 ·exact hS.pers p hp
theorem look_dropObj2 : ∀ (l : List (Nat × Row)) (j : Nat) (R : Row),look (dropObj l) j = some R → R.obj = none
 | [],j,R,h=>by cases h
 | (i,Q) :: l,j,R,h=>by
  simp only [dropObj] at h
  split at h
  ·exact look_dropObj2 l j R (look_filt _ _ _ _ h).1
  ·rename_i ho
   simp only [look] at h
   split at h
   ·cases h
    cases e : Q.obj with
    | none=>rfl
    | some o=>rw [e] at ho; cases ho
   ·exact look_dropObj2 l j R h
theorem V.defP (i r : Nat) (ds : List Nat) (ps : List Pers) {c : Cfg} (hi : look c.st.rows i = some (objD r)) (hp : c.st.pers = dfQ C.w0.heap.size C.S ds :: ps)
  (h : V C ⟨c.todo,{ c.st with rows:=dropObj c.st.rows,pers:=dfQ C.w0.heap.size C.S (r :: ds) :: ps }⟩) : V C c:=by
 intro ρ a w hS
 obtain ⟨_,hok,k2⟩:=hS.rows i _ hi
 have hw : w.heap[r]? = some (.deferred (some [])):=by
  obtain ⟨g,h1,h2⟩:=hok.obj _ rfl
  cases h1
  exact h2
 obtain ⟨m1,m2,m3⟩:=k2 r (objRow_uses.2 rfl)
 obtain ⟨⟨d1,d2,d3⟩,_,d4⟩:=hS.pers (dfQ C.w0.heap.size C.S ds) (by rw [hp]; exact List.mem_cons_self ..)
 have hnd : r ∉ ds:=fun hm=>(d4 r hm).2.2 i _ hi rfl (objRow_uses.2 rfl)
 have hsh : c.st.W.sh ⟨c.st.next,c.st.nr,dropObj c.st.rows⟩:=⟨Nat.le_refl _,Nat.le_refl _,fun q _ R hR=>⟨R,look_dropObj _ _ _ hR,rfl,rfl,rfl,rfl⟩⟩
 refine h ρ a w ⟨hS.n,fun j v hv=>⟨(hS.slots j v hv).1,RV.wf_sh hsh v (hS.slots j v hv).2⟩,hS.grds,fun b blk hb=>?_,hS.inj,hS.lt,hS.defers,hS.chg,fun q R hR=>hS.rows q R (look_dropObj _ _ _ hR),fun q q' R R' h1 h2=>hS.rowsD q q' R R' (look_dropObj _ _ _ h1) (look_dropObj _ _ _ h2),fun p hp'=>?_,hS.fix⟩
 ·obtain ⟨h1,h2,h3,h4⟩:=hS.heap b blk hb
  exact ⟨h1,h2,fun x hx=>SV.wf_sh hsh x (h3 x hx),h4⟩
 ·rcases List.mem_cons.1 hp' with rfl | hp'
  ·refine ⟨⟨List.nodup_cons.2 ⟨hnd,d1⟩,fun r' hr'=>?_,fun r' hr'=>?_⟩,fun w' hw'=>⟨List.nodup_cons.2 ⟨hnd,d1⟩,fun r' hr'=>(hw' r' hr').trans ?_,fun r' hr'=>?_⟩,fun k hk=>?_⟩
   ·rcases List.mem_cons.1 hr' with rfl | hr'
    ·exact hw
    ·exact d2 r' hr'
   ·rcases List.mem_cons.1 hr' with rfl | hr'
    ·exact m3 rfl
    ·exact d3 r' hr'
   ·rcases List.mem_cons.1 hr' with rfl | hr'
    ·exact hw
    ·exact d2 r' hr'
   ·rcases List.mem_cons.1 hr' with rfl | hr'
    ·exact m3 rfl
    ·exact d3 r' hr'
   ·have hk' : k = r ∨ k ∈ ds:=List.mem_cons.1 hk
    rcases hk' with rfl | hk'
    ·refine ⟨m1,m2,fun q R hR ho hu=>?_⟩
     have hR':=look_dropObj _ _ _ hR
     have hne : i ≠ q:=fun e=>by
      subst e
      rw [hi] at hR'
      cases hR'
      have:=look_dropObj2 _ _ _ hR
      cases this
     exact hS.rowsD i q _ R hi hR' hne rfl k (objRow_uses.2 rfl) hu
    ·exact ⟨(d4 k hk').1,(d4 k hk').2.1,fun q R hR=>(d4 k hk').2.2 q R (look_dropObj _ _ _ hR)⟩
  ·obtain ⟨q1,q2,q3⟩:=hS.pers p (by rw [hp]; exact List.mem_cons_of_mem _ hp')
   exact ⟨q1,q2,fun k hk=>⟨(q3 k hk).1,(q3 k hk).2.1,fun q R hR=>(q3 k hk).2.2 q R (look_dropObj _ _ _ hR)⟩⟩
theorem collStepsZ {P : Program} : ∀ (ds : List Nat) (fr : Frame) (cs : List Frame) (w : World),fr.mode ≠ .run → fr.defers = collL ds → ds.Nodup → (∀ r ∈ ds,w.heap[r]? = some (.deferred (some []))) →
  ∃ w',Steps P (lone fr cs w) (lone { fr with defers:=[] } cs w') ∧ w'.os = w.os ∧ w'.tape = w.tape ∧ w'.output = w.output ∧ w'.heap.size = w.heap.size ∧ ∀ k,k ∉ ds → w'.heap[k]? = w.heap[k]?
 | [],fr,cs,w,_,hd,_,_=>by
  refine ⟨w,?_,rfl,rfl,rfl,rfl,fun _ _=>rfl⟩
  have : ({ fr with defers:=[] } : Frame) = fr:=by
   cases fr; simp only at hd; subst hd; rfl
  rw [this]
  exact Steps.refl P _
 | r :: ds,fr,cs,w,hm,hd,hnd,hw=>by
  have hr:=hw r (List.mem_cons_self ..)
  have h1:=step_collected (P:=P) (cs:=cs) (d:=⟨.collected r,#[]⟩) (ds:=collL ds) hm hd rfl (run_takeDeferred hr)
  obtain ⟨hnr,hnd'⟩:=List.nodup_cons.1 hnd
  have hother : ∀ k,r ≠ k → (w.putObj r (.deferred none)).heap[k]? = w.heap[k]?:=fun k hk=>setBlock_other w r k _ hk
  obtain ⟨w',h2,e1,e2,e3,e5,e4⟩:=collStepsZ (P:=P) ds { fr with defers:=[] ++ collL ds } cs (w.putObj r (.deferred none)) hm (by simp) hnd' (fun r' hr'=>(hother r' (fun e=>hnr (e ▸ hr'))).trans (hw r' (List.mem_cons_of_mem _ hr')))
  refine ⟨w',.head h1 h2,e1,e2,e3,e5.trans (by simp [World.putObj]),fun k hk=>(e4 k (fun h=>hk (List.mem_cons_of_mem _ h))).trans (hother k (fun e=>hk (e ▸ List.mem_cons_self ..)))⟩
theorem V.retDs (ds : List Nat) (ps : List Pers) {c : Cfg} (he : isEnd c.todo = true) (hr : C.round = none) (hno : ∀ e w,C.R e w → ∃ v,e = .returned v) (hd : c.st.defs = collL ds) (hp : c.st.pers = dfQ C.w0.heap.size C.S ds :: ps) (hrows : ownAll c.st.rows = true)
  (h : V C ⟨c.todo,{ c.st with defs:=[],pers:=[] }⟩) : V C c:=by
 intro ρ a w hS b hb hk hro cs hcs
 obtain ⟨⟨d1,d2,d3⟩,_,d4⟩:=hS.pers (dfQ C.w0.heap.size C.S ds) (by rw [hp]; exact List.mem_cons_self ..)
 have hro' : b.roundOf = none:=hro.trans hr
 obtain ⟨todo,st⟩:=c
 simp only at he hd hp hrows hS h d4
 have hst : ∀ a w,Go.step C.P (lone (b.atR a todo) cs w) = .next (lone { b.atR a todo with mode:=.returning } cs w):=by
  intro a w
  unfold isEnd at he
  split at he
  ·exact stepR_end hro'
  ·exact stepR_ret hro'
  ·cases he
 have hda : a.defers = collL ds:=hS.defers.trans hd
 obtain ⟨w',s2,e1,e2,e3,e5,e4⟩:=collStepsZ (P:=C.P) ds { b.atR a todo with mode:=.returning } cs w (by simp) hda d1 d2
 have hnD : ∀ b,b < st.next → ρ b ∉ ds:=fun b hb hm=>(d4 _ hm).2.1 b hb rfl
 have hrD : ∀ q R,look st.rows q = some R → ∀ k,R.uses k → k ∉ ds:=fun q R hR k hu hm=>(d4 k hm).2.2 q R hR (ownAll_ok hrows hR) hu
 have hS1 : Sat C ρ { st with defs:=[],pers:=[] } { a with defers:=[] } w':=by
  refine ⟨hS.n,hS.slots,hS.grds,fun b blk hb=>?_,hS.inj,fun b hb=>by rw [e5]; exact hS.lt b hb,rfl,?_,fun q R hR=>?_,hS.rowsD,fun p hp=>absurd hp List.not_mem_nil,hS.fix⟩
  ·obtain ⟨h1,h2,h3,h4⟩:=hS.heap b blk hb
   exact ⟨h1,(e4 _ (hnD b h1)).trans h2,h3,h4⟩
  ·refine ⟨e1.trans hS.chg.os,e2.trans hS.chg.tape,e3.trans hS.chg.output,by rw [e5]; exact hS.chg.size,fun k h1 h2=>(e4 k (fun hm=>?_)).trans (hS.chg.block k h1 h2)⟩
   rcases d3 k hm with h | h
   ·omega
   ·exact h2 h
  ·obtain ⟨h1,h2,h3⟩:=hS.rows q R hR
   exact ⟨h1,h2.congr (fun k hu=>e4 k (hrD q R hR k hu)),fun k hu=>⟨by rw [e5]; exact (h3 k hu).1,(h3 k hu).2⟩⟩
 obtain ⟨e,w'',h1,h2⟩:=h ρ _ _ hS1 b hb hk hro cs hcs
 obtain ⟨v,rfl⟩:=hno _ _ h1
 refine ⟨_,w'',h1,?_⟩
 unfold Fin at h2 ⊢
 rw [hr] at h2 ⊢
 obtain ⟨fr,k1,k2,k3⟩:=h2
 refine ⟨fr,?_,k2,k3⟩
 have k1' : Steps C.P _ _:=Steps.tail k1 (hst _ _) (fun e=>by
  have h0:=k3.1
  have h2 : (b.atR { a with defers:=[] } todo) = fr:=by simp [lone] at e; exact e.2
  rw [← h2] at h0
  cases h0)
 exact Steps.trans (.one (hst a w)) (Steps.trans s2 k1')
end
end Go.SX
end
section
namespace Go.SX
open Go
def idxN : List Nat → Nat → Nat → Option Nat
 | [],_,_=>none
 | a :: l,i,b=>match Nat.beq a b with
  | true=>some i
  | false=>idxN l (i + 1) b
theorem idxN_ok : ∀ {l : List Nat} {i b j : Nat},idxN l i b = some j → i ≤ j ∧ j < i + l.length ∧ l.getD (j - i) 0 = b
 | a :: l,i,b,j,h=>by
  simp only [idxN] at h
  split at h
  ·rename_i e
   cases h
   have:=(beq_iff _ _).1 e
   exact ⟨Nat.le_refl _,by simp,by simp [this]⟩
  ·obtain ⟨h1,h2,h3⟩:=idxN_ok h
   refine ⟨by omega,by simp only [List.length_cons]; omega,?_⟩
   have : j - i = (j - (i + 1)) + 1:=by omega
   rw [this]
   simpa using h3
def idxAll (hs : List Nat) : List Nat → Option (List Nat)
 | []=>some []
 | b :: l=>match idxN hs 0 b,idxAll hs l with
  | some i,some m=>some (i :: m)
  | _,_=>none
def mapS (γ : Nat → Nat) (hs : List Nat) : SV → Option SV
 | .ptr b o=>match idxN hs 0 b with
  | some i=>some (.ptr i o)
  | none=>some (.val (.pointer (some ⟨γ b,o,none⟩)))
 | .sli b n c=>match idxN hs 0 b with
  | some i=>some (.sli i n c)
  | none=>some (.val (.slice (some ⟨γ b,0,none⟩) n c))
 | .fn f cap=>match idxAll hs cap with
  | some l=>some (.fn f l)
  | none=>none
 | x=>some x
def renN (ρ : Nat → Nat) (hs : List Nat) (i : Nat) : Nat:=ρ (hs.getD i 0)
theorem idxN_ren {ρ : Nat → Nat} {hs : List Nat} {b i : Nat} (h : idxN hs 0 b = some i) : renN ρ hs i = ρ b ∧ i < hs.length:=by
 obtain ⟨_,h2,h3⟩:=idxN_ok h
 exact ⟨by unfold renN; rw [show i = i - 0 from rfl,h3],by omega⟩
theorem idxAll_ren {ρ : Nat → Nat} {hs : List Nat} : ∀ {l m : List Nat},idxAll hs l = some m → m.map (renN ρ hs) = l.map ρ ∧ ∀ i ∈ m,i < hs.length
 | [],m,h=>by cases h; exact ⟨rfl,fun i hi=>absurd hi List.not_mem_nil⟩
 | b :: l,m,h=>by
  simp only [idxAll] at h
  split at h
  ·rename_i i m' h1 h2
   cases h
   obtain ⟨k1,k2⟩:=idxN_ren (ρ:=ρ) h1
   obtain ⟨k3,k4⟩:=idxAll_ren (ρ:=ρ) h2
   exact ⟨by simp [k1,k3],fun i hi=>by
    rcases List.mem_cons.1 hi with rfl | hi
    ·exact k2
    ·exact k4 i hi⟩
  ·cases h
theorem mapS_ok {ρ : Nat → Nat} {hs : List Nat} {x y : SV} (h : mapS ρ hs x = some y) {W : WF} (hx : x.wf W) : y.den (renN ρ hs) = x.den ρ ∧ y.wf ⟨hs.length,W.nr,W.rows⟩:=by
 cases x with
 | ptr b o =>
  simp only [mapS] at h
  split at h
  ·rename_i i hi
   cases h
   obtain ⟨k1,k2⟩:=idxN_ren (ρ:=ρ) hi
   exact ⟨by simp only [SV.den]; rw [k1],k2⟩
  ·cases h; exact ⟨rfl,trivial⟩
 | sli b n c =>
  simp only [mapS] at h
  split at h
  ·rename_i i hi
   cases h
   obtain ⟨k1,k2⟩:=idxN_ren (ρ:=ρ) hi
   exact ⟨by simp only [SV.den]; rw [k1],k2⟩
  ·cases h; exact ⟨rfl,trivial⟩
 | fn f cap =>
  simp only [mapS] at h
  split at h
  ·rename_i l hl
   cases h
   obtain ⟨k1,k2⟩:=idxAll_ren (ρ:=ρ) hl
   refine ⟨?_,k2⟩
   simp only [SV.den]
   have : l.map (fun b=>Value.pointer (some ⟨renN ρ hs b,0,none⟩)) = cap.map (fun b=>Value.pointer (some ⟨ρ b,0,none⟩)):=by
    have:=congrArg (List.map (fun b=>Value.pointer (some ⟨b,0,none⟩))) k1
    rw [List.map_map,List.map_map] at this
    exact this
   rw [this]
  ·cases h
 | _=>cases h; exact ⟨rfl,hx⟩
def mapSs (γ : Nat → Nat) (hs : List Nat) : List SV → Option (List SV)
 | []=>some []
 | x :: l=>match mapS γ hs x,mapSs γ hs l with
  | some y,some m=>some (y :: m)
  | _,_=>none
theorem mapSs_ok {ρ : Nat → Nat} {hs : List Nat} {W : WF} : ∀ {l m : List SV},mapSs ρ hs l = some m → (∀ x ∈ l,x.wf W) → m.map (SV.den (renN ρ hs)) = l.map (SV.den ρ) ∧ ∀ y ∈ m,y.wf ⟨hs.length,W.nr,W.rows⟩
 | [],m,h,_=>by cases h; exact ⟨rfl,fun y hy=>absurd hy List.not_mem_nil⟩
 | x :: l,m,h,hx=>by
  simp only [mapSs] at h
  split at h
  ·rename_i y m' h1 h2
   cases h
   obtain ⟨k1,k2⟩:=mapS_ok h1 (hx x (List.mem_cons_self ..))
   obtain ⟨k3,k4⟩:=mapSs_ok h2 (fun z hz=>hx z (List.mem_cons_of_mem _ hz))
   exact ⟨by simp [k1,k3],fun z hz=>by
    rcases List.mem_cons.1 hz with rfl | hz
    ·exact k2
    ·exact k4 z hz⟩
  ·cases h
def mapC (γ : Nat → Nat) (hs : List Nat) : CV → Option CV
 | .one x=>(mapS γ hs x).map .one
 | .agg xs=>(mapSs γ hs xs).map .agg
theorem mapC_ok {ρ : Nat → Nat} {hs : List Nat} {W : WF} {x y : CV} (h : mapC ρ hs x = some y) (hx : x.wf W) : y.den (renN ρ hs) = x.den ρ ∧ y.wf ⟨hs.length,W.nr,W.rows⟩:=by
 cases x with
 | one x =>
  simp only [mapC,Option.map_eq_some_iff] at h
  obtain ⟨z,h1,rfl⟩:=h
  exact mapS_ok h1 hx
 | agg xs =>
  simp only [mapC,Option.map_eq_some_iff] at h
  obtain ⟨z,h1,rfl⟩:=h
  obtain ⟨k1,k2⟩:=mapSs_ok h1 hx
  exact ⟨by simp only [CV.den]; rw [k1],k2⟩
def mapSl (γ : Nat → Nat) (hs : List Nat) : List (Nat × RV) → List (Nat × RV)
 | []=>[]
 | (k,v) :: l=>match v with
  | .v x=>match mapC γ hs x with
   | some y=>(k,.v y) :: mapSl γ hs l
   | none=>delK k (mapSl γ hs l)
  | _=>delK k (mapSl γ hs l)
theorem look_mapSl {γ : Nat → Nat} {hs : List Nat} : ∀ (l : List (Nat × RV)) (k : Nat) (v : RV),look (mapSl γ hs l) k = some v → ∃ x y,look l k = some (.v x) ∧ mapC γ hs x = some y ∧ v = .v y
 | [],k,v,h=>by cases h
 | (j,u) :: l,k,v,h=>by
  have hdel : look (delK j (mapSl γ hs l)) k = some v → ∃ x y,look ((j,u) :: l) k = some (.v x) ∧ mapC γ hs x = some y ∧ v = .v y:=fun h=>by
   obtain ⟨h1,h2⟩:=look_delK h
   obtain ⟨x,y,h3,h4⟩:=look_mapSl l k v h1
   refine ⟨x,y,?_,h4⟩
   simp only [look]
   split
   ·rename_i e; exact absurd ((beq_iff _ _).1 e).symm h2
   ·exact h3
  cases u with
  | v x =>
   simp only [mapSl] at h
   split at h
   ·rename_i y hy
    simp only [look] at h ⊢
    split at h
    ·cases h; exact ⟨x,y,rfl,hy,rfl⟩
    ·exact look_mapSl l k v h
   ·exact hdel h
  | tup x=>exact hdel h
  | grd g p c x=>exact hdel h
def mapH (γ : Nat → Nat) (hs : List Nat) (hp : List (Nat × Blk)) : List Nat → Nat → Option (List (Nat × Blk))
 | [],_=>some []
 | b :: l,i=>match look hp b with
  | some blk=>match mapSs γ hs blk.cells,mapH γ hs hp l (i + 1) with
   | some cs,some m=>some ((i,⟨cs,blk.elem,blk.rw⟩) :: m)
   | _,_=>none
  | none=>none
theorem mapH_ok {γ : Nat → Nat} {hs : List Nat} {hp : List (Nat × Blk)} : ∀ {l : List Nat} {i : Nat} {m : List (Nat × Blk)},mapH γ hs hp l i = some m →
  (∀ b ∈ l,∃ blk,look hp b = some blk) ∧ ∀ j blk,look m j = some blk → i ≤ j ∧ j < i + l.length ∧ ∃ blk0,look hp (l.getD (j - i) 0) = some blk0 ∧ mapSs γ hs blk0.cells = some blk.cells ∧ blk.elem = blk0.elem ∧ blk.rw = blk0.rw
 | [],i,m,h=>by cases h; exact ⟨fun b hb=>absurd hb List.not_mem_nil,fun j blk h=>by cases h⟩
 | b :: l,i,m,h=>by
  simp only [mapH] at h
  split at h
  ·rename_i blk hb
   split at h
   ·rename_i cs m' h1 h2
    cases h
    obtain ⟨k1,k2⟩:=mapH_ok h2
    refine ⟨fun b' hb'=>?_,fun j blk' hj=>?_⟩
    ·rcases List.mem_cons.1 hb' with rfl | hb'
     ·exact ⟨blk,hb⟩
     ·exact k1 b' hb'
    ·simp only [look] at hj
     split at hj
     ·rename_i e
      cases hj
      have:=(beq_iff _ _).1 e
      subst this
      exact ⟨Nat.le_refl _,by simp,blk,by simpa using hb,h1,rfl,rfl⟩
     ·obtain ⟨m1,m2,blk0,m3,m4⟩:=k2 j blk' hj
      refine ⟨by omega,by simp only [List.length_cons]; omega,blk0,?_,m4⟩
      have : j - i = (j - (i + 1)) + 1:=by omega
      rw [this]
      simpa using m3
   ·cases h
  ·cases h
def factsB (γ : Nat → Nat) (hp : List (Nat × Blk)) : List Nat → Option (List Row)
 | []=>some []
 | b :: l=>match look hp b with
  | some blk=>match blk.cells.all plainB,factsB γ hp l with
   | true,some m=>some (cellR blk.cells (γ b) blk.elem :: m)
   | _,_=>none
  | none=>none
theorem factsB_mem {γ : Nat → Nat} {hp : List (Nat × Blk)} : ∀ {l : List Nat} {m : List Row} {R : Row},factsB γ hp l = some m → R ∈ m → ∃ b blk,b ∈ l ∧ look hp b = some blk ∧ blk.cells.all plainB = true ∧ R = cellR blk.cells (γ b) blk.elem
 | [],m,R,h,hR=>by cases h; exact absurd hR List.not_mem_nil
 | b :: l,m,R,h,hR=>by
  simp only [factsB] at h
  split at h
  ·rename_i blk hb
   split at h
   ·rename_i m' h1 h2
    cases h
    rcases List.mem_cons.1 hR with rfl | hR
    ·exact ⟨b,blk,List.mem_cons_self ..,hb,h1,rfl⟩
    ·obtain ⟨b',blk',k1,k2⟩:=factsB_mem h2 hR
     exact ⟨b',blk',List.mem_cons_of_mem _ k1,k2⟩
   ·cases h
  ·cases h
def nodupN : List Nat → Bool
 | []=>true
 | b :: l=>match hasNat l b with
  | true=>false
  | false=>nodupN l
theorem hasNat_memB : ∀ {l : List Nat} {b : Nat},b ∈ l → hasNat l b = true
 | a :: l,b,h=>by
  simp only [hasNat]
  split
  ·rfl
  ·rename_i e
   rcases List.mem_cons.1 h with rfl | h
   ·rw [Nat.beq_refl] at e; cases e
   ·exact hasNat_memB h
theorem nodupN_ok : ∀ {l : List Nat},nodupN l = true → l.Nodup
 | [],_=>List.nodup_nil
 | b :: l,h=>by
  simp only [nodupN] at h
  split at h
  ·cases h
  ·rename_i e
   exact List.nodup_cons.2 ⟨fun hm=>(by rw [hasNat_memB hm] at e; cases e),nodupN_ok h⟩
def absSt (γ : Nat → Nat) (bs hs : List Nat) (s : St) : Option St :=
 match mapH γ hs s.heap hs 0,factsB γ s.heap bs,nodupN (bs ++ hs) with
 | some hp,some fs,true=>some { s with slots:=mapSl γ hs s.slots,gs:=[],heap:=hp,next:=hs.length,fx:=0,pers:=fs.map rowP ++ s.pers }
 | _,_,_=>none
theorem V.absP {C : Ctx} (bs hs : List Nat) (st : (Nat → Nat) → St) {c : Cfg} (hst : ∀ γ,absSt γ bs hs c.st = some (st γ)) (h : ∀ γ,V C ⟨c.todo,st γ⟩) : V C c:=by
 intro ρ a w hS
 have h0:=hst ρ
 unfold absSt at h0
 split at h0
 case h_2=>cases h0
 rename_i hp fs hhp hfs hnd
 have h0:=Option.some.inj h0
 have hndL:=nodupN_ok hnd
 obtain ⟨nd1,nd2,nd3⟩:=List.nodup_append.1 hndL
 obtain ⟨hlook,hheap⟩:=mapH_ok hhp
 have hget : ∀ i,i < hs.length → hs.getD i 0 ∈ hs:=fun i hi=>by simp [List.getD,List.getElem?_eq_getElem hi]
 have hlt : ∀ i,i < hs.length → hs.getD i 0 < c.st.next:=fun i hi=>by
  obtain ⟨blk,hb⟩:=hlook _ (hget i hi)
  exact (hS.heap _ blk hb).1
 have hinj : ∀ i j,i < hs.length → j < hs.length → hs.getD i 0 = hs.getD j 0 → i = j:=fun i j hi hj e=>by
  simp only [List.getD,List.getElem?_eq_getElem hi,List.getElem?_eq_getElem hj,Option.getD_some] at e
  exact (List.getElem_inj nd2).1 e
 refine h ρ (renN ρ hs) a w ?_
 rw [← h0]
 refine ⟨hS.n,?_,?_,?_,fun i j hi hj e=>hinj i j hi hj (hS.inj _ _ (hlt i hi) (hlt j hj) e),fun i hi=>hS.lt _ (hlt i hi),hS.defers,hS.chg,fun r R hR=>?_,hS.rowsD,fun p hp'=>?_,fun b hb=>absurd hb (Nat.not_lt_zero _)⟩
 ·intro j v hv
  obtain ⟨x,y,h1,h2,rfl⟩:=look_mapSl _ _ _ hv
  obtain ⟨k1,k2⟩:=hS.slots j _ h1
  obtain ⟨m1,m2⟩:=mapC_ok h2 k2
  exact ⟨by show _ = some (y.den _); rw [m1]; exact k1,m2⟩
 ·intro j g pol cc x hv
  obtain ⟨x,y,h1,h2,h3⟩:=look_mapSl _ _ _ hv
  cases h3
 ·intro j blk hb
  obtain ⟨h1,h2,blk0,h3,h4,h5,h6⟩:=hheap j blk hb
  have hj : j < hs.length:=by omega
  simp only [Nat.sub_zero] at h3
  obtain ⟨k1,k2,k3,k4⟩:=hS.heap _ blk0 h3
  obtain ⟨m1,m2⟩:=mapSs_ok h4 k3
  refine ⟨hj,?_,m2,fun hrw=>k4 (by rw [← h6]; exact hrw)⟩
  show w.heap[ρ (hs.getD j 0)]? = _
  rw [k2,m1,h5]
 ·obtain ⟨k0,k1,k2⟩:=hS.rows r R hR
  exact ⟨k0,k1,fun k hk=>⟨(k2 k hk).1,fun b hb=>(k2 k hk).2.1 _ (hlt b hb),(k2 k hk).2.2⟩⟩
 ·rcases List.mem_append.1 hp' with hp' | hp'
  ·obtain ⟨R,hR,rfl⟩:=List.mem_map.1 hp'
   obtain ⟨b,blk,h1,h2,h3,rfl⟩:=factsB_mem hfs hR
   obtain ⟨k1,k2,k3,k4⟩:=hS.heap b blk h2
   have hpy : ∀ y ∈ blk.cells,y.plain:=fun y hy=>plainB_ok (List.all_eq_true.1 h3 y hy)
   have hφ : w.heap[ρ b]? = some (.cells ((([()] : List Unit).flatMap fun _=>blk.cells).map SV.den0).toArray blk.elem (0,0)):=by
    rw [k2]
    have e1 : (([()] : List Unit).flatMap fun _=>blk.cells) = blk.cells:=by simp
    have e2 : blk.cells.map (SV.den ρ) = blk.cells.map SV.den0:=List.map_congr_left fun y hy=>SV.plain_den (hpy y hy) _
    rw [e1,← e2]
   have hok : (cellR blk.cells (ρ b) blk.elem).ok w:=rowL_ok (own:=false) (d:=()) (l:=[()]) hφ (fun _=>rfl) (fun _=>hpy) (by decide)
   refine ⟨hok,fun w' hw=>hok.congr hw,fun k hk=>?_⟩
   have hk':=cellM_uses hk
   subst hk'
   refine ⟨hS.lt b k1,fun j hj e=>?_,fun r R hR _ hu=>((hS.rows r R hR).2.2 _ hu).2.1 b k1 rfl⟩
   have:=hS.inj _ _ (hlt j hj) k1 e
   exact nd3 b h1 _ (hget j hj) this.symm
  ·obtain ⟨q1,q2,q3⟩:=hS.pers p hp'
   exact ⟨q1,q2,fun k hk=>⟨(q3 k hk).1,fun b hb=>(q3 k hk).2.1 _ (hlt b hb),(q3 k hk).2.2⟩⟩
end Go.SX
end
section
namespace Go.SX
open Go
noncomputable def hdD (ks : List Nat) (pm : List Bool) (c : Cfg) : St:=(headK ks pm ⟨c.todo,{ c.st with defs:=[] }⟩).getD c.st
def setH (s : St) (h : List (Nat × Blk)) : St:={ s with heap:=h }
theorem V.rangeFcE {C : Ctx} {ι : Type} (g : ι → List (Nat × Blk) → List (Nat × Blk)) (pre : Nat → ι → Prop) {N : Nat} (enc : Nat → List CV) {encV : Nat → Array Value}
  (henc : ∀ i ρ,((enc i).map (CV.den ρ)).toArray = encV i) (x0 : ι) (ks : List Nat) (pm : List Bool) (pi : List (Nat × Bool)) {c : Cfg} {gf : FuncId} {ys : List CV} {F : St} (hit : Iter C.P gf ys F N encV)
  (dfs : List Deferred) (hdd : c.st.defs = dfs)
  (ht : (isRf c && (C.round.isNone && entersB C.P gf)) = true) (hh : (headK ks pm ⟨c.todo,{ c.st with defs:=[] }⟩).isSome = true) (hg : g x0 (hdD ks pm c).heap = (hdD ks pm c).heap)
  (hok : ((hdD ks pm c).gs.isEmpty && ((hdD ks pm c).defs.isEmpty && keysLt (hdD ks pm c).nr (hdD ks pm c).rows)) = true) (hpre : pre 0 x0)
  (hF : iterOf c (rfG c) = some (gf,ys,fragOf F)) (hFs : (apart ks c (rfG c) && (F.rows.isEmpty && (rwAll F.heap && told F.next F.heap))) = true) (hpi : getP pi c.st.pers = some (askP C.w0.heap.size C.S pi F.pers))
  (hsz : ∀ i,Nat.beq (enc i).length (rfPs c).size = true) (hpl : ∀ i,psOk (hdD ks pm c).n ((rfPs c).toList.zip (enc i)) = true)
  (hround : ∀ i x ρ W l r q,i < N → pre i x → V ⟨C.P,C.f,RoundR (fun x=>setH (hdD ks pm c) (g x (hdD ks pm c).heap)) pre (fun _ _=>False) l r q i (withL (setH (hdD ks pm c) (g x (hdD ks pm c).heap)) l r (recOf q none)) ρ W,touch ρ (withL (setH (hdD ks pm c) (g x (hdD ks pm c).heap)) l r (recOf q none)),W,ρ,some l⟩
   ⟨[.code (rfAsg c),.beginRound,.code (rfBody c)],roundSt (withL (setH (hdD ks pm c) (g x (hdD ks pm c).heap)) l r (recOf q none)) ((rfPs c).toList.zip (enc i))⟩)
  (hend : ∀ x l r q,pre N x → V C ⟨rfK c,leftD (setH (hdD ks pm c) (g x (hdD ks pm c).heap)) l r q dfs⟩) : V C c:=by
 simp only [Bool.and_eq_true,List.isEmpty_iff] at hok
 obtain ⟨k1,k2,k3⟩:=hok
 refine V.rangeFcD (fun x=>setH (hdD ks pm c) (g x (hdD ks pm c).heap)) (sl:=(hdD ks pm c).slots) (n:=(hdD ks pm c).n) (nx:=(hdD ks pm c).next) (fx:=(hdD ks pm c).fx) (ps:=(hdD ks pm c).pers)
  ⟨fun _=>rfl,fun _=>rfl,fun _=>rfl,fun _=>rfl,fun _=>rfl,fun _=>k1,fun _=>k2,fun _=>k3⟩ pre (fun _ _=>False) enc henc x0 ks pm pi hit dfs hdd ht ?_ hpre hF hFs hpi hsz hpl hround hend (fun cd x l r q hx=>hx.elim)
 show _ = some (setH (hdD ks pm c) (g x0 (hdD ks pm c).heap))
 rw [hg]
 unfold hdD
 cases e : headK ks pm ⟨c.todo,{ c.st with defs:=[] }⟩ with
 | none=>rw [e] at hh; cases hh
 | some s=>rfl
noncomputable def absD (γ : Nat → Nat) (bs hs : List Nat) (s : St) : St:=(absSt γ bs hs s).getD s
theorem V.absPc {C : Ctx} (bs hs : List Nat) {c : Cfg} (hst : ∀ γ,(absSt γ bs hs c.st).isSome = true) (h : ∀ γ,V C ⟨c.todo,absD γ bs hs c.st⟩) : V C c :=
 V.absP bs hs (fun γ=>absD γ bs hs c.st) (fun γ=>by
  unfold absD
  have:=hst γ
  cases e : absSt γ bs hs c.st with
  | none=>rw [e] at this; cases this
  | some s=>rfl) h
end Go.SX
end
section
namespace Go.Proofs
open Go Go.SX
set_option maxRecDepth 100000
set_option maxHeartbeats 4000000
def xA : RfX:=([1,0,0,0,2,15,0],false,[])
def yA : RfX:=([1,2,15,0],false,[])
def xB : RfX:=([1,1,0,16,1,5,2],false,[])
def yB : RfX:=([1,1,5,2],false,[])
def exRows (γ : Nat → Nat) : List Row:=[cellR (rfC xA) (γ 2) 97,cellR (exK yA 7 [] 0) (γ 3) 44,cellR (rfC xB) (γ 5) 97,cellR (exK yB 1250 [] 0) (γ 6) 44]
def ndF (r e : Nat) (x y : RfX) (v : Int) : St:={ noF with heap:=[(0,⟨[.fn 202 [1,2]],126,true⟩),(1,⟨[slA r 1],42,true⟩),(2,⟨[slA e 1],41,true⟩)],next:=3,pers:=[cellR (rfC x) r 97,cellR (exK y v [] 0) e 44].map rowP }
def ndF0 : St:={ noF with heap:=[(0,⟨[.fn 202 [1,2]],126,true⟩),(1,⟨[nilS],42,true⟩),(2,⟨[nilS],41,true⟩)],next:=3 }
def ndE (y : RfX) (v : Int) (_ : Nat) : List CV:=[.agg (exK y v [] 0)]
theorem itA (r e : Nat) (x y : RfX) (v : Int) : Iter Tryz.prog 201 [.one (.ptr 0 0)] (ndF r e x y v) 1 (fun _=>#[(CV.agg (exK y v [] 0)).den fun _=>0]) :=
 Iter.ofBlks kq (fun γ=>kq) (fun γ=>nodes_iter1 (γ 1) (γ 2) (γ 0) r e x y v [] 0)
theorem it0 (enc : Nat → Array Value) : Iter Tryz.prog 201 [.one (.ptr 0 0)] ndF0 0 enc :=
 Iter.ofBlks kq (fun γ=>kq) (fun γ=>nodes_iter0 (γ 1) (γ 2) (γ 0) enc)
def kpT : List Bool:=[true,true,true,true,true,true,true,true]
theorem count24 : CallsF Tryz.prog 24 [exP] (exE 48) (.ret (.tup [i64 3,i64 2,i64 0])):=by
 refine CallsF.mk true Tryz.func24 kq kq (fun ρ w=>V.lit ?_)
 refine V.runZ ev0 [] [21] 200 (fun os=>kq) kq kq (fun os=>?_)
 refine V.callO [(0,false),(1,false),(2,false)] (check21 48 0 chkOk).ro kq kq kq (fun v hv=>⟨?_,?_⟩) (fun ch hc=>by cases hc)
 ·cases hv; kernel_rfl
 ·cases hv
  refine V.runZ ev0 [] [] 2000 (fun os=>kq) kq kq (fun os=>?_)
  refine V.absPc [2,3,5,6] [0,1,4,7,8,9,10,11,12,13,14,15] (fun γ=>kq) (fun γ=>?_)
  refine V.dfQ0 ?_
  refine V.rangeFcE (fun n h=>upd h 5 ⟨[.int .i64 n],3,true⟩) (fun i n=>n = 0 + (i : Int)) (ndE yA 7) (encV:=(fun _=>#[(CV.agg (exK yA 7 [] 0)).den fun _=>0])) (fun _ _=>rfl) 0 [1,6,17,18,19,24,25,26] kpT [(1,false),(2,false)] (itA (γ 2) (γ 3) xA yA 7) [] kq
   kq kq kq kq (by simp) kq kq kq (fun _=>kq) (fun _=>kq) (fun i x ρ1 W l r q hi hx=>?_) (fun x0 l0 r0 q0 hx0=>?_)
  ·obtain rfl : i = 0:=by omega
   obtain rfl : x = 0:=by simpa using hx
   refine V.lit ?_
   refine V.runZ ev0 [] [] 200 (fun os=>kq) kq kq (fun os=>?_)
   refine V.begin 1 l (recOf q none) kq rfl kq rfl ?_
   refine V.runZ ev0 [] [] 200 (fun os=>kq) kq kq (fun os=>?_)
   exact V.roundEnd [1,6,17,18,19,24,25,26] kpT none 1 kq kq kq kq kq (by show (1 : Int) = _; rfl)
  obtain rfl : x0 = 1:=by simpa using hx0
  refine V.defP 0 r0 [] ((exRows γ).map rowP ++ gl) kq kq ?_
  refine V.lit ?_
  refine V.runZ ev0 [] [] 2000 (fun os=>kq) kq kq (fun os=>?_)
  refine V.rangeFcE (fun n h=>upd h 5 ⟨[.int .i64 n],3,true⟩) (fun i n=>n = 1 + (i : Int)) (fun _=>dumC) (encV:=(fun _=>#[.int .i64 0])) (fun _ _=>rfl) 1 [1,6,17,18,19,24,25,26] kpT [] (it0 _) (collL [r0]) kq
   kq kq kq kq (by simp) kq kq kq (fun _=>kq) (fun _=>kq) (fun i x ρ1 W l r q hi hx=>?_) (fun x1 l1 r1 q1 hx1=>?_)
  ·exact absurd hi (Nat.not_lt_zero _)
  obtain rfl : x1 = 1:=by simpa using hx1
  refine V.defP 0 r1 [r0] ((exRows γ).map rowP ++ gl) kq kq ?_
  refine V.lit ?_
  refine V.runZ ev0 [] [] 2000 (fun os=>kq) kq kq (fun os=>?_)
  refine V.rangeFcE (fun n h=>upd h 5 ⟨[.int .i64 n],3,true⟩) (fun i n=>n = 1 + (i : Int)) (ndE yB 1250) (encV:=(fun _=>#[(CV.agg (exK yB 1250 [] 0)).den fun _=>0])) (fun _ _=>rfl) 1 [1,6,17,18,19,24,25,26] kpT [(3,false),(4,false)] (itA (γ 5) (γ 6) xB yB 1250) (collL [r1,r0]) kq
   kq kq kq kq (by simp) kq kq kq (fun _=>kq) (fun _=>kq) (fun i x ρ1 W l r q hi hx=>?_) (fun x2 l2 r2 q2 hx2=>?_)
  ·obtain rfl : i = 0:=by omega
   obtain rfl : x = 1:=by simpa using hx
   refine V.lit ?_
   refine V.runZ ev0 [] [] 200 (fun os=>kq) kq kq (fun os=>?_)
   refine V.begin 1 l (recOf q none) kq rfl kq rfl ?_
   refine V.runZ ev0 [] [] 200 (fun os=>kq) kq kq (fun os=>?_)
   exact V.roundEnd [1,6,17,18,19,24,25,26] kpT none 2 kq kq kq kq kq (by show (2 : Int) = _; rfl)
  obtain rfl : x2 = 2:=by simpa using hx2
  refine V.defP 0 r2 [r1,r0] ((exRows γ).map rowP ++ gl) kq kq ?_
  refine V.lit ?_
  refine V.runZ ev0 [] [] 2000 (fun os=>kq) kq kq (fun os=>?_)
  refine V.retDs [r2,r1,r0] ((exRows γ).map rowP ++ gl) kq rfl (by rintro e w ⟨h,_⟩; exact ⟨_,h⟩) kq kq kq ?_
  exact V.retO kq kq kq
end Go.Proofs
end
