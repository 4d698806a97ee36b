/- A symbolic run of the program that Lean checks, and what the functions of the program come to by it: part 7 of 11. -/
import Derived.Test.YticgechhgdgjlaaGreatDoorRAF
set_option linter.unusedVariables false
set_option linter.unusedSimpArgs false
section
namespace Go.Proofs
open Go Go.SX
set_option maxRecDepth 10000
def drsQ (a : List UInt8) : Prop:=a.length ≤ 1000000
inductive drsI where
 | e (a : List UInt8)
 | l (s : List UInt8) (c : Int) (x : Int) (y : Int) (i : Int)
 | m (s : List UInt8) (c : Int) (x : Int) (y : Int) (i : Int)
noncomputable def drsTl : List Item:=headT 307 [cHas.e,cTimes.e,cDri.e] (entO Tryz.f307 (arg1S [])) 0
noncomputable def drsTm : List Item:=headT 307 [cHas.e,cTimes.e,cDri.e] (⟨drsTl,st0 70 [(0,vS []),(3,vB 0),(4,vI 0),(5,vI 0),(6,vI 0)]⟩) 3
noncomputable def drsC : drsI → Cfg
 | .e a=>entO Tryz.f307 (arg1S a)
 | .l s c x y i=>⟨drsTl,st0 70 [(0,vS s),(3,vB c),(4,vI x),(5,vI y),(6,vI i)]⟩
 | .m s c x y i=>⟨drsTm,st0 70 [(0,vS s),(3,vB c),(4,vI x),(5,vI y),(7,vI i)]⟩
noncomputable def drsS : drsI → Sh
 | .e a=>(.ob [driQ a] (.cond (exV driX a == 0) (.ret (RV.v (CV.one (SV.sb true)))) .leaf))
 | .l s c x y i=>(.cond (decide (i < (↑s.length : Int))) (.ob [0 ≤ i ∧ i < (↑s.length : Int)] (.cond ((↑(s.getD i.toNat 0).toNat : Int) == c) (.cond (decide (x < 0)) (.ob [inK IntKind.i64 (i + 1)] .leaf) (.ob [inK IntKind.i64 (i + 1)] .leaf)) (.ob [0 ≤ i ∧ i < (↑s.length : Int),hasQ (([36,83,43,45] : List UInt8),(↑(s.getD i.toNat 0).toNat : Int)),exV hasX (([36,83,43,45] : List UInt8),(↑(s.getD i.toNat 0).toNat : Int)) = true → 0 ≤ i ∧ i < (↑s.length : Int),exV hasX (([36,83,43,45] : List UInt8),(↑(s.getD i.toNat 0).toNat : Int)) = true → timesQ (s,(↑(s.getD i.toNat 0).toNat : Int))] (.cond (exV hasX (([36,83,43,45] : List UInt8),(↑(s.getD i.toNat 0).toNat : Int)) && decide (exV timesX (s,(↑(s.getD i.toNat 0).toNat : Int)) ≥ 2)) (.ret (RV.v (CV.one (SV.sb false)))) (.ob [inK IntKind.i64 (i + 1)] .leaf))))) .leaf)
 | .m s c x y i=>(.cond (decide (i < y)) (.ob [decide (i < x) = true → 0 ≤ i ∧ i < (↑s.length : Int)] (.cond (decide (i < x) && (↑(s.getD i.toNat 0).toNat : Int) == 86) (.ret (RV.v (CV.one (SV.sb false)))) (.ob [decide (i > x) = true → 0 ≤ i ∧ i < (↑s.length : Int),(decide (i > x) && (↑(s.getD i.toNat 0).toNat : Int) != c) = true → 0 ≤ i ∧ i < (↑s.length : Int),(decide (i > x) && (↑(s.getD i.toNat 0).toNat : Int) != c) = true → hasQ (([44,46,47,66,86] : List UInt8),(↑(s.getD i.toNat 0).toNat : Int))] (.cond (decide (i > x) && (↑(s.getD i.toNat 0).toNat : Int) != c && !exV hasX (([44,46,47,66,86] : List UInt8),(↑(s.getD i.toNat 0).toNat : Int))) (.ret (RV.v (CV.one (SV.sb false)))) (.ob [inK IntKind.i64 (i + 1)] .leaf))))) (.ret (RV.v (CV.one (SV.sb true)))))
noncomputable def drsN : drsI → Nat → drsI
 | .e a,_=>.l (a) (exV driX a) (-1) (-1) (0)
 | .l s c x y i,0=>.l (s) (c) (i) (i) (i + 1)
 | .l s c x y i,1=>.l (s) (c) (x) (i) (i + 1)
 | .l s c x y i,2=>.l (s) (c) (x) (y) (i + 1)
 | .l s c x y i,_=>.m (s) (c) (x) (y) (0)
 | .m s c x y i,_=>.m (s) (c) (x) (y) (i + 1)
def drsK : drsI → List Nat
 | .e _=>[]
 | .l _ _ _ _ _=>[0,3,4,5,6]
 | .m _ _ _ _ _=>[0,3,4,5,7]
def drsM : drsI → Nat
 | .e a=>a.length + 2000010
 | .l s c x y i=>((s.length : Int) - i).toNat + 2000005
 | .m s c x y i=>((s.length : Int) - i).toNat + 1
def drsP (a0 : List UInt8) : drsI → Prop
 | .e a=>a = a0 ∧ a.length ≤ 1000000
 | .l s c x y i=>s.length ≤ 1000000 ∧ 0 ≤ i ∧ i ≤ (s.length : Int) ∧ y < (s.length : Int) ∧ y < i
 | .m s c x y i=>s.length ≤ 1000000 ∧ 0 ≤ i ∧ i ≤ (s.length : Int) ∧ y < (s.length : Int)
theorem drsX : ExF Tryz.prog 307 arg1S (fun b=>.v (vT b)) drsQ (fun _ _=>True):=by
 intro a0 ha
 refine CallsF.ofV false Tryz.func307 kq kq (cuts hMu kq (T:=[cHas.e,cTimes.e,cDri.e]) 40 drsC drsS drsN drsK (fun _=>[]) drsM (drsP a0) _ (fun i=>by cases i <;> kernel_rfl) (fun i=>by cases i <;> kernel_rfl) ?_ (fun i j hj=>?_) _ (.e a0) (Nat.lt_succ_self _) ⟨rfl,ha⟩)
 ·intro i hi
  cases i with
  | e a =>
   simp only [drsP] at hi
   obtain ⟨rfl,hi⟩:=hi
   have o1 : driQ a:=by simp only [allP,driQ,List.length_cons,List.length_nil,List.length_take,List.length_drop,List.length_append]; omega
   refine ⟨o1,?_⟩
   refine ⟨fun h0=>?_,fun h0=>?_⟩
   ·exact ⟨⟨_,rfl,trivial⟩,rfl⟩
   ·simp only [Sh.okE,Sh.n,Nat.zero_add,Nat.add_zero,Nat.reduceAdd,and_true,true_and,List.length_append,List.length_nil,drsS,drsN,drsP,drsM]; omega
  | l s c x y i =>
   simp only [drsP] at hi
   refine ⟨fun h0=>?_,fun h0=>?_⟩
   ·have h0:=of_decide_eq_true h0
    have o2 : 0 ≤ i ∧ i < (↑s.length : Int):=⟨by omega,by omega⟩
    refine ⟨o2,?_⟩
    refine ⟨fun h1=>?_,fun h1=>?_⟩
    ·refine ⟨fun h2=>?_,fun h2=>?_⟩
     ·have h2:=of_decide_eq_true h2
      have o3 : inK IntKind.i64 (i + 1):=⟨by omega,by omega⟩
      refine ⟨o3,?_⟩
      simp only [Sh.okE,Sh.n,Nat.zero_add,Nat.add_zero,Nat.reduceAdd,and_true,true_and,List.length_append,List.length_nil,drsS,drsN,drsP,drsM]; omega
     ·have h2:=of_decide_eq_false h2
      have o4 : inK IntKind.i64 (i + 1):=⟨by omega,by omega⟩
      refine ⟨o4,?_⟩
      simp only [Sh.okE,Sh.n,Nat.zero_add,Nat.add_zero,Nat.reduceAdd,and_true,true_and,List.length_append,List.length_nil,drsS,drsN,drsP,drsM]; omega
    ·have o5 : 0 ≤ i ∧ i < (↑s.length : Int):=⟨by omega,by omega⟩
     have b6_0:=UInt8.toNat_lt (s.getD i.toNat 0)
     have o6 : hasQ (([36,83,43,45] : List UInt8),(↑(s.getD i.toNat 0).toNat : Int)):=by simp only [allP,hasQ,List.length_cons,List.length_nil,List.length_take,List.length_drop,List.length_append]; omega
     have b7_0:=UInt8.toNat_lt (s.getD i.toNat 0)
     have o7 : exV hasX (([36,83,43,45] : List UInt8),(↑(s.getD i.toNat 0).toNat : Int)) = true → 0 ≤ i ∧ i < (↑s.length : Int):=fun g=>by (try simp only [Bool.or_eq_true,Bool.and_eq_true,Bool.or_eq_false_iff,Bool.and_eq_false_iff,decide_eq_true_eq,decide_eq_false_iff_not,Bool.not_eq_true',Bool.not_eq_false',Bool.not_eq_true,Bool.not_eq_false] at g); exact ⟨by omega,by omega⟩
     have b8_0:=UInt8.toNat_lt (s.getD i.toNat 0)
     have o8 : exV hasX (([36,83,43,45] : List UInt8),(↑(s.getD i.toNat 0).toNat : Int)) = true → timesQ (s,(↑(s.getD i.toNat 0).toNat : Int)):=fun g=>by (try simp only [Bool.or_eq_true,Bool.and_eq_true,Bool.or_eq_false_iff,Bool.and_eq_false_iff,decide_eq_true_eq,decide_eq_false_iff_not,Bool.not_eq_true',Bool.not_eq_false',Bool.not_eq_true,Bool.not_eq_false] at g); simp only [allP,timesQ,List.length_cons,List.length_nil,List.length_take,List.length_drop,List.length_append]; omega
     refine ⟨⟨o5,o6,o7,o8⟩,?_⟩
     refine ⟨fun h2=>?_,fun h2=>?_⟩
     ·simp only [Bool.or_eq_true,Bool.and_eq_true,Bool.or_eq_false_iff,Bool.and_eq_false_iff,decide_eq_true_eq,decide_eq_false_iff_not,Bool.not_eq_true',Bool.not_eq_false',Bool.not_eq_true,Bool.not_eq_false] at h2
      exact ⟨⟨_,rfl,trivial⟩,rfl⟩
     ·simp only [Bool.or_eq_true,Bool.and_eq_true,Bool.or_eq_false_iff,Bool.and_eq_false_iff,decide_eq_true_eq,decide_eq_false_iff_not,Bool.not_eq_true',Bool.not_eq_false',Bool.not_eq_true,Bool.not_eq_false] at h2
      have o9 : inK IntKind.i64 (i + 1):=⟨by omega,by omega⟩
      refine ⟨o9,?_⟩
      simp only [Sh.okE,Sh.n,Nat.zero_add,Nat.add_zero,Nat.reduceAdd,and_true,true_and,List.length_append,List.length_nil,drsS,drsN,drsP,drsM]; omega
   ·have h0:=of_decide_eq_false h0
    simp only [Sh.okE,Sh.n,Nat.zero_add,Nat.add_zero,Nat.reduceAdd,and_true,true_and,List.length_append,List.length_nil,drsS,drsN,drsP,drsM]; omega
  | m s c x y i =>
   simp only [drsP] at hi
   refine ⟨fun h0=>?_,fun h0=>?_⟩
   ·have h0:=of_decide_eq_true h0
    have o10 : decide (i < x) = true → 0 ≤ i ∧ i < (↑s.length : Int):=fun g=>by (try simp only [Bool.or_eq_true,Bool.and_eq_true,Bool.or_eq_false_iff,Bool.and_eq_false_iff,decide_eq_true_eq,decide_eq_false_iff_not,Bool.not_eq_true',Bool.not_eq_false',Bool.not_eq_true,Bool.not_eq_false] at g); exact ⟨by omega,by omega⟩
    refine ⟨o10,?_⟩
    refine ⟨fun h1=>?_,fun h1=>?_⟩
    ·simp only [Bool.or_eq_true,Bool.and_eq_true,Bool.or_eq_false_iff,Bool.and_eq_false_iff,decide_eq_true_eq,decide_eq_false_iff_not,Bool.not_eq_true',Bool.not_eq_false',Bool.not_eq_true,Bool.not_eq_false] at h1
     exact ⟨⟨_,rfl,trivial⟩,rfl⟩
    ·simp only [Bool.or_eq_true,Bool.and_eq_true,Bool.or_eq_false_iff,Bool.and_eq_false_iff,decide_eq_true_eq,decide_eq_false_iff_not,Bool.not_eq_true',Bool.not_eq_false',Bool.not_eq_true,Bool.not_eq_false] at h1
     have o11 : decide (i > x) = true → 0 ≤ i ∧ i < (↑s.length : Int):=fun g=>by (try simp only [Bool.or_eq_true,Bool.and_eq_true,Bool.or_eq_false_iff,Bool.and_eq_false_iff,decide_eq_true_eq,decide_eq_false_iff_not,Bool.not_eq_true',Bool.not_eq_false',Bool.not_eq_true,Bool.not_eq_false] at g); exact ⟨by omega,by omega⟩
     have b12_0:=UInt8.toNat_lt (s.getD i.toNat 0)
     have o12 : (decide (i > x) && (↑(s.getD i.toNat 0).toNat : Int) != c) = true → 0 ≤ i ∧ i < (↑s.length : Int):=fun g=>by (try simp only [Bool.or_eq_true,Bool.and_eq_true,Bool.or_eq_false_iff,Bool.and_eq_false_iff,decide_eq_true_eq,decide_eq_false_iff_not,Bool.not_eq_true',Bool.not_eq_false',Bool.not_eq_true,Bool.not_eq_false] at g); exact ⟨by omega,by omega⟩
     have b13_0:=UInt8.toNat_lt (s.getD i.toNat 0)
     have o13 : (decide (i > x) && (↑(s.getD i.toNat 0).toNat : Int) != c) = true → hasQ (([44,46,47,66,86] : List UInt8),(↑(s.getD i.toNat 0).toNat : Int)):=fun g=>by (try simp only [Bool.or_eq_true,Bool.and_eq_true,Bool.or_eq_false_iff,Bool.and_eq_false_iff,decide_eq_true_eq,decide_eq_false_iff_not,Bool.not_eq_true',Bool.not_eq_false',Bool.not_eq_true,Bool.not_eq_false] at g); simp only [allP,hasQ,List.length_cons,List.length_nil,List.length_take,List.length_drop,List.length_append]; omega
     refine ⟨⟨o11,o12,o13⟩,?_⟩
     refine ⟨fun h2=>?_,fun h2=>?_⟩
     ·simp only [Bool.or_eq_true,Bool.and_eq_true,Bool.or_eq_false_iff,Bool.and_eq_false_iff,decide_eq_true_eq,decide_eq_false_iff_not,Bool.not_eq_true',Bool.not_eq_false',Bool.not_eq_true,Bool.not_eq_false] at h2
      exact ⟨⟨_,rfl,trivial⟩,rfl⟩
     ·simp only [Bool.or_eq_true,Bool.and_eq_true,Bool.or_eq_false_iff,Bool.and_eq_false_iff,decide_eq_true_eq,decide_eq_false_iff_not,Bool.not_eq_true',Bool.not_eq_false',Bool.not_eq_true,Bool.not_eq_false] at h2
      have o14 : inK IntKind.i64 (i + 1):=⟨by omega,by omega⟩
      refine ⟨o14,?_⟩
      simp only [Sh.okE,Sh.n,Nat.zero_add,Nat.add_zero,Nat.reduceAdd,and_true,true_and,List.length_append,List.length_nil,drsS,drsN,drsP,drsM]; omega
   ·have h0:=of_decide_eq_false h0
    exact ⟨⟨_,rfl,trivial⟩,rfl⟩
 ·cases i with
  | e a=>match j,hj with
   | 0,_=>exact ⟨kq,kq⟩
  | l s c x y i=>match j,hj with
   | 0,_=>exact ⟨kq,kq⟩
   | 1,_=>exact ⟨kq,kq⟩
   | 2,_=>exact ⟨kq,kq⟩
   | 3,_=>exact ⟨kq,kq⟩
  | m s c x y i=>match j,hj with
   | 0,_=>exact ⟨kq,kq⟩
noncomputable def cDrs : Con Tryz.prog:=Con.ex drsX un1s (fun _ _=>un1s_ok) []
def ldsQ (a : List UInt8 × List UInt8) : Prop:=a.1.length ≤ 1000000 ∧ a.2.length = a.1.length
inductive ldsI where
 | e (a : List UInt8 × List UInt8)
 | l (s : List UInt8) (m : List UInt8) (u : Bool) (v : Bool) (w : Bool) (d : Int) (i : Int)
noncomputable def ldsTl : List Item:=headT 308 [cHas.e,cDri.e] (entO Tryz.f308 (arg2S ([],[]))) 0
noncomputable def ldsC : ldsI → Cfg
 | .e a=>entO Tryz.f308 (arg2S a)
 | .l s m u v w d i=>⟨ldsTl,st0 67 [(0,vS s),(1,vS m),(5,vT u),(6,vT v),(7,vT w),(8,vI d),(9,vI i)]⟩
noncomputable def ldsS : ldsI → Sh
 | .e a=>(.ob [hasQ (a.fst,90),exV hasX (a.fst,90) = true → hasQ (a.fst,42)] (.cond (exV hasX (a.fst,90) && exV hasX (a.fst,42)) (.ret (RV.v (CV.one (SV.sb false)))) (.ob [hasQ (a.fst,90),exV hasX (a.fst,90) = false → hasQ (a.fst,42),(exV hasX (a.fst,90) || exV hasX (a.fst,42)) = true → driQ a.fst] (.cond ((exV hasX (a.fst,90) || exV hasX (a.fst,42)) && exV driX a.fst != 0) (.ret (RV.v (CV.one (SV.sb false)))) .leaf))))
 | .l s m u v w d i=>(.cond (decide (i < (↑s.length : Int))) (.ob [0 ≤ i ∧ i < (↑m.length : Int)] (.cond ((↑(m.getD i.toNat 0).toNat : Int) == 118) (.ob [inK IntKind.i64 (i + 1)] .leaf) (.ob [0 ≤ i ∧ i < (↑m.length : Int)] (.cond ((↑(m.getD i.toNat 0).toNat : Int) == 100) (.ob [inK IntKind.i64 (d + 1),inK IntKind.i64 (i + 1)] .leaf) (.ob [0 ≤ i ∧ i < (↑m.length : Int)] (.cond ((↑(m.getD i.toNat 0).toNat : Int) == 99) (.cond (u) (.ret (RV.v (CV.one (SV.sb false)))) (.ob [inK IntKind.i64 (d + 1),inK IntKind.i64 (i + 1)] .leaf)) (.ob [inK IntKind.i64 (i + 1)] .leaf))))))) (.ret (RV.v (CV.one (SV.sb (decide (d ≥ 1) && decide (d ≤ 9) && !(v && u)))))))
noncomputable def ldsN : ldsI → Nat → ldsI
 | .e a,_=>.l (a.fst) (a.snd) (false) (false) (false) (0) (0)
 | .l s m u v w d i,0=>.l (s) (m) (u) (v) (true) (d) (i + 1)
 | .l s m u v w d i,1=>.l (s) (m) (true) (v) (w) (d + 1) (i + 1)
 | .l s m u v w d i,2=>.l (s) (m) (u) (v || w) (w) (d + 1) (i + 1)
 | .l s m u v w d i,_=>.l (s) (m) (u) (v) (w) (d) (i + 1)
def ldsK : ldsI → List Nat
 | .e _=>[]
 | .l _ _ _ _ _ _ _=>[0,1,5,6,7,8,9]
def ldsM : ldsI → Nat
 | .e a=>a.1.length + 2
 | .l s m u v w d i=>((s.length : Int) - i).toNat + 1
def ldsP (a0 : List UInt8 × List UInt8) : ldsI → Prop
 | .e a=>a = a0 ∧ a.1.length ≤ 1000000 ∧ a.2.length = a.1.length
 | .l s m u v w d i=>s.length ≤ 1000000 ∧ m.length = s.length ∧ 0 ≤ i ∧ i ≤ (s.length : Int) ∧ 0 ≤ d ∧ d ≤ i
theorem ldsX : ExF Tryz.prog 308 arg2S (fun b=>.v (vT b)) ldsQ (fun _ _=>True):=by
 intro a0 ha
 refine CallsF.ofV false Tryz.func308 kq kq (cuts hMu kq (T:=[cHas.e,cDri.e]) 40 ldsC ldsS ldsN ldsK (fun _=>[]) ldsM (ldsP a0) _ (fun i=>by cases i <;> kernel_rfl) (fun i=>by cases i <;> kernel_rfl) ?_ (fun i j hj=>?_) _ (.e a0) (Nat.lt_succ_self _) ⟨rfl,ha⟩)
 ·intro i hi
  cases i with
  | e a =>
   simp only [ldsP] at hi
   obtain ⟨rfl,hi⟩:=hi
   have o1 : hasQ (a.fst,90):=by simp only [allP,hasQ,List.length_cons,List.length_nil,List.length_take,List.length_drop,List.length_append]; omega
   have o2 : exV hasX (a.fst,90) = true → hasQ (a.fst,42):=fun g=>by (try simp only [Bool.or_eq_true,Bool.and_eq_true,Bool.or_eq_false_iff,Bool.and_eq_false_iff,decide_eq_true_eq,decide_eq_false_iff_not,Bool.not_eq_true',Bool.not_eq_false',Bool.not_eq_true,Bool.not_eq_false] at g); simp only [allP,hasQ,List.length_cons,List.length_nil,List.length_take,List.length_drop,List.length_append]; omega
   refine ⟨⟨o1,o2⟩,?_⟩
   refine ⟨fun h0=>?_,fun h0=>?_⟩
   ·exact ⟨⟨_,rfl,trivial⟩,rfl⟩
   ·have o3 : hasQ (a.fst,90):=by simp only [allP,hasQ,List.length_cons,List.length_nil,List.length_take,List.length_drop,List.length_append]; omega
    have o4 : exV hasX (a.fst,90) = false → hasQ (a.fst,42):=fun g=>by (try simp only [Bool.or_eq_true,Bool.and_eq_true,Bool.or_eq_false_iff,Bool.and_eq_false_iff,decide_eq_true_eq,decide_eq_false_iff_not,Bool.not_eq_true',Bool.not_eq_false',Bool.not_eq_true,Bool.not_eq_false] at g); simp only [allP,hasQ,List.length_cons,List.length_nil,List.length_take,List.length_drop,List.length_append]; omega
    have o5 : (exV hasX (a.fst,90) || exV hasX (a.fst,42)) = true → driQ a.fst:=fun g=>by (try simp only [Bool.or_eq_true,Bool.and_eq_true,Bool.or_eq_false_iff,Bool.and_eq_false_iff,decide_eq_true_eq,decide_eq_false_iff_not,Bool.not_eq_true',Bool.not_eq_false',Bool.not_eq_true,Bool.not_eq_false] at g); simp only [allP,driQ,List.length_cons,List.length_nil,List.length_take,List.length_drop,List.length_append]; omega
    refine ⟨⟨o3,o4,o5⟩,?_⟩
    refine ⟨fun h1=>?_,fun h1=>?_⟩
    ·exact ⟨⟨_,rfl,trivial⟩,rfl⟩
    ·simp only [Sh.okE,Sh.n,Nat.zero_add,Nat.add_zero,Nat.reduceAdd,and_true,true_and,List.length_append,List.length_nil,ldsS,ldsN,ldsP,ldsM]; omega
  | l s m u v w d i =>
   simp only [ldsP] at hi
   refine ⟨fun h0=>?_,fun h0=>?_⟩
   ·have h0:=of_decide_eq_true h0
    have o6 : 0 ≤ i ∧ i < (↑m.length : Int):=⟨by omega,by omega⟩
    refine ⟨o6,?_⟩
    refine ⟨fun h1=>?_,fun h1=>?_⟩
    ·have o7 : inK IntKind.i64 (i + 1):=⟨by omega,by omega⟩
     refine ⟨o7,?_⟩
     simp only [Sh.okE,Sh.n,Nat.zero_add,Nat.add_zero,Nat.reduceAdd,and_true,true_and,List.length_append,List.length_nil,ldsS,ldsN,ldsP,ldsM]; omega
    ·have o8 : 0 ≤ i ∧ i < (↑m.length : Int):=⟨by omega,by omega⟩
     refine ⟨o8,?_⟩
     refine ⟨fun h2=>?_,fun h2=>?_⟩
     ·have o9 : inK IntKind.i64 (d + 1):=⟨by omega,by omega⟩
      have o10 : inK IntKind.i64 (i + 1):=⟨by omega,by omega⟩
      refine ⟨⟨o9,o10⟩,?_⟩
      simp only [Sh.okE,Sh.n,Nat.zero_add,Nat.add_zero,Nat.reduceAdd,and_true,true_and,List.length_append,List.length_nil,ldsS,ldsN,ldsP,ldsM]; omega
     ·have o11 : 0 ≤ i ∧ i < (↑m.length : Int):=⟨by omega,by omega⟩
      refine ⟨o11,?_⟩
      refine ⟨fun h3=>?_,fun h3=>?_⟩
      ·refine ⟨fun h4=>?_,fun h4=>?_⟩
       ·exact ⟨⟨_,rfl,trivial⟩,rfl⟩
       ·have o12 : inK IntKind.i64 (d + 1):=⟨by omega,by omega⟩
        have o13 : inK IntKind.i64 (i + 1):=⟨by omega,by omega⟩
        refine ⟨⟨o12,o13⟩,?_⟩
        simp only [Sh.okE,Sh.n,Nat.zero_add,Nat.add_zero,Nat.reduceAdd,and_true,true_and,List.length_append,List.length_nil,ldsS,ldsN,ldsP,ldsM]; omega
      ·have o14 : inK IntKind.i64 (i + 1):=⟨by omega,by omega⟩
       refine ⟨o14,?_⟩
       simp only [Sh.okE,Sh.n,Nat.zero_add,Nat.add_zero,Nat.reduceAdd,and_true,true_and,List.length_append,List.length_nil,ldsS,ldsN,ldsP,ldsM]; omega
   ·have h0:=of_decide_eq_false h0
    exact ⟨⟨_,rfl,trivial⟩,rfl⟩
 ·cases i with
  | e a=>match j,hj with
   | 0,_=>exact ⟨kq,kq⟩
  | l s m u v w d i=>match j,hj with
   | 0,_=>exact ⟨kq,kq⟩
   | 1,_=>exact ⟨kq,kq⟩
   | 2,_=>exact ⟨kq,kq⟩
   | 3,_=>exact ⟨kq,kq⟩
noncomputable def cLds : Con Tryz.prog:=Con.ex ldsX un2ss (fun _ _=>un2ss_ok) []
def staQ (a : List UInt8 × List UInt8) : Prop:=a.1.length ≤ 1000000 ∧ a.2.length = a.1.length
inductive staI where
 | e (a : List UInt8 × List UInt8)
 | l (s : List UInt8) (m : List UInt8) (c : Int) (i : Int)
 | k (s : List UInt8) (m : List UInt8) (c : Int) (i : Int) (u : Bool) (v : Bool) (z : Int)
noncomputable def staTl : List Item:=headT 309 [cHas.e,cDri.e] (entO Tryz.f309 (arg2S ([],[]))) 0
noncomputable def staTk : List Item:=headT 309 [cHas.e,cDri.e] (⟨staTl,st0 69 [(0,vS []),(1,vS []),(5,vB 0),(6,vI 0)]⟩) 1
noncomputable def staC : staI → Cfg
 | .e a=>entO Tryz.f309 (arg2S a)
 | .l s m c i=>⟨staTl,st0 69 [(0,vS s),(1,vS m),(5,vB c),(6,vI i)]⟩
 | .k s m c i u v z=>⟨staTk,st0 69 [(0,vS s),(1,vS m),(5,vB c),(6,vI i),(7,vT u),(8,vT v),(9,vI z)]⟩
noncomputable def staS : staI → Sh
 | .e a=>(.ob [driQ a.fst] .leaf)
 | .l s m c i=>(.cond (decide (i < (↑s.length : Int))) (.ob [0 ≤ i ∧ i < (↑s.length : Int),hasQ (([36,83,43,45] : List UInt8),(↑(s.getD i.toNat 0).toNat : Int)),(!exV hasX (([36,83,43,45] : List UInt8),(↑(s.getD i.toNat 0).toNat : Int))) = false → 0 ≤ i ∧ i < (↑s.length : Int)] (.cond (!exV hasX (([36,83,43,45] : List UInt8),(↑(s.getD i.toNat 0).toNat : Int)) || (↑(s.getD i.toNat 0).toNat : Int) == c) (.ob [inK IntKind.i64 (i + 1)] .leaf) .leaf)) (.ret (RV.v (CV.one (SV.sb true)))))
 | .k s m c i u v z=>(.cond (decide (z < (↑s.length : Int))) (.ob [0 ≤ z ∧ z < (↑m.length : Int),((↑(m.getD z.toNat 0).toNat : Int) == 100) = false → 0 ≤ z ∧ z < (↑m.length : Int),((↑(m.getD z.toNat 0).toNat : Int) == 100 || (↑(m.getD z.toNat 0).toNat : Int) == 99) = false → 0 ≤ z ∧ z < (↑s.length : Int)] (.cond ((↑(m.getD z.toNat 0).toNat : Int) == 100 || (↑(m.getD z.toNat 0).toNat : Int) == 99 || (↑(s.getD z.toNat 0).toNat : Int) == c) (.ob [inK IntKind.i64 (z + 1)] .leaf) (.ob [inK IntKind.i64 (z + 1)] .leaf))) (.cond (u && v) (.ret (RV.v (CV.one (SV.sb false)))) (.ob [inK IntKind.i64 (i + 1)] .leaf)))
noncomputable def staN : staI → Nat → staI
 | .e a,_=>.l (a.fst) (a.snd) (exV driX a.fst) (0)
 | .l s m c i,0=>.l (s) (m) (c) (i + 1)
 | .l s m c i,_=>.k (s) (m) (c) (i) (false) (false) (0)
 | .k s m c i u v z,0=>.k (s) (m) (c) (i) (u || decide (z < i)) (v || decide (z > i)) (z + 1)
 | .k s m c i u v z,1=>.k (s) (m) (c) (i) (u) (v) (z + 1)
 | .k s m c i u v z,_=>.l (s) (m) (c) (i + 1)
def staK : staI → List Nat
 | .e _=>[]
 | .l _ _ _ _=>[0,1,5,6]
 | .k _ _ _ _ _ _ _=>[0,1,5,6,7,8,9]
def staM : staI → Nat
 | .e a=>a.1.length * 2000003 + 1
 | .l s m c i=>((s.length : Int) - i).toNat * 2000003
 | .k s m c i u v z=>((s.length : Int) - i).toNat * 2000003 - 1000002 + ((s.length : Int) - z).toNat
def staP (a0 : List UInt8 × List UInt8) : staI → Prop
 | .e a=>a = a0 ∧ a.1.length ≤ 1000000 ∧ a.2.length = a.1.length
 | .l s m c i=>s.length ≤ 1000000 ∧ m.length = s.length ∧ 0 ≤ i ∧ i ≤ (s.length : Int)
 | .k s m c i u v z=>s.length ≤ 1000000 ∧ m.length = s.length ∧ 0 ≤ i ∧ i < (s.length : Int) ∧ 0 ≤ z ∧ z ≤ (s.length : Int)
theorem staX : ExF Tryz.prog 309 arg2S (fun b=>.v (vT b)) staQ (fun _ _=>True):=by
 intro a0 ha
 refine CallsF.ofV false Tryz.func309 kq kq (cuts hMu kq (T:=[cHas.e,cDri.e]) 40 staC staS staN staK (fun _=>[]) staM (staP a0) _ (fun i=>by cases i <;> kernel_rfl) (fun i=>by cases i <;> kernel_rfl) ?_ (fun i j hj=>?_) _ (.e a0) (Nat.lt_succ_self _) ⟨rfl,ha⟩)
 ·intro i hi
  cases i with
  | e a =>
   simp only [staP] at hi
   obtain ⟨rfl,hi⟩:=hi
   have o1 : driQ a.fst:=by simp only [allP,driQ,List.length_cons,List.length_nil,List.length_take,List.length_drop,List.length_append]; omega
   refine ⟨o1,?_⟩
   simp only [Sh.okE,Sh.n,Nat.zero_add,Nat.add_zero,Nat.reduceAdd,and_true,true_and,List.length_append,List.length_nil,staS,staN,staP,staM]; omega
  | l s m c i =>
   simp only [staP] at hi
   refine ⟨fun h0=>?_,fun h0=>?_⟩
   ·have h0:=of_decide_eq_true h0
    have o2 : 0 ≤ i ∧ i < (↑s.length : Int):=⟨by omega,by omega⟩
    have b3_0:=UInt8.toNat_lt (s.getD i.toNat 0)
    have o3 : hasQ (([36,83,43,45] : List UInt8),(↑(s.getD i.toNat 0).toNat : Int)):=by simp only [allP,hasQ,List.length_cons,List.length_nil,List.length_take,List.length_drop,List.length_append]; omega
    have b4_0:=UInt8.toNat_lt (s.getD i.toNat 0)
    have o4 : (!exV hasX (([36,83,43,45] : List UInt8),(↑(s.getD i.toNat 0).toNat : Int))) = false → 0 ≤ i ∧ i < (↑s.length : Int):=fun g=>by (try simp only [Bool.or_eq_true,Bool.and_eq_true,Bool.or_eq_false_iff,Bool.and_eq_false_iff,decide_eq_true_eq,decide_eq_false_iff_not,Bool.not_eq_true',Bool.not_eq_false',Bool.not_eq_true,Bool.not_eq_false] at g); exact ⟨by omega,by omega⟩
    refine ⟨⟨o2,o3,o4⟩,?_⟩
    refine ⟨fun h1=>?_,fun h1=>?_⟩
    ·have o5 : inK IntKind.i64 (i + 1):=⟨by omega,by omega⟩
     refine ⟨o5,?_⟩
     simp only [Sh.okE,Sh.n,Nat.zero_add,Nat.add_zero,Nat.reduceAdd,and_true,true_and,List.length_append,List.length_nil,staS,staN,staP,staM]; omega
    ·simp only [Sh.okE,Sh.n,Nat.zero_add,Nat.add_zero,Nat.reduceAdd,and_true,true_and,List.length_append,List.length_nil,staS,staN,staP,staM]; omega
   ·have h0:=of_decide_eq_false h0
    exact ⟨⟨_,rfl,trivial⟩,rfl⟩
  | k s m c i u v z =>
   simp only [staP] at hi
   refine ⟨fun h0=>?_,fun h0=>?_⟩
   ·have h0:=of_decide_eq_true h0
    have o6 : 0 ≤ z ∧ z < (↑m.length : Int):=⟨by omega,by omega⟩
    have b7_0:=UInt8.toNat_lt (m.getD z.toNat 0)
    have o7 : ((↑(m.getD z.toNat 0).toNat : Int) == 100) = false → 0 ≤ z ∧ z < (↑m.length : Int):=fun g=>by (try simp only [Bool.or_eq_true,Bool.and_eq_true,Bool.or_eq_false_iff,Bool.and_eq_false_iff,decide_eq_true_eq,decide_eq_false_iff_not,Bool.not_eq_true',Bool.not_eq_false',Bool.not_eq_true,Bool.not_eq_false] at g); exact ⟨by omega,by omega⟩
    have b8_0:=UInt8.toNat_lt (m.getD z.toNat 0)
    have o8 : ((↑(m.getD z.toNat 0).toNat : Int) == 100 || (↑(m.getD z.toNat 0).toNat : Int) == 99) = false → 0 ≤ z ∧ z < (↑s.length : Int):=fun g=>by (try simp only [Bool.or_eq_true,Bool.and_eq_true,Bool.or_eq_false_iff,Bool.and_eq_false_iff,decide_eq_true_eq,decide_eq_false_iff_not,Bool.not_eq_true',Bool.not_eq_false',Bool.not_eq_true,Bool.not_eq_false] at g); exact ⟨by omega,by omega⟩
    refine ⟨⟨o6,o7,o8⟩,?_⟩
    refine ⟨fun h1=>?_,fun h1=>?_⟩
    ·have o9 : inK IntKind.i64 (z + 1):=⟨by omega,by omega⟩
     refine ⟨o9,?_⟩
     simp only [Sh.okE,Sh.n,Nat.zero_add,Nat.add_zero,Nat.reduceAdd,and_true,true_and,List.length_append,List.length_nil,staS,staN,staP,staM]; omega
    ·have o10 : inK IntKind.i64 (z + 1):=⟨by omega,by omega⟩
     refine ⟨o10,?_⟩
     simp only [Sh.okE,Sh.n,Nat.zero_add,Nat.add_zero,Nat.reduceAdd,and_true,true_and,List.length_append,List.length_nil,staS,staN,staP,staM]; omega
   ·have h0:=of_decide_eq_false h0
    refine ⟨fun h1=>?_,fun h1=>?_⟩
    ·exact ⟨⟨_,rfl,trivial⟩,rfl⟩
    ·have o11 : inK IntKind.i64 (i + 1):=⟨by omega,by omega⟩
     refine ⟨o11,?_⟩
     simp only [Sh.okE,Sh.n,Nat.zero_add,Nat.add_zero,Nat.reduceAdd,and_true,true_and,List.length_append,List.length_nil,staS,staN,staP,staM]; omega
 ·cases i with
  | e a=>match j,hj with
   | 0,_=>exact ⟨kq,kq⟩
  | l s m c i=>match j,hj with
   | 0,_=>exact ⟨kq,kq⟩
   | 1,_=>exact ⟨kq,kq⟩
  | k s m c i u v z=>match j,hj with
   | 0,_=>exact ⟨kq,kq⟩
   | 1,_=>exact ⟨kq,kq⟩
   | 2,_=>exact ⟨kq,kq⟩
noncomputable def cSta : Con Tryz.prog:=Con.ex staX un2ss (fun _ _=>un2ss_ok) []
def sgnQ (a : List UInt8) : Prop:=a.length ≤ 1000000
inductive sgnI where
 | e (a : List UInt8)
 | l (b : List UInt8) (n : Int) (i : Int)
noncomputable def sgnTl : List Item:=headT 284 [cCrd.e,cHas.e,cTimes.e] (entO Tryz.f284 (arg1S [])) 0
noncomputable def sgnC : sgnI → Cfg
 | .e a=>entO Tryz.f284 (arg1S a)
 | .l b n i=>⟨sgnTl,st0 34 [(3,vS b),(4,vI n),(5,vI i)]⟩
noncomputable def sgnS : sgnI → Sh
 | .e a=>(.ob [crdQ a] (.cond (exV crdX a) (.ob [inK IntKind.i64 ((↑a.length : Int) - 2),0 ≤ (none : Option Int).getD 0 ∧ (none : Option Int).getD 0 ≤ (some ((↑a.length : Int) - 2)).getD (↑a.length : Int) ∧ (some ((↑a.length : Int) - 2)).getD (↑a.length : Int) ≤ (↑a.length : Int)] .leaf) .leaf))
 | .l b n i=>(.cond (decide (i < 3)) (.ob [0 ≤ i ∧ i < (↑([83,43,45] : List UInt8).length : Int),hasQ (b,(↑(([83,43,45] : List UInt8).getD i.toNat 0).toNat : Int))] (.cond (exV hasX (b,(↑(([83,43,45] : List UInt8).getD i.toNat 0).toNat : Int))) (.ob [inK IntKind.i64 (n + 1),inK IntKind.i64 (i + 1)] .leaf) (.ob [inK IntKind.i64 (i + 1)] .leaf))) (.ob [timesQ (b,84),inK IntKind.i64 (n + exV timesX (b,84)),timesQ (b,73),inK IntKind.i64 (n + exV timesX (b,84) + exV timesX (b,73)),timesQ (b,82),inK IntKind.i64 (n + exV timesX (b,84) + exV timesX (b,73) + exV timesX (b,82))] (.ret (RV.v (CV.one (SV.int IntKind.i64 (n + exV timesX (b,84) + exV timesX (b,73) + exV timesX (b,82))))))))
noncomputable def sgnN : sgnI → Nat → sgnI
 | .e a,0=>.l (List.drop ((none : Option Int).getD 0).toNat (List.take ((some ((↑a.length : Int) - 2)).getD (↑a.length : Int)).toNat a)) (1) (0)
 | .e a,_=>.l (a) (0) (0)
 | .l b n i,0=>.l (b) (n + 1) (i + 1)
 | .l b n i,_=>.l (b) (n) (i + 1)
def sgnK : sgnI → List Nat
 | .e _=>[]
 | .l _ _ _=>[3,4,5]
def sgnM : sgnI → Nat
 | .e a=>10
 | .l b n i=>(3 - i).toNat + 1
def sgnP (a0 : List UInt8) : sgnI → Prop
 | .e a=>a = a0 ∧ a.length ≤ 1000000
 | .l b n i=>b.length ≤ 1000000 ∧ 0 ≤ i ∧ i ≤ 3 ∧ 0 ≤ n ∧ n ≤ i + 1
theorem sgnX : ExF Tryz.prog 284 arg1S (fun n=>.v (vI n)) sgnQ (fun _ _=>True):=by
 intro a0 ha
 refine CallsF.ofV false Tryz.func284 kq kq (cuts hMu kq (T:=[cCrd.e,cHas.e,cTimes.e]) 40 sgnC sgnS sgnN sgnK (fun _=>[]) sgnM (sgnP a0) _ (fun i=>by cases i <;> kernel_rfl) (fun i=>by cases i <;> kernel_rfl) ?_ (fun i j hj=>?_) _ (.e a0) (Nat.lt_succ_self _) ⟨rfl,ha⟩)
 ·intro i hi
  cases i with
  | e a =>
   simp only [sgnP] at hi
   obtain ⟨rfl,hi⟩:=hi
   have o1 : crdQ a:=by simp only [allP,crdQ,List.length_cons,List.length_nil,List.length_take,List.length_drop,List.length_append]; omega
   have f1:=(exV_ok crdX a o1).2
   (try simp only at f1)
   refine ⟨o1,?_⟩
   refine ⟨fun h0=>?_,fun h0=>?_⟩
   ·have hc:=(exV_ok crdX a (by simp only [crdQ]; omega)).2 h0
    have o2 : inK IntKind.i64 ((↑a.length : Int) - 2):=⟨by omega,by omega⟩
    have o3 : 0 ≤ (none : Option Int).getD 0 ∧ (none : Option Int).getD 0 ≤ (some ((↑a.length : Int) - 2)).getD (↑a.length : Int) ∧ (some ((↑a.length : Int) - 2)).getD (↑a.length : Int) ≤ (↑a.length : Int):=by simp only [Option.getD_some,Option.getD_none]; omega
    refine ⟨⟨o2,o3⟩,?_⟩
    (try have hb:=bodyLen a); simp only [Sh.okE,Sh.n,Nat.zero_add,Nat.add_zero,Nat.reduceAdd,and_true,true_and,sgnS,sgnN,sgnP,sgnM]; omega
   ·(try have hb:=bodyLen a); simp only [Sh.okE,Sh.n,Nat.zero_add,Nat.add_zero,Nat.reduceAdd,and_true,true_and,sgnS,sgnN,sgnP,sgnM]; omega
  | l b n i =>
   simp only [sgnP] at hi
   refine ⟨fun h0=>?_,fun h0=>?_⟩
   ·have h0:=of_decide_eq_true h0
    have o4 : 0 ≤ i ∧ i < (↑([83,43,45] : List UInt8).length : Int):=⟨by omega,by omega⟩
    have b5_0:=UInt8.toNat_lt (([83,43,45] : List UInt8).getD i.toNat 0)
    have o5 : hasQ (b,(↑(([83,43,45] : List UInt8).getD i.toNat 0).toNat : Int)):=by simp only [allP,hasQ,List.length_cons,List.length_nil,List.length_take,List.length_drop,List.length_append]; omega
    refine ⟨⟨o4,o5⟩,?_⟩
    refine ⟨fun h1=>?_,fun h1=>?_⟩
    ·have o6 : inK IntKind.i64 (n + 1):=⟨by omega,by omega⟩
     have o7 : inK IntKind.i64 (i + 1):=⟨by omega,by omega⟩
     refine ⟨⟨o6,o7⟩,?_⟩
     (try have hb:=bodyLen a); simp only [Sh.okE,Sh.n,Nat.zero_add,Nat.add_zero,Nat.reduceAdd,and_true,true_and,sgnS,sgnN,sgnP,sgnM]; omega
    ·have o8 : inK IntKind.i64 (i + 1):=⟨by omega,by omega⟩
     refine ⟨o8,?_⟩
     (try have hb:=bodyLen a); simp only [Sh.okE,Sh.n,Nat.zero_add,Nat.add_zero,Nat.reduceAdd,and_true,true_and,sgnS,sgnN,sgnP,sgnM]; omega
   ·have h0:=of_decide_eq_false h0
    have o9 : timesQ (b,84):=by simp only [allP,timesQ,List.length_cons,List.length_nil,List.length_take,List.length_drop,List.length_append]; omega
    have f9:=(exV_ok timesX (b,84) o9).2
    (try simp only at f9)
    have o10 : inK IntKind.i64 (n + exV timesX (b,84)):=⟨by omega,by omega⟩
    have o11 : timesQ (b,73):=by simp only [allP,timesQ,List.length_cons,List.length_nil,List.length_take,List.length_drop,List.length_append]; omega
    have f11:=(exV_ok timesX (b,73) o11).2
    (try simp only at f11)
    have o12 : inK IntKind.i64 (n + exV timesX (b,84) + exV timesX (b,73)):=⟨by omega,by omega⟩
    have o13 : timesQ (b,82):=by simp only [allP,timesQ,List.length_cons,List.length_nil,List.length_take,List.length_drop,List.length_append]; omega
    have f13:=(exV_ok timesX (b,82) o13).2
    (try simp only at f13)
    have o14 : inK IntKind.i64 (n + exV timesX (b,84) + exV timesX (b,73) + exV timesX (b,82)):=⟨by omega,by omega⟩
    refine ⟨⟨o9,o10,o11,o12,o13,o14⟩,?_⟩
    exact ⟨⟨_,rfl,trivial⟩,rfl⟩
 ·cases i with
  | e a=>match j,hj with
   | 0,_=>exact ⟨kq,kq⟩
   | 1,_=>exact ⟨kq,kq⟩
  | l b n i=>match j,hj with
   | 0,_=>exact ⟨kq,kq⟩
   | 1,_=>exact ⟨kq,kq⟩
noncomputable def cSgn : Con Tryz.prog:=Con.ex sgnX un1s (fun _ _=>un1s_ok) []
noncomputable def TM : List (Ent Tryz.prog):=[cHas.e,cDri.e,cCrd.e]
inductive mkI where
 | e (a : List UInt8)
 | l (s b : List UInt8) (d : Int) (l : List UInt8) (v : Bool) (i : Int)
def mkSt (s b : List UInt8) (d : Int) (l : List UInt8) (v : Bool) (i : Int) (x : Option Addr × Nat) : St :=
 { n:=73,slots:=[(0,.v (vS s)),(3,.v (vS b)),(4,.v (vB d)),(5,.v (.one (.row 0 x.1 l.length x.2))),(6,.v (vT v)),(7,.v (vI i))],gs:=[],heap:=[],next:=0,
    rows:=[(0,rowL bsv 0 l x.1 x.2 5 1 true)],nr:=1,pers:=[],wr:=false,fx:=0 }
noncomputable def mkT0 : List Item:=(SX.iter (leafN (treeX Tryz.prog 285 TM 69 40 (entO Tryz.f285 (arg1S []))) 1 (entO Tryz.f285 (arg1S [])))).todo
noncomputable def mkC : mkI → Option Addr × Nat → Cfg
 | .e a,_=>entO Tryz.f285 (arg1S a)
 | .l s b d l v i,x=>⟨mkT0,mkSt s b d l v i x⟩
noncomputable def mkS : mkI → Sh
 | .e s=>.ob [crdQ s] (.cond (exV crdX s) (.ob [inK .i64 ((s.length : Int) - 2),0 ≤ (none : Option Int).getD 0 ∧ (none : Option Int).getD 0 ≤ (some ((s.length : Int) - 2)).getD (s.length : Int) ∧ (some ((s.length : Int) - 2)).getD (s.length : Int) ≤ (s.length : Int),
      driQ (List.drop ((none : Option Int).getD 0).toNat (List.take ((some ((s.length : Int) - 2)).getD (s.length : Int)).toNat s))] .leaf) (.ob [driQ s] .leaf))
 | .l s b d l v i=>.cond (decide (i < (b.length : Int))) (.ob [0 ≤ i ∧ i < (b.length : Int),hasQ (([57,89,84,73,82] : List UInt8),((b.getD i.toNat 0).toNat : Int))]
   (.cond (exV hasX (([57,89,84,73,82] : List UInt8),((b.getD i.toNat 0).toNat : Int))) .leaf (.ob [hasQ (([90,42] : List UInt8),((b.getD i.toNat 0).toNat : Int))] (.cond (exV hasX (([90,42] : List UInt8),((b.getD i.toNat 0).toNat : Int)) || d != 0 && ((b.getD i.toNat 0).toNat : Int) == d && v) .leaf
    (.cond (((b.getD i.toNat 0).toNat : Int) == 86) .leaf (.cond (((b.getD i.toNat 0).toNat : Int) == 36) .leaf (.ob [hasQ (([83,43,45] : List UInt8),((b.getD i.toNat 0).toNat : Int))] (.cond (exV hasX (([83,43,45] : List UInt8),((b.getD i.toNat 0).toNat : Int))) .leaf .leaf))))))))
   (.ob [crdQ s] (.cond (exV crdX s) .leaf .leaf))
def mkB : Nat → UInt8
 | 0=>100 | 1=>99 | 2=>118 | 3=>109 | 4=>115 | _=>105
noncomputable def mkN : mkI → Nat → mkI ⊕ Out
 | .e a,0=>.inl (.l a (List.drop ((none : Option Int).getD 0).toNat (List.take ((some ((a.length : Int) - 2)).getD (a.length : Int)).toNat a)) (exV driX (List.drop ((none : Option Int).getD 0).toNat (List.take ((some ((a.length : Int) - 2)).getD (a.length : Int)).toNat a))) [] false 0)
 | .e a,_=>.inl (.l a a (exV driX a) [] false 0)
 | .l s b d l v i,6=>.inr (.ret (.v (vS (l ++ [115,115]))))
 | .l s b d l v i,7=>.inr (.ret (.v (vS l)))
 | .l s b d l v i,j=>.inl (.l s b d (l ++ [mkB j]) (v || d != 0 && (↑(b.getD i.toNat 0).toNat : Int) == d) (i + 1))
def mkM : mkI → Nat
 | .e a=>a.length + 2
 | .l s b d l v i=>((b.length : Int) - i).toNat + 1
def mkP (a0 : List UInt8) : mkI → Prop
 | .e a=>a = a0
 | .l s b d l v i=>s = a0 ∧ b.length ≤ s.length ∧ (exV crdX s = true → b.length + 2 = s.length) ∧ (exV crdX s = false → b.length = s.length) ∧ (l.length : Int) = i ∧ i ≤ (b.length : Int)
def markQ (a : List UInt8) : Prop:=a.length ≤ 1000000
theorem mkStep {ρ base : Nat → Nat} {w : World} {o : Out} {s b : List UInt8} {d : Int} {l : List UInt8} {v : Bool} {i : Int} (hl : l.length ≤ 1000000) (hi : (l.length : Int) = i) (x : Option Addr × Nat) (j : Nat) (hj : j < 6)
  (k : ∀ y,V (ctxO Tryz.prog 285 ρ o w base) (mkC (.l s b d (l ++ [mkB j]) (v || d != 0 && (↑(b.getD i.toNat 0).toNat : Int) == d) (i + 1)) y)) : V (ctxO Tryz.prog 285 ρ o w base) (leafN (treeX Tryz.prog 285 TM 69 40 (mkC (.l s b d l v i) x)) j (mkC (.l s b d l v i) x)):=by
 obtain ⟨x1,x2⟩:=x
 match j,hj with
 | 0,_ =>
  refine V.push bsv 0 l (mkB 0) 0 x1 x2 5 1 [.int .u8 (mkB 0).toNat] 1 kq (by omega) rfl (fun _ _=>kq) (fun q' cap'=>?_)
  refine V.runT [] [inK .i64 (i + 1)] kq kq ⟨by omega,by omega⟩ ?_
  exact V.nrm (V.againK [0,3,4,5,6,7] [] (k (q',cap')) kq kq)
 | 1,_ =>
  refine V.push bsv 0 l (mkB 1) 0 x1 x2 5 1 [.int .u8 (mkB 1).toNat] 1 kq (by omega) rfl (fun _ _=>kq) (fun q' cap'=>?_)
  refine V.runT [] [inK .i64 (i + 1)] kq kq ⟨by omega,by omega⟩ ?_
  exact V.nrm (V.againK [0,3,4,5,6,7] [] (k (q',cap')) kq kq)
 | 2,_ =>
  refine V.push bsv 0 l (mkB 2) 0 x1 x2 5 1 [.int .u8 (mkB 2).toNat] 1 kq (by omega) rfl (fun _ _=>kq) (fun q' cap'=>?_)
  refine V.runT [] [inK .i64 (i + 1)] kq kq ⟨by omega,by omega⟩ ?_
  exact V.nrm (V.againK [0,3,4,5,6,7] [] (k (q',cap')) kq kq)
 | 3,_ =>
  refine V.push bsv 0 l (mkB 3) 0 x1 x2 5 1 [.int .u8 (mkB 3).toNat] 1 kq (by omega) rfl (fun _ _=>kq) (fun q' cap'=>?_)
  refine V.runT [] [inK .i64 (i + 1)] kq kq ⟨by omega,by omega⟩ ?_
  exact V.nrm (V.againK [0,3,4,5,6,7] [] (k (q',cap')) kq kq)
 | 4,_ =>
  refine V.push bsv 0 l (mkB 4) 0 x1 x2 5 1 [.int .u8 (mkB 4).toNat] 1 kq (by omega) rfl (fun _ _=>kq) (fun q' cap'=>?_)
  refine V.runT [] [inK .i64 (i + 1)] kq kq ⟨by omega,by omega⟩ ?_
  exact V.nrm (V.againK [0,3,4,5,6,7] [] (k (q',cap')) kq kq)
 | 5,_ =>
  refine V.push bsv 0 l (mkB 5) 0 x1 x2 5 1 [.int .u8 (mkB 5).toNat] 1 kq (by omega) rfl (fun _ _=>kq) (fun q' cap'=>?_)
  refine V.runT [] [inK .i64 (i + 1)] kq kq ⟨by omega,by omega⟩ ?_
  exact V.nrm (V.againK [0,3,4,5,6,7] [] (k (q',cap')) kq kq)
theorem markX : ExF Tryz.prog 285 arg1S (fun s=>.v (vS s)) markQ (fun a s=>s.length = a.length):=by
 intro a0 ha
 simp only [markQ] at ha
 suffices h : ∃ o,(∃ r,o = .ret (.v (vS r)) ∧ r.length = a0.length) ∧ ∀ x ρ base w,V (ctxO Tryz.prog 285 ρ o w base) (mkC (.e a0) x) by
  obtain ⟨o,h1,h2⟩:=h
  exact CallsF.ofV false Tryz.func285 kq kq ⟨o,h1,fun ρ base w=>h2 (none,0) ρ base w⟩
 refine cutsX hMu kq (T:=TM) 40 mkC mkS mkN mkM (mkP a0) (fun o=>∃ r,o = .ret (.v (vS r)) ∧ r.length = a0.length) (fun i x=>by cases i <;> kernel_rfl) (fun i x=>by cases i <;> kernel_rfl) ?_ (fun i x j hi hj=>?_) _ (.e a0) (Nat.lt_succ_self _) rfl
 ·intro i hi
  cases i with
  | e a =>
   have hi : a = a0:=hi
   subst hi
   refine ⟨ha,fun h=>?_,fun h=>?_⟩
   ·have hc:=(exV_ok crdX a ha).2 h
    have hb:=bodyLen a
    refine ⟨⟨⟨by omega,by omega⟩,by simp only [Option.getD_some,Option.getD_none]; omega,by simp only [allP,driQ]; omega⟩,?_⟩
    simp only [Sh.okE,mkN,mkP,mkM]
    refine ⟨⟨trivial,by omega,fun _=>by omega,(fun h2=>by rw [h] at h2; cases h2),by simp,by omega⟩,by omega⟩
   ·refine ⟨ha,?_⟩
    simp only [Sh.okE,Sh.n,Nat.zero_add,mkN,mkP,mkM]
    exact ⟨⟨trivial,by omega,(fun h2=>by rw [h] at h2; cases h2),fun _=>trivial,rfl,by omega⟩,by omega⟩
  | l s b d l v i =>
   obtain ⟨g1,g2,g3,g4,g5,g6⟩:=hi
   subst g1
   have hh : ∀ (x : List UInt8) (c : Int),x.length ≤ 1000000 → hasQ (x,c):=fun x c h=>h
   refine ⟨fun h=>?_,fun h=>?_⟩
   ·have h:=of_decide_eq_true h
    have hgo : ∀ j,j < 6 → (match mkN (.l s b d l v i) j with | .inl i'=>mkP s i' ∧ mkM i' < mkM (.l s b d l v i) | .inr o=>∃ r,o = Out.ret (.v (vS r)) ∧ r.length = s.length):=fun j hj=>by
     match j,hj with
     | 0,_ | 1,_ | 2,_ | 3,_ | 4,_ | 5,_ =>
      simp only [mkN,mkP,mkM,List.length_append,List.length_singleton]
      exact ⟨⟨trivial,g2,g3,g4,by omega,by omega⟩,by omega⟩
    refine ⟨⟨⟨by omega,by omega⟩,hh _ _ (by decide)⟩,fun _=>hgo 0 (by decide),fun _=>⟨hh _ _ (by decide),fun _=>hgo 1 (by decide),fun _=>⟨fun _=>hgo 2 (by decide),fun _=>⟨fun _=>hgo 3 (by decide),fun _=>⟨hh _ _ (by decide),fun _=>hgo 4 (by decide),fun _=>hgo 5 (by decide)⟩⟩⟩⟩⟩
   ·have h:=of_decide_eq_false h
    refine ⟨ha,fun hc=>?_,fun hc=>?_⟩
    ·have:=g3 hc
     exact ⟨_,rfl,by simp only [List.length_append,List.length_cons,List.length_nil]; omega⟩
    ·have:=g4 hc
     exact ⟨_,rfl,by omega⟩
 ·cases i with
  | e a=>match j,hj with
   | 0,_ =>
    exact fun ρ base w o k=>by
     refine V.rowB bsv 0 [] 5 1 0 kq (fun _=>rfl) (fun x y hy=>by simp only [bsv,List.mem_singleton] at hy; subst hy; trivial) (by show 0 ≤ maxLen; decide) (fun g=>kq) (fun g=>?_)
     refine V.slotRow 5 0 (rowL bsv 0 [] (some ⟨g,0,none⟩) 0 5 1 true) kq kq kq ?_
     exact V.nrm (V.againK [0,3,4,5,6,7] [] (k (some ⟨g,0,none⟩,0)) kq kq)
   | 1,_ =>
    exact fun ρ base w o k=>by
     refine V.rowB bsv 0 [] 5 1 0 kq (fun _=>rfl) (fun x y hy=>by simp only [bsv,List.mem_singleton] at hy; subst hy; trivial) (by show 0 ≤ maxLen; decide) (fun g=>kq) (fun g=>?_)
     refine V.slotRow 5 0 (rowL bsv 0 [] (some ⟨g,0,none⟩) 0 5 1 true) kq kq kq ?_
     exact V.nrm (V.againK [0,3,4,5,6,7] [] (k (some ⟨g,0,none⟩,0)) kq kq)
  | l s b d l v i =>
   obtain ⟨g1,g2,g3,g4,g5,g6⟩:=hi
   subst g1
   match j,hj with
   | 0,_ | 1,_ | 2,_ | 3,_ | 4,_ | 5,_=>exact fun ρ base w o k=>mkStep (by omega) g5 x _ (by decide) k
   | 6,_ =>
    exact fun ρ base w=>by
     obtain ⟨x1,x2⟩:=x
     refine V.toStr l 0 x1 x2 5 true kq kq ?_
     refine V.runT [] [l.length + ([115,115] : List UInt8).length ≤ 9223372036854775807] kq kq (by simp only [allP,markQ,List.length_cons,List.length_nil] at *; omega) ?_
     exact V.retO kq kq kq
   | 7,_ =>
    exact fun ρ base w=>by
     obtain ⟨x1,x2⟩:=x
     refine V.toStr l 0 x1 x2 5 true kq kq ?_
     refine V.q ?_
     exact V.retO kq kq kq
noncomputable def cMark : Con Tryz.prog:=Con.ex markX un1s (fun _ _=>un1s_ok) []
noncomputable def TN : List (Ent Tryz.prog):=[cChr.e,cCrd.e,cHas.e,cMark.e,cTimes.e,cDrs.e,cLds.e,cSgn.e,cSta.e]
def numQ (a : List UInt8) : Prop:=a.length ≤ 1000000
inductive numI where
 | e (a : List UInt8)
 | l (s : List UInt8) (b : List UInt8) (i : Int)
noncomputable def numTl : List Item:=headT 282 TN (entO Tryz.f282 (arg1S [])) 0
noncomputable def numC : numI → Cfg
 | .e a=>entO Tryz.f282 (arg1S a)
 | .l s b i=>⟨numTl,st0 50 [(0,vS s),(3,vS b),(4,vI i)]⟩
noncomputable def numS : numI → Sh
 | .e a=>(.ob [chrQ a] (.cond (exV chrX a) (.ret (RV.v (CV.one (SV.sb false)))) (.ob [crdQ a] (.cond (exV crdX a) (.ob [inK IntKind.i64 ((↑a.length : Int) - 2),0 ≤ (none : Option Int).getD 0 ∧ (none : Option Int).getD 0 ≤ (some ((↑a.length : Int) - 2)).getD (↑a.length : Int) ∧ (some ((↑a.length : Int) - 2)).getD (↑a.length : Int) ≤ (↑a.length : Int)] .leaf) .leaf))))
 | .l s b i=>(.cond (decide (i < (↑b.length : Int))) (.ob [0 ≤ i ∧ i < (↑b.length : Int),hasQ (([65,88,67,68] : List UInt8),(↑(b.getD i.toNat 0).toNat : Int))] (.cond (exV hasX (([65,88,67,68] : List UInt8),(↑(b.getD i.toNat 0).toNat : Int))) (.ret (RV.v (CV.one (SV.sb false)))) (.ob [inK IntKind.i64 (i + 1)] .leaf))) (.ob [markQ b,timesQ (b,86),decide (exV timesX (b,86) ≤ 1) = true → drsQ b,(decide (exV timesX (b,86) ≤ 1) && exV drsX b) = true → ldsQ (b,exV markX b),(decide (exV timesX (b,86) ≤ 1) && exV drsX b && exV ldsX (b,exV markX b)) = true → sgnQ s,(decide (exV timesX (b,86) ≤ 1) && exV drsX b && exV ldsX (b,exV markX b) && decide (exV sgnX s ≤ 1)) = true → staQ (b,exV markX b)] (.ret (RV.v (CV.one (SV.sb (decide (exV timesX (b,86) ≤ 1) && exV drsX b && exV ldsX (b,exV markX b) && decide (exV sgnX s ≤ 1) && exV staX (b,exV markX b))))))))
noncomputable def numN : numI → Nat → numI
 | .e a,0=>.l (a) (List.drop ((none : Option Int).getD 0).toNat (List.take ((some ((↑a.length : Int) - 2)).getD (↑a.length : Int)).toNat a)) (0)
 | .e a,_=>.l (a) (a) (0)
 | .l s b i,_=>.l (s) (b) (i + 1)
def numK : numI → List Nat
 | .e _=>[]
 | .l _ _ _=>[0,3,4]
def numM : numI → Nat
 | .e a=>a.length + 10
 | .l s b i=>((b.length : Int) - i).toNat + 1
def numP (a0 : List UInt8) : numI → Prop
 | .e a=>a = a0 ∧ a.length ≤ 1000000
 | .l s b i=>s.length ≤ 1000000 ∧ b.length ≤ 1000000 ∧ 0 ≤ i ∧ i ≤ (b.length : Int)
theorem numX : ExF Tryz.prog 282 arg1S (fun b=>.v (vT b)) numQ (fun _ _=>True):=by
 intro a0 ha
 refine CallsF.ofV false Tryz.func282 kq kq (cuts hMu kq (T:=TN) 40 numC numS numN numK (fun _=>[]) numM (numP a0) _ (fun i=>by cases i <;> kernel_rfl) (fun i=>by cases i <;> kernel_rfl) ?_ (fun i j hj=>?_) _ (.e a0) (Nat.lt_succ_self _) ⟨rfl,ha⟩)
 ·intro i hi
  cases i with
  | e a =>
   simp only [numP] at hi
   obtain ⟨rfl,hi⟩:=hi
   have o1 : chrQ a:=by simp only [allP,chrQ,List.length_cons,List.length_nil,List.length_take,List.length_drop,List.length_append]; omega
   refine ⟨o1,?_⟩
   refine ⟨fun h0=>?_,fun h0=>?_⟩
   ·exact ⟨⟨_,rfl,trivial⟩,rfl⟩
   ·have o2 : crdQ a:=by simp only [allP,crdQ,List.length_cons,List.length_nil,List.length_take,List.length_drop,List.length_append]; omega
    have f2:=(exV_ok crdX a o2).2
    (try simp only at f2)
    refine ⟨o2,?_⟩
    refine ⟨fun h1=>?_,fun h1=>?_⟩
    ·have hc:=(exV_ok crdX a (by simp only [crdQ]; omega)).2 h1
     have o3 : inK IntKind.i64 ((↑a.length : Int) - 2):=⟨by omega,by omega⟩
     have o4 : 0 ≤ (none : Option Int).getD 0 ∧ (none : Option Int).getD 0 ≤ (some ((↑a.length : Int) - 2)).getD (↑a.length : Int) ∧ (some ((↑a.length : Int) - 2)).getD (↑a.length : Int) ≤ (↑a.length : Int):=by simp only [Option.getD_some,Option.getD_none]; omega
     refine ⟨⟨o3,o4⟩,?_⟩
     (try have hb:=bodyLen a); simp only [Sh.okE,Sh.n,Nat.zero_add,Nat.add_zero,Nat.reduceAdd,and_true,true_and,numS,numN,numP,numM]; omega
    ·(try have hb:=bodyLen a); simp only [Sh.okE,Sh.n,Nat.zero_add,Nat.add_zero,Nat.reduceAdd,and_true,true_and,numS,numN,numP,numM]; omega
  | l s b i =>
   simp only [numP] at hi
   refine ⟨fun h0=>?_,fun h0=>?_⟩
   ·have h0:=of_decide_eq_true h0
    have o5 : 0 ≤ i ∧ i < (↑b.length : Int):=⟨by omega,by omega⟩
    have b6_0:=UInt8.toNat_lt (b.getD i.toNat 0)
    have o6 : hasQ (([65,88,67,68] : List UInt8),(↑(b.getD i.toNat 0).toNat : Int)):=by simp only [allP,hasQ,List.length_cons,List.length_nil,List.length_take,List.length_drop,List.length_append]; omega
    refine ⟨⟨o5,o6⟩,?_⟩
    refine ⟨fun h1=>?_,fun h1=>?_⟩
    ·exact ⟨⟨_,rfl,trivial⟩,rfl⟩
    ·have o7 : inK IntKind.i64 (i + 1):=⟨by omega,by omega⟩
     refine ⟨o7,?_⟩
     (try have hb:=bodyLen a); simp only [Sh.okE,Sh.n,Nat.zero_add,Nat.add_zero,Nat.reduceAdd,and_true,true_and,numS,numN,numP,numM]; omega
   ·have h0:=of_decide_eq_false h0
    have o8 : markQ b:=by simp only [allP,markQ]; omega
    have f8:=(exV_ok markX b o8).2
    (try simp only at f8)
    have o9 : timesQ (b,86):=by simp only [allP,timesQ,List.length_cons,List.length_nil,List.length_take,List.length_drop,List.length_append]; omega
    have f9:=(exV_ok timesX (b,86) o9).2
    (try simp only at f9)
    have o10 : decide (exV timesX (b,86) ≤ 1) = true → drsQ b:=fun g=>by (try simp only [Bool.or_eq_true,Bool.and_eq_true,Bool.or_eq_false_iff,Bool.and_eq_false_iff,decide_eq_true_eq,decide_eq_false_iff_not,Bool.not_eq_true',Bool.not_eq_false',Bool.not_eq_true,Bool.not_eq_false] at g); simp only [allP,drsQ,List.length_cons,List.length_nil,List.length_take,List.length_drop,List.length_append]; omega
    have o11 : (decide (exV timesX (b,86) ≤ 1) && exV drsX b) = true → ldsQ (b,exV markX b):=fun g=>by (try simp only [Bool.or_eq_true,Bool.and_eq_true,Bool.or_eq_false_iff,Bool.and_eq_false_iff,decide_eq_true_eq,decide_eq_false_iff_not,Bool.not_eq_true',Bool.not_eq_false',Bool.not_eq_true,Bool.not_eq_false] at g); simp only [allP,ldsQ,List.length_cons,List.length_nil,List.length_take,List.length_drop,List.length_append]; omega
    have o12 : (decide (exV timesX (b,86) ≤ 1) && exV drsX b && exV ldsX (b,exV markX b)) = true → sgnQ s:=fun g=>by (try simp only [Bool.or_eq_true,Bool.and_eq_true,Bool.or_eq_false_iff,Bool.and_eq_false_iff,decide_eq_true_eq,decide_eq_false_iff_not,Bool.not_eq_true',Bool.not_eq_false',Bool.not_eq_true,Bool.not_eq_false] at g); simp only [allP,sgnQ,List.length_cons,List.length_nil,List.length_take,List.length_drop,List.length_append]; omega
    have o13 : (decide (exV timesX (b,86) ≤ 1) && exV drsX b && exV ldsX (b,exV markX b) && decide (exV sgnX s ≤ 1)) = true → staQ (b,exV markX b):=fun g=>by (try simp only [Bool.or_eq_true,Bool.and_eq_true,Bool.or_eq_false_iff,Bool.and_eq_false_iff,decide_eq_true_eq,decide_eq_false_iff_not,Bool.not_eq_true',Bool.not_eq_false',Bool.not_eq_true,Bool.not_eq_false] at g); simp only [allP,staQ,List.length_cons,List.length_nil,List.length_take,List.length_drop,List.length_append]; omega
    refine ⟨⟨o8,o9,o10,o11,o12,o13⟩,?_⟩
    exact ⟨⟨_,rfl,trivial⟩,rfl⟩
 ·cases i with
  | e a=>match j,hj with
   | 0,_=>exact ⟨kq,kq⟩
   | 1,_=>exact ⟨kq,kq⟩
  | l s b i=>match j,hj with
   | 0,_=>exact ⟨kq,kq⟩
noncomputable def cNum : Con Tryz.prog:=Con.ex numX un1s (fun _ _=>un1s_ok) []
noncomputable def TP : List (Ent Tryz.prog):=[cXpd.e,cChr.e,cNum.e,cTimes.e,cSgn.e,cMark.e,cHas.e]
inductive psI where
 | e (a : List UInt8)
 | l (s m : List UInt8) (w d c : Int) (g : Bool) (i : Int)
def psSt (s m : List UInt8) (w d c : Int) (g : Bool) (i : Int) : St :=
 { n:=69,slots:=[(4,.v (vS s)),(7,.v (vS m)),(8,.v (vI i)),(2,.v (.one (.ptr 0 0))),(6,.v (.one (.ptr 1 0)))],gs:=[],
    heap:=[(0,⟨[.str [],.bool false,.int .i64 0,.int .i64 0,.int .i64 0,.bool false],273,true⟩),(1,⟨[.str s,.bool true,.int .i64 w,.int .i64 d,.int .i64 c,.sb g],273,true⟩)],next:=2,
    rows:=[],nr:=0,pers:=[],wr:=false,fx:=0 }
noncomputable def psT0 : List Item:=(SX.iter (leafN (treeX Tryz.prog 262 TP 69 40 (entO Tryz.f262 (arg1S []))) 0 (entO Tryz.f262 (arg1S [])))).todo
noncomputable def psC : psI → Unit → Cfg
 | .e a,_=>entO Tryz.f262 (arg1S a)
 | .l s m w d c g i,_=>⟨psT0,psSt s m w d c g i⟩
noncomputable def psS : psI → Sh
 | .e s=>.ob [xpdQ s] (.cond ((exV xpdX s).snd != 0) (.ret (.tup [.agg [.str [],.sb false,.int .i64 0,.int .i64 0,.int .i64 0,.sb false],vI (exV xpdX s).snd]))
   (.ob [chrQ (exV xpdX s).fst] (.cond (exV chrX (exV xpdX s).fst) (.ret (.tup [.agg [.str (exV xpdX s).fst,.sb false,.int .i64 ((exV xpdX s).fst.length : Int),.int .i64 0,.int .i64 0,.sb false],vI 0]))
    (.ob [numQ (exV xpdX s).fst] (.cond (!exV numX (exV xpdX s).fst) (.ret (.tup [.agg [.str [],.sb false,.int .i64 0,.int .i64 0,.int .i64 0,.sb false],vI 30]))
     (.ob [timesQ ((exV xpdX s).fst,86),inK .i64 (((exV xpdX s).fst.length : Int) - exV timesX ((exV xpdX s).fst,86)),sgnQ (exV xpdX s).fst,markQ (exV xpdX s).fst] .leaf))))))
 | .l s m w d c g i=>.cond (decide (i < (m.length : Int))) (.ob [0 ≤ i ∧ i < (m.length : Int),(((m.getD i.toNat 0).toNat : Int) == 100) = false → 0 ≤ i ∧ i < (m.length : Int)]
   (.cond (((m.getD i.toNat 0).toNat : Int) == 100 || ((m.getD i.toNat 0).toNat : Int) == 99)
    (.ob [inK .i64 (d + 1),0 ≤ (none : Option Int).getD 0 ∧ (none : Option Int).getD 0 ≤ (some i).getD (s.length : Int) ∧ (some i).getD (s.length : Int) ≤ (s.length : Int),hasQ (List.drop ((none : Option Int).getD 0).toNat (List.take ((some i).getD (s.length : Int)).toNat s),86)]
     (.cond (exV hasX (List.drop ((none : Option Int).getD 0).toNat (List.take ((some i).getD (s.length : Int)).toNat s),86)) (.ob [inK .i64 (c + 1),inK .i64 (i + 1)] .leaf) (.ob [inK .i64 (i + 1)] .leaf)))
    (.ob [inK .i64 (i + 1)] .leaf))) (.ret (.tup [.agg [.str s,.sb true,.int .i64 w,.int .i64 d,.int .i64 c,.sb g],vI 0]))
noncomputable def psN : psI → Nat → psI ⊕ Out
 | .e a,_=>.inl (.l (exV xpdX a).fst (exV markX (exV xpdX a).fst) (((exV xpdX a).fst.length : Int) - exV timesX ((exV xpdX a).fst,86)) 0 0 (exV sgnX (exV xpdX a).fst == 1) 0)
 | .l s m w d c g i,0=>.inl (.l s m w (d + 1) (c + 1) g (i + 1))
 | .l s m w d c g i,1=>.inl (.l s m w (d + 1) c g (i + 1))
 | .l s m w d c g i,_=>.inl (.l s m w d c g (i + 1))
def psM : psI → Nat
 | .e a=>100
 | .l s m w d c g i=>((m.length : Int) - i).toNat + 1
def psP (a0 : List UInt8) : psI → Prop
 | .e a=>a = a0
 | .l s m w d c g i=>s.length ≤ 32 ∧ m.length = s.length ∧ 0 ≤ i ∧ i ≤ (m.length : Int) ∧ 0 ≤ d ∧ d ≤ i ∧ 0 ≤ c ∧ c ≤ i
structure PcR where
 p : Pic
 e : Int
instance : Inhabited PcR:=⟨⟨.none,0⟩⟩
def pcV (r : PcR) : RV:=.tup [.agg [.str r.p.spec,.sb r.p.num,.int .i64 r.p.w,.int .i64 r.p.d,.int .i64 r.p.sc,.sb r.p.sg],vI r.e]
def prsQ (a : List UInt8) : Prop:=a.length ≤ 1000000
theorem prsX : ExF Tryz.prog 262 arg1S pcV prsQ (fun a s=>True):=by
 intro a0 ha
 simp only [prsQ] at ha
 suffices h : ∃ o,(∃ r,o = .ret (pcV r) ∧ True) ∧ ∀ x ρ base w,V (ctxO Tryz.prog 262 ρ o w base) (psC (.e a0) x) by
  obtain ⟨o,h1,h2⟩:=h
  exact CallsF.ofV false Tryz.func262 kq kq ⟨o,h1,fun ρ base w=>h2 () ρ base w⟩
 refine cutsX hMu kq (T:=TP) 40 psC psS psN psM (psP a0) (fun o=>∃ r,o = .ret (pcV r) ∧ True) (fun i x=>by cases i <;> kernel_rfl) (fun i x=>by cases i <;> kernel_rfl) ?_ (fun i x j hi hj=>?_) _ (.e a0) (Nat.lt_succ_self _) rfl
 ·intro i hi
  cases i with
  | e a =>
   have hi : a = a0:=hi
   subst hi
   have hx:=(exV_ok xpdX a ha).2
   (try simp only at hx)
   refine ⟨ha,fun h=>⟨⟨⟨⟨[],false,0,0,0,false⟩,_⟩,rfl,trivial⟩,rfl⟩,fun h=>⟨by simp only [allP,chrQ]; omega,fun h=>⟨⟨⟨⟨_,false,_,0,0,false⟩,0⟩,rfl,trivial⟩,rfl⟩,fun h=>⟨by simp only [allP,numQ]; omega,fun h=>⟨⟨⟨⟨[],false,0,0,0,false⟩,30⟩,rfl,trivial⟩,rfl⟩,fun h=>?_⟩⟩⟩
   have o1 : timesQ ((exV xpdX a).fst,86):=by simp only [timesQ]; omega
   have t1:=(exV_ok timesX _ o1).2
   have o2 : markQ (exV xpdX a).fst:=by simp only [markQ]; omega
   have t2:=(exV_ok markX _ o2).2
   (try simp only at t1 t2)
   refine ⟨⟨o1,⟨by omega,by omega⟩,by simp only [allP,sgnQ]; omega,o2⟩,?_⟩
   simp only [Sh.okE,psN,psP,psM]
   omega
  | l s m w d c g i =>
   obtain ⟨g1,g2,g3,g4,g5,g6,g7,g8⟩:=hi
   refine ⟨fun h=>?_,fun h=>⟨⟨⟨⟨_,true,_,_,_,_⟩,0⟩,rfl,trivial⟩,rfl⟩⟩
   have h:=of_decide_eq_true h
   refine ⟨⟨⟨by omega,by omega⟩,fun _=>⟨by omega,by omega⟩⟩,fun _=>⟨⟨⟨by omega,by omega⟩,by simp only [Option.getD_some,Option.getD_none]; omega,by simp only [allP,hasQ,List.length_drop,List.length_take,Option.getD_some,Option.getD_none]; omega⟩,fun _=>⟨⟨⟨by omega,by omega⟩,⟨by omega,by omega⟩⟩,?_⟩,fun _=>⟨⟨by omega,by omega⟩,?_⟩⟩,fun _=>⟨⟨by omega,by omega⟩,?_⟩⟩
   all_goals
    simp only [Sh.okE,Sh.n,Nat.zero_add,Nat.add_zero,Nat.reduceAdd,psN,psP,psM]
    omega
 ·cases i with
  | e a=>match j,hj with
   | 0,_=>exact fun ρ base w o k=>V.nrm (V.againK [4,7,8,2,6] [] (k ()) kq kq)
  | l s m w d c g i=>match j,hj with
   | 0,_=>exact fun ρ base w o k=>V.nrm (V.againK [4,7,8,2,6] [] (k ()) kq kq)
   | 1,_=>exact fun ρ base w o k=>V.nrm (V.againK [4,7,8,2,6] [] (k ()) kq kq)
   | 2,_=>exact fun ρ base w o k=>V.nrm (V.againK [4,7,8,2,6] [] (k ()) kq kq)
noncomputable def cPrs : Con Tryz.prog:=Con.ex prsX un1s (fun _ _=>un1s_ok) []
noncomputable def cPck : Con Tryz.prog:=Con.auto Tryz.func224 true [cPrs.e] [] kq kq
end Go.Proofs
end
section
namespace Go.SX
open Go
theorem FSat_stP {ρ : Nat → Nat} {w : World} {ps : List Pers} (h : PersOk ps w) : FSat ρ (stP ps) w :=
 ⟨(fun b blk h=>by cases h),(fun b c h=>absurd h (Nat.not_lt_zero _)),(fun b h=>absurd h (Nat.not_lt_zero _)),(fun r R h=>by cases h),(fun r r' R R' h=>by cases h),
    fun p hp=>⟨(h p hp).1,(h p hp).2.1,fun k hk=>⟨(h p hp).2.2 k hk,(fun b hb=>absurd hb (Nat.not_lt_zero _)),fun r R h=>by cases h⟩⟩⟩
def ExN {α β : Type} (P : Program) (f : FuncId) (need : List Pers) (arg : α → List CV) (res : β → RV) (pre : α → Prop) (Q : α → β → Prop) : Prop :=
 ∀ a,pre a → ∃ o,(∃ r,o = .ret (res r) ∧ Q a r) ∧ CallsF P f (arg a) (stP need) o
open Classical in
noncomputable def vN {α β : Type} [Inhabited β] {P : Program} {f : FuncId} {need : List Pers} {arg : α → List CV} {res : β → RV} {pre : α → Prop} {Q : α → β → Prop} (h : ExN P f need arg res pre Q) (a : α) : β :=
 if hp : pre a then Classical.choose (Classical.choose_spec (h a hp)).1 else default
theorem vN_ok {α β : Type} [Inhabited β] {P : Program} {f : FuncId} {need : List Pers} {arg : α → List CV} {res : β → RV} {pre : α → Prop} {Q : α → β → Prop} (h : ExN P f need arg res pre Q) (a : α) (hp : pre a) :
  CallsF P f (arg a) (stP need) (.ret (res (vN h a))) ∧ Q a (vN h a):=by
 have e : vN h a = Classical.choose (Classical.choose_spec (h a hp)).1:=by unfold vN; rw [dif_pos hp]
 have h1:=Classical.choose_spec (Classical.choose_spec (h a hp)).1
 have h2:=(Classical.choose_spec (h a hp)).2
 rw [h1.1] at h2
 rw [e]
 exact ⟨h2,h1.2⟩
noncomputable def Con.exN {α β : Type} [Inhabited β] {P : Program} {f : FuncId} {need : List Pers} {arg : α → List CV} {res : β → RV} {pre : α → Prop} {Q : α → β → Prop} (h : ExN P f need arg res pre Q) (un : List CV → Option α) (hun : ∀ xs a,un xs = some a → ∀ ρ : Nat → Nat,xs.map (CV.den ρ) = (arg a).map (CV.den ρ)) : Con P where
 f:=f
 need:=need
 fn:=fun xs=>match un xs with
  | some a=>some (res (vN h a),[pre a])
  | none=>none
 ok:=by
  intro xs v ob hx hob ρ w hp hl
  split at hx
  case h_2=>cases hx
  rename_i a ha
  cases hx
  rw [hun xs a ha ρ]
  exact (vN_ok h a (hob _ (List.mem_singleton.2 rfl))).1 ρ w (FSat_stP hp)
structure SlA where
 s : Option Addr
 n : Nat
 c : Nat
def slOf : CV → Option SlA
 | .one (.row _ s n c)=>some ⟨s,n,c⟩
 | .one (.val (.slice s n c))=>some ⟨s,n,c⟩
 | _=>none
def SlA.v (x : SlA) : CV:=.one (.val (.slice x.s x.n x.c))
theorem slOf_den {x : CV} {a : SlA} (h : slOf x = some a) (ρ : Nat → Nat) : x.den ρ = a.v.den ρ:=by
 unfold slOf at h
 split at h <;> cases h <;> rfl
end Go.SX
namespace Go.SX
open Go
def Con.fnN {α β : Type} {P : Program} {f : FuncId} {need : List Pers} {arg : α → List CV} {res : β → RV} {pre : α → Prop} {spec : α → β} (h : ExN P f need arg res pre (fun a r=>r = spec a)) (un : List CV → Option α) (hun : ∀ xs a,un xs = some a → ∀ ρ : Nat → Nat,xs.map (CV.den ρ) = (arg a).map (CV.den ρ)) : Con P where
 f:=f
 need:=need
 fn:=fun xs=>match un xs with
  | some a=>some (res (spec a),[pre a])
  | none=>none
 ok:=by
  intro xs v ob hx hob ρ w hp hl
  split at hx
  case h_2=>cases hx
  rename_i a ha
  cases hx
  rw [hun xs a ha ρ]
  obtain ⟨o,⟨r,rfl,h1⟩,h2⟩:=h a (hob _ (List.mem_singleton.2 rfl))
  subst h1
  exact h2 ρ w (FSat_stP hp)
end Go.SX
end
section
namespace Go.Proofs
open Go Go.SX
set_option maxRecDepth 10000
set_option maxHeartbeats 4000000
def arg1T (a : Ty) : List CV:=[.agg (tyC a)]
def tyOf : CV → Option Ty
 | .agg [.int .i64 k,.int .i64 p,.int .i64 q,.sb b,.str s]=>some ⟨k,p,q,b,s⟩
 | .agg [.int .i64 k,.int .i64 p,.int .i64 q,.bool b,.str s]=>some ⟨k,p,q,b,s⟩
 | _=>none
theorem tyOf_den {x : CV} {a : Ty} (h : tyOf x = some a) (ρ : Nat → Nat) : x.den ρ = (CV.agg (tyC a)).den ρ:=by
 unfold tyOf at h
 split at h <;> cases h <;> rfl
def un1T : List CV → Option Ty
 | [x]=>tyOf x
 | _=>none
theorem un1T_den (xs : List CV) (a : Ty) (h : un1T xs = some a) (ρ : Nat → Nat) : xs.map (CV.den ρ) = (arg1T a).map (CV.den ρ):=by
 unfold un1T at h
 split at h
 case h_2=>cases h
 simp only [arg1T,List.map_cons,List.map_nil,tyOf_den h ρ]
def ArOK (t : Ty) : Prop:=(t.k = 1 ∧ 1 ≤ t.p ∧ t.p ≤ 9 ∧ 0 ≤ t.q ∧ t.q ≤ t.p ∨ t.k = 2 ∧ 1 ≤ t.p ∧ t.p ≤ 31 ∧ t.q = 0) ∧ t.v = false ∧ t.s = []
def ChOK (t : Ty) : Prop:=t.k = 3 ∧ 0 ≤ t.p ∧ t.p ≤ 255 ∧ t.q = 0 ∧ t.s = []
def BtOK (t : Ty) : Prop:=t.k = 4 ∧ 0 ≤ t.p ∧ t.p ≤ 64 ∧ t.q = 0 ∧ t.v = false ∧ t.s = []
def InOK (t : Ty) : Prop:=t.k = 2 ∧ 1 ≤ t.p ∧ t.p ≤ 31 ∧ t.q = 0 ∧ t.v = false ∧ t.s = []
def PtOK (t : Ty) : Prop:=t.k = 6 ∧ t.p = 0 ∧ t.q = 0 ∧ t.v = false ∧ t.s = []
instance : Inhabited Ty:=⟨⟨0,0,0,false,[]⟩⟩
noncomputable def cIn : Con Tryz.prog:=Con.auto Tryz.func225 true [] [] kq kq
def arg3T (a : Int × Ty × Ty) : List CV:=[vI a.1,.agg (tyC a.2.1),.agg (tyC a.2.2)]
def un3T : List CV → Option (Int × Ty × Ty)
 | [.one (.int .i64 n),x,y]=>match tyOf x,tyOf y with
  | some a,some b=>some (n,a,b)
  | _,_=>none
 | _=>none
theorem un3T_den (xs : List CV) (a : Int × Ty × Ty) (h : un3T xs = some a) (ρ : Nat → Nat) : xs.map (CV.den ρ) = (arg3T a).map (CV.den ρ):=by
 unfold un3T at h
 split at h
 case h_2=>cases h
 split at h
 case h_2=>cases h
 rename_i h1 h2
 cases h
 simp only [arg3T,List.map_cons,List.map_nil,tyOf_den h1 ρ,tyOf_den h2 ρ]
def mostK (k : Int) : Int:=if k = 1 then 9 else 31
def dgT (op : Int) (a b : Ty) : Int :=
 if op = 5 ∨ op = 11 then a.p else if op = 8 then 1 + a.p + b.p else if op = 9 then mostK a.k else if op = 10 then b.p - b.q + max a.q b.q
 else if op = 12 ∨ op = 13 then max (a.p - a.q) (b.p - b.q) + max a.q b.q else 1 + max (a.p - a.q) (b.p - b.q) + max a.q b.q
def scT (op : Int) (a b : Ty) : Int :=
 if a.k = 2 then 0 else if op = 5 ∨ op = 11 then a.q else if op = 8 then min 9 (a.q + b.q) else if op = 9 then max 0 (9 - (a.p - a.q) - b.q) else max a.q b.q
def fxT (op : Int) (a b : Ty) : Ty:=⟨a.k,min (mostK a.k) (dgT op a b),scT op a b,false,[]⟩
def fxP (a : Int × Ty × Ty) : Prop:=5 ≤ a.1 ∧ a.1 ≤ 13 ∧ ArOK a.2.1 ∧ ArOK a.2.2 ∧ a.2.1.k = a.2.2.k
theorem fxP_nums {a : Int × Ty × Ty} (h : fxP a) : 5 ≤ a.1 ∧ a.1 ≤ 13 ∧ (a.2.1.k = 1 ∨ a.2.1.k = 2) ∧ a.2.1.k = a.2.2.k ∧ 1 ≤ a.2.1.p ∧ a.2.1.p ≤ 31 ∧ 1 ≤ a.2.2.p ∧ a.2.2.p ≤ 31 ∧ 0 ≤ a.2.1.q ∧ a.2.1.q ≤ a.2.1.p ∧ 0 ≤ a.2.2.q ∧ a.2.2.q ≤ a.2.2.p ∧ (a.2.1.k = 2 → a.2.1.q = 0 ∧ a.2.2.q = 0) ∧ (a.2.1.k = 1 → a.2.1.p ≤ 9 ∧ a.2.2.p ≤ 9):=by
 obtain ⟨h1,h2,⟨h3,_,_⟩,⟨h4,_,_⟩,h5⟩:=h
 omega
def fckQ (a : Ty) : Prop:=True
inductive fckI where
 | e (a : Ty)
noncomputable def fckC : fckI → Cfg
 | .e a=>entO Tryz.f160 (arg1T a)
noncomputable def fckS : fckI → Sh
 | .e a=>(.cond (!a.k == 1 && !a.k == 2 || decide (a.p < 1) || decide (a.p > bif a.k == 1 then 9 else 31) || decide (a.q < 0) || decide (a.q > a.p) || a.k == 2 && a.q != 0 || a.v || !a.s == ([] : List UInt8)) (.ret (RV.v (CV.one (SV.int IntKind.i64 5)))) (.ret (RV.v (CV.one (SV.int IntKind.i64 0)))))
noncomputable def fckN : fckI → Nat → fckI
 | .e a,_=>.e a
def fckK : fckI → List Nat
 | .e _=>[]
def fckM : fckI → Nat
 | .e a=>1
def fckP (a0 : Ty) : fckI → Prop
 | .e a=>a = a0 ∧ True
theorem fckX : ExN Tryz.prog 160 [] arg1T (fun r=>.v (vI r)) fckQ (fun a r=>(r = 0 ∧ ArOK a) ∨ (r = 5 ∧ ¬ ArOK a)):=by
 intro a0 ha
 refine CallsF.ofV false Tryz.func160 kq kq (cuts hMu kq (T:=[cMost.e]) 40 fckC fckS fckN fckK (fun _=>[]) fckM (fckP a0) _ (fun i=>by cases i <;> kernel_rfl) (fun i=>by cases i <;> kernel_rfl) ?_ (fun i j hj=>?_) _ (.e a0) (Nat.lt_succ_self _) ⟨rfl,ha⟩)
 ·intro i hi
  cases i with
  | e a =>
   simp only [fckP] at hi
   obtain ⟨rfl,hi⟩:=hi
   refine ⟨fun h0=>?_,fun h0=>?_⟩
   ·skip
    (refine ⟨⟨_,rfl,?_⟩,rfl⟩; obtain ⟨k,p,q,v,s⟩:=a; cases v <;> cases s <;> simp [ArOK,ChOK,BtOK,InOK,Bool.cond_eq_ite,-Bool.not_eq_true] at * <;> omega)
   ·skip
    (refine ⟨⟨_,rfl,?_⟩,rfl⟩; obtain ⟨k,p,q,v,s⟩:=a; cases v <;> cases s <;> simp [ArOK,ChOK,BtOK,InOK,Bool.cond_eq_ite,-Bool.not_eq_true] at * <;> omega)
 ·cases i with
  | e a=>exact absurd hj (Nat.not_lt_zero _)
noncomputable def cFck : Con Tryz.prog:=Con.exN fckX un1T un1T_den
def rckQ (a : Ty) : Prop:=True
inductive rckI where
 | e (a : Ty)
noncomputable def rckC : rckI → Cfg
 | .e a=>entO Tryz.f94 (arg1T a)
noncomputable def rckS : rckI → Sh
 | .e a=>(.cond (a.v || !a.s == ([] : List UInt8)) (.ret (RV.v (CV.one (SV.int IntKind.i64 5)))) (.cond (a.k == 1 && decide (a.p ≥ 1) && decide (a.p ≤ 9) && decide (a.q ≥ 0) && decide (a.q ≤ a.p)) (.ret (RV.v (CV.one (SV.int IntKind.i64 0)))) (.cond (a.k == 2 && decide (a.p ≥ 1) && decide (a.p ≤ 31) && a.q == 0) (.ret (RV.v (CV.one (SV.int IntKind.i64 0)))) (.ret (RV.v (CV.one (SV.int IntKind.i64 5)))))))
noncomputable def rckN : rckI → Nat → rckI
 | .e a,_=>.e a
def rckK : rckI → List Nat
 | .e _=>[]
def rckM : rckI → Nat
 | .e a=>1
def rckP (a0 : Ty) : rckI → Prop
 | .e a=>a = a0 ∧ True
theorem rckX : ExN Tryz.prog 94 [] arg1T (fun r=>.v (vI r)) rckQ (fun a r=>(r = 0 ∧ ArOK a) ∨ (r = 5 ∧ ¬ ArOK a)):=by
 intro a0 ha
 refine CallsF.ofV false Tryz.func94 kq kq (cuts hMu kq (T:=([] : List (Ent Tryz.prog))) 40 rckC rckS rckN rckK (fun _=>[]) rckM (rckP a0) _ (fun i=>by cases i <;> kernel_rfl) (fun i=>by cases i <;> kernel_rfl) ?_ (fun i j hj=>?_) _ (.e a0) (Nat.lt_succ_self _) ⟨rfl,ha⟩)
 ·intro i hi
  cases i with
  | e a =>
   simp only [rckP] at hi
   obtain ⟨rfl,hi⟩:=hi
   refine ⟨fun h0=>?_,fun h0=>?_⟩
   ·skip
    (refine ⟨⟨_,rfl,?_⟩,rfl⟩; obtain ⟨k,p,q,v,s⟩:=a; cases v <;> cases s <;> simp [ArOK,ChOK,BtOK,InOK,Bool.cond_eq_ite,-Bool.not_eq_true] at * <;> omega)
   ·skip
    refine ⟨fun h1=>?_,fun h1=>?_⟩
    ·skip
     (refine ⟨⟨_,rfl,?_⟩,rfl⟩; obtain ⟨k,p,q,v,s⟩:=a; cases v <;> cases s <;> simp [ArOK,ChOK,BtOK,InOK,Bool.cond_eq_ite,-Bool.not_eq_true] at * <;> omega)
    ·skip
     refine ⟨fun h2=>?_,fun h2=>?_⟩
     ·skip
      (refine ⟨⟨_,rfl,?_⟩,rfl⟩; obtain ⟨k,p,q,v,s⟩:=a; cases v <;> cases s <;> simp [ArOK,ChOK,BtOK,InOK,Bool.cond_eq_ite,-Bool.not_eq_true] at * <;> omega)
     ·skip
      (refine ⟨⟨_,rfl,?_⟩,rfl⟩; obtain ⟨k,p,q,v,s⟩:=a; cases v <;> cases s <;> simp [ArOK,ChOK,BtOK,InOK,Bool.cond_eq_ite,-Bool.not_eq_true] at * <;> omega)
 ·cases i with
  | e a=>exact absurd hj (Nat.not_lt_zero _)
noncomputable def cRck : Con Tryz.prog:=Con.exN rckX un1T un1T_den
def chtQ (a : Ty) : Prop:=True
inductive chtI where
 | e (a : Ty)
noncomputable def chtC : chtI → Cfg
 | .e a=>entO Tryz.f220 (arg1T a)
noncomputable def chtS : chtI → Sh
 | .e a=>(.ret (RV.v (CV.one (SV.sb (a.k == 3 && decide (a.p ≥ 0) && decide (a.p ≤ 255) && a.q == 0 && a.s == ([] : List UInt8))))))
noncomputable def chtN : chtI → Nat → chtI
 | .e a,_=>.e a
def chtK : chtI → List Nat
 | .e _=>[]
def chtM : chtI → Nat
 | .e a=>1
def chtP (a0 : Ty) : chtI → Prop
 | .e a=>a = a0 ∧ True
theorem chtX : ExN Tryz.prog 220 [] arg1T (fun r=>.v (vT r)) chtQ (fun a r=>r = true ↔ ChOK a):=by
 intro a0 ha
 refine CallsF.ofV false Tryz.func220 kq kq (cuts hMu kq (T:=([] : List (Ent Tryz.prog))) 40 chtC chtS chtN chtK (fun _=>[]) chtM (chtP a0) _ (fun i=>by cases i <;> kernel_rfl) (fun i=>by cases i <;> kernel_rfl) ?_ (fun i j hj=>?_) _ (.e a0) (Nat.lt_succ_self _) ⟨rfl,ha⟩)
 ·intro i hi
  cases i with
  | e a =>
   simp only [chtP] at hi
   obtain ⟨rfl,hi⟩:=hi
   (refine ⟨⟨_,rfl,?_⟩,rfl⟩; obtain ⟨k,p,q,v,s⟩:=a; cases v <;> cases s <;> simp [ArOK,ChOK,BtOK,InOK,Bool.cond_eq_ite,-Bool.not_eq_true] at * <;> omega)
 ·cases i with
  | e a=>exact absurd hj (Nat.not_lt_zero _)
noncomputable def cCht : Con Tryz.prog:=Con.exN chtX un1T un1T_den
def bttQ (a : Ty) : Prop:=True
inductive bttI where
 | e (a : Ty)
noncomputable def bttC : bttI → Cfg
 | .e a=>entO Tryz.f221 (arg1T a)
noncomputable def bttS : bttI → Sh
 | .e a=>(.ret (RV.v (CV.one (SV.sb (a.k == 4 && (a.p == a.p && (a.q == 0 && (a.v == false && a.s == ([] : List UInt8)))) && decide (a.p ≥ 0) && decide (a.p ≤ 64))))))
noncomputable def bttN : bttI → Nat → bttI
 | .e a,_=>.e a
def bttK : bttI → List Nat
 | .e _=>[]
def bttM : bttI → Nat
 | .e a=>1
def bttP (a0 : Ty) : bttI → Prop
 | .e a=>a = a0 ∧ True
theorem bttX : ExN Tryz.prog 221 [] arg1T (fun r=>.v (vT r)) bttQ (fun a r=>r = true ↔ BtOK a):=by
 intro a0 ha
 refine CallsF.ofV false Tryz.func221 kq kq (cuts hMu kq (T:=([] : List (Ent Tryz.prog))) 40 bttC bttS bttN bttK (fun _=>[]) bttM (bttP a0) _ (fun i=>by cases i <;> kernel_rfl) (fun i=>by cases i <;> kernel_rfl) ?_ (fun i j hj=>?_) _ (.e a0) (Nat.lt_succ_self _) ⟨rfl,ha⟩)
 ·intro i hi
  cases i with
  | e a =>
   simp only [bttP] at hi
   obtain ⟨rfl,hi⟩:=hi
   (refine ⟨⟨_,rfl,?_⟩,rfl⟩; obtain ⟨k,p,q,v,s⟩:=a; cases v <;> cases s <;> simp [ArOK,ChOK,BtOK,InOK,Bool.cond_eq_ite,-Bool.not_eq_true] at * <;> omega)
 ·cases i with
  | e a=>exact absurd hj (Nat.not_lt_zero _)
noncomputable def cBtt : Con Tryz.prog:=Con.exN bttX un1T un1T_den
def ittQ (a : Ty) : Prop:=True
inductive ittI where
 | e (a : Ty)
noncomputable def ittC : ittI → Cfg
 | .e a=>entO Tryz.f222 (arg1T a)
noncomputable def ittS : ittI → Sh
 | .e a=>(.ret (RV.v (CV.one (SV.sb (a.k == 2 && (a.p == a.p && (a.q == 0 && (a.v == false && a.s == ([] : List UInt8)))) && decide (a.p ≥ 1) && decide (a.p ≤ 31))))))
noncomputable def ittN : ittI → Nat → ittI
 | .e a,_=>.e a
def ittK : ittI → List Nat
 | .e _=>[]
def ittM : ittI → Nat
 | .e a=>1
def ittP (a0 : Ty) : ittI → Prop
 | .e a=>a = a0 ∧ True
theorem ittX : ExN Tryz.prog 222 [] arg1T (fun r=>.v (vT r)) ittQ (fun a r=>r = true ↔ InOK a):=by
 intro a0 ha
 refine CallsF.ofV false Tryz.func222 kq kq (cuts hMu kq (T:=([] : List (Ent Tryz.prog))) 40 ittC ittS ittN ittK (fun _=>[]) ittM (ittP a0) _ (fun i=>by cases i <;> kernel_rfl) (fun i=>by cases i <;> kernel_rfl) ?_ (fun i j hj=>?_) _ (.e a0) (Nat.lt_succ_self _) ⟨rfl,ha⟩)
 ·intro i hi
  cases i with
  | e a =>
   simp only [ittP] at hi
   obtain ⟨rfl,hi⟩:=hi
   (refine ⟨⟨_,rfl,?_⟩,rfl⟩; obtain ⟨k,p,q,v,s⟩:=a; cases v <;> cases s <;> simp [ArOK,ChOK,BtOK,InOK,Bool.cond_eq_ite,-Bool.not_eq_true] at * <;> omega)
 ·cases i with
  | e a=>exact absurd hj (Nat.not_lt_zero _)
noncomputable def cItt : Con Tryz.prog:=Con.exN ittX un1T un1T_den
def kndQ (a : Ty) : Prop:=True
inductive kndI where
 | e (a : Ty)
noncomputable def kndC : kndI → Cfg
 | .e a=>entO Tryz.f168 (arg1T a)
noncomputable def kndS : kndI → Sh
 | .e a=>(.cond (a.k == 3 && (a.q == 0 && a.s == ([] : List UInt8)) && (decide (a.p ≥ 0) && decide (a.p ≤ 255))) (.ret (RV.v (CV.one (SV.int IntKind.i64 3)))) (.cond (a.k == 4 && (a.q == 0 && a.s == ([] : List UInt8)) && !a.v && (decide (a.p ≥ 0) && decide (a.p ≤ 64))) (.ret (RV.v (CV.one (SV.int IntKind.i64 4)))) (.cond (a.k == 2 && (a.q == 0 && a.s == ([] : List UInt8)) && !a.v && (decide (a.p ≥ 1) && decide (a.p ≤ 31))) (.ret (RV.v (CV.one (SV.int IntKind.i64 2)))) (.ret (RV.v (CV.one (SV.int IntKind.i64 0)))))))
noncomputable def kndN : kndI → Nat → kndI
 | .e a,_=>.e a
def kndK : kndI → List Nat
 | .e _=>[]
def kndM : kndI → Nat
 | .e a=>1
def kndP (a0 : Ty) : kndI → Prop
 | .e a=>a = a0 ∧ True
theorem kndX : ExN Tryz.prog 168 [] arg1T (fun r=>.v (vI r)) kndQ (fun a r=>(r = 3 ∧ ChOK a) ∨ (r = 4 ∧ BtOK a) ∨ (r = 2 ∧ InOK a) ∨ (r = 0 ∧ ¬ ChOK a ∧ ¬ BtOK a ∧ ¬ InOK a)):=by
 intro a0 ha
 refine CallsF.ofV false Tryz.func168 kq kq (cuts hMu kq (T:=[cIn.e]) 40 kndC kndS kndN kndK (fun _=>[]) kndM (kndP a0) _ (fun i=>by cases i <;> kernel_rfl) (fun i=>by cases i <;> kernel_rfl) ?_ (fun i j hj=>?_) _ (.e a0) (Nat.lt_succ_self _) ⟨rfl,ha⟩)
 ·intro i hi
  cases i with
  | e a =>
   simp only [kndP] at hi
   obtain ⟨rfl,hi⟩:=hi
   refine ⟨fun h0=>?_,fun h0=>?_⟩
   ·skip
    (refine ⟨⟨_,rfl,?_⟩,rfl⟩; obtain ⟨k,p,q,v,s⟩:=a; cases v <;> cases s <;> simp [ArOK,ChOK,BtOK,InOK,Bool.cond_eq_ite,-Bool.not_eq_true] at * <;> omega)
   ·skip
    refine ⟨fun h1=>?_,fun h1=>?_⟩
    ·skip
     (refine ⟨⟨_,rfl,?_⟩,rfl⟩; obtain ⟨k,p,q,v,s⟩:=a; cases v <;> cases s <;> simp [ArOK,ChOK,BtOK,InOK,Bool.cond_eq_ite,-Bool.not_eq_true] at * <;> omega)
    ·skip
     refine ⟨fun h2=>?_,fun h2=>?_⟩
     ·skip
      (refine ⟨⟨_,rfl,?_⟩,rfl⟩; obtain ⟨k,p,q,v,s⟩:=a; cases v <;> cases s <;> simp [ArOK,ChOK,BtOK,InOK,Bool.cond_eq_ite,-Bool.not_eq_true] at * <;> omega)
     ·skip
      (refine ⟨⟨_,rfl,?_⟩,rfl⟩; obtain ⟨k,p,q,v,s⟩:=a; cases v <;> cases s <;> simp [ArOK,ChOK,BtOK,InOK,Bool.cond_eq_ite,-Bool.not_eq_true] at * <;> omega)
 ·cases i with
  | e a=>exact absurd hj (Nat.not_lt_zero _)
noncomputable def cKnd : Con Tryz.prog:=Con.exN kndX un1T un1T_den
noncomputable def cMostR : Con Tryz.prog:=Con.auto Tryz.func165 true [] [] kq kq
def dgtQ (a : Int × Ty × Ty) : Prop:=fxP a
inductive dgtI where
 | e (a : Int × Ty × Ty)
noncomputable def dgtC : dgtI → Cfg
 | .e a=>entO Tryz.f166 (arg3T a)
noncomputable def dgtS : dgtI → Sh
 | .e a=>(.ob [inK IntKind.i64 (a.snd.fst.p - a.snd.fst.q),inK IntKind.i64 (a.snd.snd.p - a.snd.snd.q)] (.cond (a.fst == 5) (.ret (RV.v (CV.one (SV.int IntKind.i64 a.snd.fst.p)))) (.cond (a.fst == 11) (.ret (RV.v (CV.one (SV.int IntKind.i64 a.snd.fst.p)))) (.cond (a.fst == 8) (.ob [inK IntKind.i64 (1 + a.snd.fst.p),inK IntKind.i64 (1 + a.snd.fst.p + a.snd.snd.p)] (.ret (RV.v (CV.one (SV.int IntKind.i64 (1 + a.snd.fst.p + a.snd.snd.p)))))) (.cond (a.fst == 9) (.ret (RV.v (CV.one (SV.int IntKind.i64 (bif a.snd.fst.k == 1 then 9 else 31))))) (.cond (a.fst == 10) (.ob [inK IntKind.i64 (a.snd.snd.p - a.snd.snd.q),inK IntKind.i64 (a.snd.snd.p - a.snd.snd.q + if a.snd.snd.q > a.snd.fst.q then a.snd.snd.q else a.snd.fst.q)] (.ret (RV.v (CV.one (SV.int IntKind.i64 (a.snd.snd.p - a.snd.snd.q + if a.snd.snd.q > a.snd.fst.q then a.snd.snd.q else a.snd.fst.q)))))) (.cond (a.fst == 12) (.ob [inK IntKind.i64 ((if a.snd.snd.p - a.snd.snd.q > a.snd.fst.p - a.snd.fst.q then a.snd.snd.p - a.snd.snd.q else a.snd.fst.p - a.snd.fst.q) + if a.snd.snd.q > a.snd.fst.q then a.snd.snd.q else a.snd.fst.q)] (.ret (RV.v (CV.one (SV.int IntKind.i64 ((if a.snd.snd.p - a.snd.snd.q > a.snd.fst.p - a.snd.fst.q then a.snd.snd.p - a.snd.snd.q else a.snd.fst.p - a.snd.fst.q) + if a.snd.snd.q > a.snd.fst.q then a.snd.snd.q else a.snd.fst.q)))))) (.cond (a.fst == 13) (.ob [inK IntKind.i64 ((if a.snd.snd.p - a.snd.snd.q > a.snd.fst.p - a.snd.fst.q then a.snd.snd.p - a.snd.snd.q else a.snd.fst.p - a.snd.fst.q) + if a.snd.snd.q > a.snd.fst.q then a.snd.snd.q else a.snd.fst.q)] (.ret (RV.v (CV.one (SV.int IntKind.i64 ((if a.snd.snd.p - a.snd.snd.q > a.snd.fst.p - a.snd.fst.q then a.snd.snd.p - a.snd.snd.q else a.snd.fst.p - a.snd.fst.q) + if a.snd.snd.q > a.snd.fst.q then a.snd.snd.q else a.snd.fst.q)))))) (.ob [inK IntKind.i64 (1 + if a.snd.snd.p - a.snd.snd.q > a.snd.fst.p - a.snd.fst.q then a.snd.snd.p - a.snd.snd.q else a.snd.fst.p - a.snd.fst.q),inK IntKind.i64 ((1 + if a.snd.snd.p - a.snd.snd.q > a.snd.fst.p - a.snd.fst.q then a.snd.snd.p - a.snd.snd.q else a.snd.fst.p - a.snd.fst.q) + if a.snd.snd.q > a.snd.fst.q then a.snd.snd.q else a.snd.fst.q)] (.ret (RV.v (CV.one (SV.int IntKind.i64 ((1 + if a.snd.snd.p - a.snd.snd.q > a.snd.fst.p - a.snd.fst.q then a.snd.snd.p - a.snd.snd.q else a.snd.fst.p - a.snd.fst.q) + if a.snd.snd.q > a.snd.fst.q then a.snd.snd.q else a.snd.fst.q))))))))))))))
noncomputable def dgtN : dgtI → Nat → dgtI
 | .e a,_=>.e a
def dgtK : dgtI → List Nat
 | .e _=>[]
def dgtM : dgtI → Nat
 | .e a=>1
def dgtP (a0 : Int × Ty × Ty) : dgtI → Prop
 | .e a=>a = a0 ∧ fxP a
theorem dgtX : ExN Tryz.prog 166 [] arg3T (fun r=>.v (vI r)) dgtQ (fun a r=>r = dgT a.1 a.2.1 a.2.2):=by
 intro a0 ha
 refine CallsF.ofV false Tryz.func166 kq kq (cuts hMu kq (T:=[cMostR.e]) 40 dgtC dgtS dgtN dgtK (fun _=>[]) dgtM (dgtP a0) _ (fun i=>by cases i <;> kernel_rfl) (fun i=>by cases i <;> kernel_rfl) ?_ (fun i j hj=>?_) _ (.e a0) (Nat.lt_succ_self _) ⟨rfl,ha⟩)
 ·intro i hi
  cases i with
  | e a =>
   simp only [dgtP] at hi
   obtain ⟨rfl,hi⟩:=hi
   have hn:=fxP_nums hi
   have o1 : inK IntKind.i64 (a.snd.fst.p - a.snd.fst.q):=⟨by omega,by omega⟩
   have o2 : inK IntKind.i64 (a.snd.snd.p - a.snd.snd.q):=⟨by omega,by omega⟩
   refine ⟨⟨o1,o2⟩,?_⟩
   refine ⟨fun h0=>?_,fun h0=>?_⟩
   ·(try simp only [Bool.or_eq_true,Bool.and_eq_true,Bool.or_eq_false_iff,Bool.and_eq_false_iff,beq_iff_eq,beq_eq_false_iff_ne,bne_iff_ne,decide_eq_true_eq,decide_eq_false_iff_not,ne_eq] at h0)
    exact ⟨⟨_,rfl,by simp only [dgT,mostK,Bool.cond_eq_ite,beq_iff_eq]; omega⟩,rfl⟩
   ·(try simp only [Bool.or_eq_true,Bool.and_eq_true,Bool.or_eq_false_iff,Bool.and_eq_false_iff,beq_iff_eq,beq_eq_false_iff_ne,bne_iff_ne,decide_eq_true_eq,decide_eq_false_iff_not,ne_eq] at h0)
    refine ⟨fun h1=>?_,fun h1=>?_⟩
    ·(try simp only [Bool.or_eq_true,Bool.and_eq_true,Bool.or_eq_false_iff,Bool.and_eq_false_iff,beq_iff_eq,beq_eq_false_iff_ne,bne_iff_ne,decide_eq_true_eq,decide_eq_false_iff_not,ne_eq] at h1)
     exact ⟨⟨_,rfl,by simp only [dgT,mostK,Bool.cond_eq_ite,beq_iff_eq]; omega⟩,rfl⟩
    ·(try simp only [Bool.or_eq_true,Bool.and_eq_true,Bool.or_eq_false_iff,Bool.and_eq_false_iff,beq_iff_eq,beq_eq_false_iff_ne,bne_iff_ne,decide_eq_true_eq,decide_eq_false_iff_not,ne_eq] at h1)
     refine ⟨fun h2=>?_,fun h2=>?_⟩
     ·(try simp only [Bool.or_eq_true,Bool.and_eq_true,Bool.or_eq_false_iff,Bool.and_eq_false_iff,beq_iff_eq,beq_eq_false_iff_ne,bne_iff_ne,decide_eq_true_eq,decide_eq_false_iff_not,ne_eq] at h2)
      have o3 : inK IntKind.i64 (1 + a.snd.fst.p):=⟨by omega,by omega⟩
      have o4 : inK IntKind.i64 (1 + a.snd.fst.p + a.snd.snd.p):=⟨by omega,by omega⟩
      refine ⟨⟨o3,o4⟩,?_⟩
      exact ⟨⟨_,rfl,by simp only [dgT,mostK,Bool.cond_eq_ite,beq_iff_eq]; omega⟩,rfl⟩
     ·(try simp only [Bool.or_eq_true,Bool.and_eq_true,Bool.or_eq_false_iff,Bool.and_eq_false_iff,beq_iff_eq,beq_eq_false_iff_ne,bne_iff_ne,decide_eq_true_eq,decide_eq_false_iff_not,ne_eq] at h2)
      refine ⟨fun h3=>?_,fun h3=>?_⟩
      ·(try simp only [Bool.or_eq_true,Bool.and_eq_true,Bool.or_eq_false_iff,Bool.and_eq_false_iff,beq_iff_eq,beq_eq_false_iff_ne,bne_iff_ne,decide_eq_true_eq,decide_eq_false_iff_not,ne_eq] at h3)
       exact ⟨⟨_,rfl,by simp only [dgT,mostK,Bool.cond_eq_ite,beq_iff_eq]; omega⟩,rfl⟩
      ·(try simp only [Bool.or_eq_true,Bool.and_eq_true,Bool.or_eq_false_iff,Bool.and_eq_false_iff,beq_iff_eq,beq_eq_false_iff_ne,bne_iff_ne,decide_eq_true_eq,decide_eq_false_iff_not,ne_eq] at h3)
       refine ⟨fun h4=>?_,fun h4=>?_⟩
       ·(try simp only [Bool.or_eq_true,Bool.and_eq_true,Bool.or_eq_false_iff,Bool.and_eq_false_iff,beq_iff_eq,beq_eq_false_iff_ne,bne_iff_ne,decide_eq_true_eq,decide_eq_false_iff_not,ne_eq] at h4)
        have o5 : inK IntKind.i64 (a.snd.snd.p - a.snd.snd.q):=⟨by omega,by omega⟩
        have o6 : inK IntKind.i64 (a.snd.snd.p - a.snd.snd.q + if a.snd.snd.q > a.snd.fst.q then a.snd.snd.q else a.snd.fst.q):=⟨by omega,by omega⟩
        refine ⟨⟨o5,o6⟩,?_⟩
        exact ⟨⟨_,rfl,by simp only [dgT,mostK,Bool.cond_eq_ite,beq_iff_eq]; omega⟩,rfl⟩
       ·(try simp only [Bool.or_eq_true,Bool.and_eq_true,Bool.or_eq_false_iff,Bool.and_eq_false_iff,beq_iff_eq,beq_eq_false_iff_ne,bne_iff_ne,decide_eq_true_eq,decide_eq_false_iff_not,ne_eq] at h4)
        refine ⟨fun h5=>?_,fun h5=>?_⟩
        ·(try simp only [Bool.or_eq_true,Bool.and_eq_true,Bool.or_eq_false_iff,Bool.and_eq_false_iff,beq_iff_eq,beq_eq_false_iff_ne,bne_iff_ne,decide_eq_true_eq,decide_eq_false_iff_not,ne_eq] at h5)
         have o7 : inK IntKind.i64 ((if a.snd.snd.p - a.snd.snd.q > a.snd.fst.p - a.snd.fst.q then a.snd.snd.p - a.snd.snd.q else a.snd.fst.p - a.snd.fst.q) + if a.snd.snd.q > a.snd.fst.q then a.snd.snd.q else a.snd.fst.q):=⟨by omega,by omega⟩
         refine ⟨o7,?_⟩
         exact ⟨⟨_,rfl,by simp only [dgT,mostK,Bool.cond_eq_ite,beq_iff_eq]; omega⟩,rfl⟩
        ·(try simp only [Bool.or_eq_true,Bool.and_eq_true,Bool.or_eq_false_iff,Bool.and_eq_false_iff,beq_iff_eq,beq_eq_false_iff_ne,bne_iff_ne,decide_eq_true_eq,decide_eq_false_iff_not,ne_eq] at h5)
         refine ⟨fun h6=>?_,fun h6=>?_⟩
         ·(try simp only [Bool.or_eq_true,Bool.and_eq_true,Bool.or_eq_false_iff,Bool.and_eq_false_iff,beq_iff_eq,beq_eq_false_iff_ne,bne_iff_ne,decide_eq_true_eq,decide_eq_false_iff_not,ne_eq] at h6)
          have o8 : inK IntKind.i64 ((if a.snd.snd.p - a.snd.snd.q > a.snd.fst.p - a.snd.fst.q then a.snd.snd.p - a.snd.snd.q else a.snd.fst.p - a.snd.fst.q) + if a.snd.snd.q > a.snd.fst.q then a.snd.snd.q else a.snd.fst.q):=⟨by omega,by omega⟩
          refine ⟨o8,?_⟩
          exact ⟨⟨_,rfl,by simp only [dgT,mostK,Bool.cond_eq_ite,beq_iff_eq]; omega⟩,rfl⟩
         ·(try simp only [Bool.or_eq_true,Bool.and_eq_true,Bool.or_eq_false_iff,Bool.and_eq_false_iff,beq_iff_eq,beq_eq_false_iff_ne,bne_iff_ne,decide_eq_true_eq,decide_eq_false_iff_not,ne_eq] at h6)
          have o9 : inK IntKind.i64 (1 + if a.snd.snd.p - a.snd.snd.q > a.snd.fst.p - a.snd.fst.q then a.snd.snd.p - a.snd.snd.q else a.snd.fst.p - a.snd.fst.q):=⟨by omega,by omega⟩
          have o10 : inK IntKind.i64 ((1 + if a.snd.snd.p - a.snd.snd.q > a.snd.fst.p - a.snd.fst.q then a.snd.snd.p - a.snd.snd.q else a.snd.fst.p - a.snd.fst.q) + if a.snd.snd.q > a.snd.fst.q then a.snd.snd.q else a.snd.fst.q):=⟨by omega,by omega⟩
          refine ⟨⟨o9,o10⟩,?_⟩
          exact ⟨⟨_,rfl,by simp only [dgT,mostK,Bool.cond_eq_ite,beq_iff_eq]; omega⟩,rfl⟩
 ·cases i with
  | e a=>exact absurd hj (Nat.not_lt_zero _)
noncomputable def cDgt : Con Tryz.prog:=Con.exN dgtX un3T un3T_den
def sctQ (a : Int × Ty × Ty) : Prop:=fxP a
inductive sctI where
 | e (a : Int × Ty × Ty)
noncomputable def sctC : sctI → Cfg
 | .e a=>entO Tryz.f167 (arg3T a)
noncomputable def sctS : sctI → Sh
 | .e a=>(.cond (a.snd.fst.k == 2) (.ret (RV.v (CV.one (SV.int IntKind.i64 0)))) (.cond (a.fst == 5) (.ret (RV.v (CV.one (SV.int IntKind.i64 a.snd.fst.q)))) (.cond (a.fst == 11) (.ret (RV.v (CV.one (SV.int IntKind.i64 a.snd.fst.q)))) (.cond (a.fst == 8) (.ob [inK IntKind.i64 (a.snd.fst.q + a.snd.snd.q)] (.ret (RV.v (CV.one (SV.int IntKind.i64 (if a.snd.fst.q + a.snd.snd.q < 9 then a.snd.fst.q + a.snd.snd.q else 9)))))) (.cond (a.fst == 9) (.ob [inK IntKind.i64 (a.snd.fst.p - a.snd.fst.q),inK IntKind.i64 (9 - (a.snd.fst.p - a.snd.fst.q)),inK IntKind.i64 (9 - (a.snd.fst.p - a.snd.fst.q) - a.snd.snd.q)] (.ret (RV.v (CV.one (SV.int IntKind.i64 (if 9 - (a.snd.fst.p - a.snd.fst.q) - a.snd.snd.q > 0 then 9 - (a.snd.fst.p - a.snd.fst.q) - a.snd.snd.q else 0)))))) (.ret (RV.v (CV.one (SV.int IntKind.i64 (if a.snd.snd.q > a.snd.fst.q then a.snd.snd.q else a.snd.fst.q))))))))))
noncomputable def sctN : sctI → Nat → sctI
 | .e a,_=>.e a
def sctK : sctI → List Nat
 | .e _=>[]
def sctM : sctI → Nat
 | .e a=>1
def sctP (a0 : Int × Ty × Ty) : sctI → Prop
 | .e a=>a = a0 ∧ fxP a
theorem sctX : ExN Tryz.prog 167 [] arg3T (fun r=>.v (vI r)) sctQ (fun a r=>r = scT a.1 a.2.1 a.2.2):=by
 intro a0 ha
 refine CallsF.ofV false Tryz.func167 kq kq (cuts hMu kq (T:=([] : List (Ent Tryz.prog))) 40 sctC sctS sctN sctK (fun _=>[]) sctM (sctP a0) _ (fun i=>by cases i <;> kernel_rfl) (fun i=>by cases i <;> kernel_rfl) ?_ (fun i j hj=>?_) _ (.e a0) (Nat.lt_succ_self _) ⟨rfl,ha⟩)
 ·intro i hi
  cases i with
  | e a =>
   simp only [sctP] at hi
   obtain ⟨rfl,hi⟩:=hi
   have hn:=fxP_nums hi
   refine ⟨fun h0=>?_,fun h0=>?_⟩
   ·(try simp only [Bool.or_eq_true,Bool.and_eq_true,Bool.or_eq_false_iff,Bool.and_eq_false_iff,beq_iff_eq,beq_eq_false_iff_ne,bne_iff_ne,decide_eq_true_eq,decide_eq_false_iff_not,ne_eq] at h0)
    exact ⟨⟨_,rfl,by simp only [scT]; omega⟩,rfl⟩
   ·(try simp only [Bool.or_eq_true,Bool.and_eq_true,Bool.or_eq_false_iff,Bool.and_eq_false_iff,beq_iff_eq,beq_eq_false_iff_ne,bne_iff_ne,decide_eq_true_eq,decide_eq_false_iff_not,ne_eq] at h0)
    refine ⟨fun h1=>?_,fun h1=>?_⟩
    ·(try simp only [Bool.or_eq_true,Bool.and_eq_true,Bool.or_eq_false_iff,Bool.and_eq_false_iff,beq_iff_eq,beq_eq_false_iff_ne,bne_iff_ne,decide_eq_true_eq,decide_eq_false_iff_not,ne_eq] at h1)
     exact ⟨⟨_,rfl,by simp only [scT]; omega⟩,rfl⟩
    ·(try simp only [Bool.or_eq_true,Bool.and_eq_true,Bool.or_eq_false_iff,Bool.and_eq_false_iff,beq_iff_eq,beq_eq_false_iff_ne,bne_iff_ne,decide_eq_true_eq,decide_eq_false_iff_not,ne_eq] at h1)
     refine ⟨fun h2=>?_,fun h2=>?_⟩
     ·(try simp only [Bool.or_eq_true,Bool.and_eq_true,Bool.or_eq_false_iff,Bool.and_eq_false_iff,beq_iff_eq,beq_eq_false_iff_ne,bne_iff_ne,decide_eq_true_eq,decide_eq_false_iff_not,ne_eq] at h2)
      exact ⟨⟨_,rfl,by simp only [scT]; omega⟩,rfl⟩
     ·(try simp only [Bool.or_eq_true,Bool.and_eq_true,Bool.or_eq_false_iff,Bool.and_eq_false_iff,beq_iff_eq,beq_eq_false_iff_ne,bne_iff_ne,decide_eq_true_eq,decide_eq_false_iff_not,ne_eq] at h2)
      refine ⟨fun h3=>?_,fun h3=>?_⟩
      ·(try simp only [Bool.or_eq_true,Bool.and_eq_true,Bool.or_eq_false_iff,Bool.and_eq_false_iff,beq_iff_eq,beq_eq_false_iff_ne,bne_iff_ne,decide_eq_true_eq,decide_eq_false_iff_not,ne_eq] at h3)
       have o1 : inK IntKind.i64 (a.snd.fst.q + a.snd.snd.q):=⟨by omega,by omega⟩
       refine ⟨o1,?_⟩
       exact ⟨⟨_,rfl,by simp only [scT]; omega⟩,rfl⟩
      ·(try simp only [Bool.or_eq_true,Bool.and_eq_true,Bool.or_eq_false_iff,Bool.and_eq_false_iff,beq_iff_eq,beq_eq_false_iff_ne,bne_iff_ne,decide_eq_true_eq,decide_eq_false_iff_not,ne_eq] at h3)
       refine ⟨fun h4=>?_,fun h4=>?_⟩
       ·(try simp only [Bool.or_eq_true,Bool.and_eq_true,Bool.or_eq_false_iff,Bool.and_eq_false_iff,beq_iff_eq,beq_eq_false_iff_ne,bne_iff_ne,decide_eq_true_eq,decide_eq_false_iff_not,ne_eq] at h4)
        have o2 : inK IntKind.i64 (a.snd.fst.p - a.snd.fst.q):=⟨by omega,by omega⟩
        have o3 : inK IntKind.i64 (9 - (a.snd.fst.p - a.snd.fst.q)):=⟨by omega,by omega⟩
        have o4 : inK IntKind.i64 (9 - (a.snd.fst.p - a.snd.fst.q) - a.snd.snd.q):=⟨by omega,by omega⟩
        refine ⟨⟨o2,o3,o4⟩,?_⟩
        exact ⟨⟨_,rfl,by simp only [scT]; omega⟩,rfl⟩
       ·(try simp only [Bool.or_eq_true,Bool.and_eq_true,Bool.or_eq_false_iff,Bool.and_eq_false_iff,beq_iff_eq,beq_eq_false_iff_ne,bne_iff_ne,decide_eq_true_eq,decide_eq_false_iff_not,ne_eq] at h4)
        exact ⟨⟨_,rfl,by simp only [scT]; omega⟩,rfl⟩
 ·cases i with
  | e a=>exact absurd hj (Nat.not_lt_zero _)
noncomputable def cSct : Con Tryz.prog:=Con.exN sctX un3T un3T_den
def tofQ (a : Int × Ty × Ty) : Prop:=fxP a
inductive tofI where
 | e (a : Int × Ty × Ty)
noncomputable def tofC : tofI → Cfg
 | .e a=>entO Tryz.f96 (arg3T a)
noncomputable def tofS : tofI → Sh
 | .e a=>(.ob [dgtQ (a.fst,{ k:=a.snd.fst.k,p:=a.snd.fst.p,q:=a.snd.fst.q,v:=a.snd.fst.v,s:=a.snd.fst.s },{ k:=a.snd.snd.k,p:=a.snd.snd.p,q:=a.snd.snd.q,v:=a.snd.snd.v,s:=a.snd.snd.s }),sctQ (a.fst,{ k:=a.snd.fst.k,p:=a.snd.fst.p,q:=a.snd.fst.q,v:=a.snd.fst.v,s:=a.snd.fst.s },{ k:=a.snd.snd.k,p:=a.snd.snd.p,q:=a.snd.snd.q,v:=a.snd.snd.v,s:=a.snd.snd.s })] (.ret (RV.v (CV.agg [SV.int IntKind.i64 a.snd.fst.k,SV.int IntKind.i64 (if vN dgtX (a.fst,{ k:=a.snd.fst.k,p:=a.snd.fst.p,q:=a.snd.fst.q,v:=a.snd.fst.v,s:=a.snd.fst.s },{ k:=a.snd.snd.k,p:=a.snd.snd.p,q:=a.snd.snd.q,v:=a.snd.snd.v,s:=a.snd.snd.s }) < bif a.snd.fst.k == 1 then 9 else 31 then vN dgtX (a.fst,{ k:=a.snd.fst.k,p:=a.snd.fst.p,q:=a.snd.fst.q,v:=a.snd.fst.v,s:=a.snd.fst.s },{ k:=a.snd.snd.k,p:=a.snd.snd.p,q:=a.snd.snd.q,v:=a.snd.snd.v,s:=a.snd.snd.s }) else bif a.snd.fst.k == 1 then 9 else 31),SV.int IntKind.i64 (vN sctX (a.fst,{ k:=a.snd.fst.k,p:=a.snd.fst.p,q:=a.snd.fst.q,v:=a.snd.fst.v,s:=a.snd.fst.s },{ k:=a.snd.snd.k,p:=a.snd.snd.p,q:=a.snd.snd.q,v:=a.snd.snd.v,s:=a.snd.snd.s })),SV.sb false,SV.str []]))))
noncomputable def tofN : tofI → Nat → tofI
 | .e a,_=>.e a
def tofK : tofI → List Nat
 | .e _=>[]
def tofM : tofI → Nat
 | .e a=>1
def tofP (a0 : Int × Ty × Ty) : tofI → Prop
 | .e a=>a = a0 ∧ fxP a
theorem tofX : ExN Tryz.prog 96 [] arg3T (fun r : Ty=>.v (.agg (tyC r))) tofQ (fun a r=>r = fxT a.1 a.2.1 a.2.2):=by
 intro a0 ha
 refine CallsF.ofV false Tryz.func96 kq kq (cuts hMu kq (T:=[cMostR.e,cDgt.e,cSct.e]) 40 tofC tofS tofN tofK (fun _=>[]) tofM (tofP a0) _ (fun i=>by cases i <;> kernel_rfl) (fun i=>by cases i <;> kernel_rfl) ?_ (fun i j hj=>?_) _ (.e a0) (Nat.lt_succ_self _) ⟨rfl,ha⟩)
 ·intro i hi
  cases i with
  | e a =>
   simp only [tofP] at hi
   obtain ⟨rfl,hi⟩:=hi
   have hn:=fxP_nums hi
   have o1 : dgtQ (a.fst,{ k:=a.snd.fst.k,p:=a.snd.fst.p,q:=a.snd.fst.q,v:=a.snd.fst.v,s:=a.snd.fst.s },{ k:=a.snd.snd.k,p:=a.snd.snd.p,q:=a.snd.snd.q,v:=a.snd.snd.v,s:=a.snd.snd.s }):=by simp only [allP,dgtQ,List.length_cons,List.length_nil,List.length_take,List.length_drop,List.length_append]; omega
   have f1:=(vN_ok dgtX (a.fst,{ k:=a.snd.fst.k,p:=a.snd.fst.p,q:=a.snd.fst.q,v:=a.snd.fst.v,s:=a.snd.fst.s },{ k:=a.snd.snd.k,p:=a.snd.snd.p,q:=a.snd.snd.q,v:=a.snd.snd.v,s:=a.snd.snd.s }) o1).2
   (try simp only at f1)
   have o2 : sctQ (a.fst,{ k:=a.snd.fst.k,p:=a.snd.fst.p,q:=a.snd.fst.q,v:=a.snd.fst.v,s:=a.snd.fst.s },{ k:=a.snd.snd.k,p:=a.snd.snd.p,q:=a.snd.snd.q,v:=a.snd.snd.v,s:=a.snd.snd.s }):=by simp only [allP,sctQ,List.length_cons,List.length_nil,List.length_take,List.length_drop,List.length_append]; omega
   have f2:=(vN_ok sctX (a.fst,{ k:=a.snd.fst.k,p:=a.snd.fst.p,q:=a.snd.fst.q,v:=a.snd.fst.v,s:=a.snd.fst.s },{ k:=a.snd.snd.k,p:=a.snd.snd.p,q:=a.snd.snd.q,v:=a.snd.snd.v,s:=a.snd.snd.s }) o2).2
   (try simp only at f2)
   refine ⟨⟨o1,o2⟩,?_⟩
   (refine ⟨⟨fxT a.1 a.2.1 a.2.2,?_,rfl⟩,rfl⟩; simp only [fxT,tyC,Out.ret.injEq,RV.v.injEq,CV.agg.injEq,List.cons.injEq,SV.int.injEq,and_true,true_and]; refine ⟨?_,?_⟩ <;> simp only [dgT,scT,mostK,Bool.cond_eq_ite,beq_iff_eq] at * <;> omega)
 ·cases i with
  | e a=>exact absurd hj (Nat.not_lt_zero _)
noncomputable def cTof : Con Tryz.prog:=Con.exN tofX un3T un3T_den
set_option maxHeartbeats 4000000
def freQ (a : Int × Ty × Ty) : Prop:=fxP a
inductive freI where
 | e (a : Int × Ty × Ty)
noncomputable def freC : freI → Cfg
 | .e a=>entO Tryz.f162 (arg3T a)
noncomputable def freS : freI → Sh
 | .e a=>(.cond (a.fst == 6) (.ob [inK IntKind.i64 (a.snd.fst.p - a.snd.fst.q),inK IntKind.i64 (a.snd.snd.p - a.snd.snd.q),inK IntKind.i64 (1 + if a.snd.snd.p - a.snd.snd.q > a.snd.fst.p - a.snd.fst.q then a.snd.snd.p - a.snd.snd.q else a.snd.fst.p - a.snd.fst.q),inK IntKind.i64 ((1 + if a.snd.snd.p - a.snd.snd.q > a.snd.fst.p - a.snd.fst.q then a.snd.snd.p - a.snd.snd.q else a.snd.fst.p - a.snd.fst.q) + if a.snd.snd.q > a.snd.fst.q then a.snd.snd.q else a.snd.fst.q)] (.cond (a.snd.fst.k == 2) (.ret (RV.v (CV.agg [SV.int IntKind.i64 a.snd.fst.k,SV.int IntKind.i64 (if ((bif a.snd.fst.k == 1 then (9 : Int) else 31)) < (1 + if a.snd.snd.p - a.snd.snd.q > a.snd.fst.p - a.snd.fst.q then a.snd.snd.p - a.snd.snd.q else a.snd.fst.p - a.snd.fst.q) + if a.snd.snd.q > a.snd.fst.q then a.snd.snd.q else a.snd.fst.q then (bif a.snd.fst.k == 1 then (9 : Int) else 31) else (1 + if a.snd.snd.p - a.snd.snd.q > a.snd.fst.p - a.snd.fst.q then a.snd.snd.p - a.snd.snd.q else a.snd.fst.p - a.snd.fst.q) + if a.snd.snd.q > a.snd.fst.q then a.snd.snd.q else a.snd.fst.q),SV.int IntKind.i64 0,SV.sb false,SV.str []]))) (.ret (RV.v (CV.agg [SV.int IntKind.i64 a.snd.fst.k,SV.int IntKind.i64 (if ((bif a.snd.fst.k == 1 then (9 : Int) else 31)) < (1 + if a.snd.snd.p - a.snd.snd.q > a.snd.fst.p - a.snd.fst.q then a.snd.snd.p - a.snd.snd.q else a.snd.fst.p - a.snd.fst.q) + if a.snd.snd.q > a.snd.fst.q then a.snd.snd.q else a.snd.fst.q then (bif a.snd.fst.k == 1 then (9 : Int) else 31) else (1 + if a.snd.snd.p - a.snd.snd.q > a.snd.fst.p - a.snd.fst.q then a.snd.snd.p - a.snd.snd.q else a.snd.fst.p - a.snd.fst.q) + if a.snd.snd.q > a.snd.fst.q then a.snd.snd.q else a.snd.fst.q),SV.int IntKind.i64 (if a.snd.snd.q > a.snd.fst.q then a.snd.snd.q else a.snd.fst.q),SV.sb false,SV.str []]))))) (.cond (a.fst == 7) (.ob [inK IntKind.i64 (a.snd.fst.p - a.snd.fst.q),inK IntKind.i64 (a.snd.snd.p - a.snd.snd.q),inK IntKind.i64 (1 + if a.snd.snd.p - a.snd.snd.q > a.snd.fst.p - a.snd.fst.q then a.snd.snd.p - a.snd.snd.q else a.snd.fst.p - a.snd.fst.q),inK IntKind.i64 ((1 + if a.snd.snd.p - a.snd.snd.q > a.snd.fst.p - a.snd.fst.q then a.snd.snd.p - a.snd.snd.q else a.snd.fst.p - a.snd.fst.q) + if a.snd.snd.q > a.snd.fst.q then a.snd.snd.q else a.snd.fst.q)] (.cond (a.snd.fst.k == 2) (.ret (RV.v (CV.agg [SV.int IntKind.i64 a.snd.fst.k,SV.int IntKind.i64 (if ((bif a.snd.fst.k == 1 then (9 : Int) else 31)) < (1 + if a.snd.snd.p - a.snd.snd.q > a.snd.fst.p - a.snd.fst.q then a.snd.snd.p - a.snd.snd.q else a.snd.fst.p - a.snd.fst.q) + if a.snd.snd.q > a.snd.fst.q then a.snd.snd.q else a.snd.fst.q then (bif a.snd.fst.k == 1 then (9 : Int) else 31) else (1 + if a.snd.snd.p - a.snd.snd.q > a.snd.fst.p - a.snd.fst.q then a.snd.snd.p - a.snd.snd.q else a.snd.fst.p - a.snd.fst.q) + if a.snd.snd.q > a.snd.fst.q then a.snd.snd.q else a.snd.fst.q),SV.int IntKind.i64 0,SV.sb false,SV.str []]))) (.ret (RV.v (CV.agg [SV.int IntKind.i64 a.snd.fst.k,SV.int IntKind.i64 (if ((bif a.snd.fst.k == 1 then (9 : Int) else 31)) < (1 + if a.snd.snd.p - a.snd.snd.q > a.snd.fst.p - a.snd.fst.q then a.snd.snd.p - a.snd.snd.q else a.snd.fst.p - a.snd.fst.q) + if a.snd.snd.q > a.snd.fst.q then a.snd.snd.q else a.snd.fst.q then (bif a.snd.fst.k == 1 then (9 : Int) else 31) else (1 + if a.snd.snd.p - a.snd.snd.q > a.snd.fst.p - a.snd.fst.q then a.snd.snd.p - a.snd.snd.q else a.snd.fst.p - a.snd.fst.q) + if a.snd.snd.q > a.snd.fst.q then a.snd.snd.q else a.snd.fst.q),SV.int IntKind.i64 (if a.snd.snd.q > a.snd.fst.q then a.snd.snd.q else a.snd.fst.q),SV.sb false,SV.str []]))))) (.cond (a.fst == 8) (.ob [inK IntKind.i64 (1 + a.snd.fst.p),inK IntKind.i64 (1 + a.snd.fst.p + a.snd.snd.p),inK IntKind.i64 (a.snd.fst.q + a.snd.snd.q)] (.cond (a.snd.fst.k == 2) (.ret (RV.v (CV.agg [SV.int IntKind.i64 a.snd.fst.k,SV.int IntKind.i64 (if ((bif a.snd.fst.k == 1 then (9 : Int) else 31)) < 1 + a.snd.fst.p + a.snd.snd.p then (bif a.snd.fst.k == 1 then (9 : Int) else 31) else 1 + a.snd.fst.p + a.snd.snd.p),SV.int IntKind.i64 0,SV.sb false,SV.str []]))) (.ret (RV.v (CV.agg [SV.int IntKind.i64 a.snd.fst.k,SV.int IntKind.i64 (if ((bif a.snd.fst.k == 1 then (9 : Int) else 31)) < 1 + a.snd.fst.p + a.snd.snd.p then (bif a.snd.fst.k == 1 then (9 : Int) else 31) else 1 + a.snd.fst.p + a.snd.snd.p),SV.int IntKind.i64 (if a.snd.fst.q + a.snd.snd.q < (bif a.snd.fst.k == 1 then (9 : Int) else 31) then a.snd.fst.q + a.snd.snd.q else (bif a.snd.fst.k == 1 then (9 : Int) else 31)),SV.sb false,SV.str []]))))) (.cond (a.fst == 9) (.ob [inK IntKind.i64 (a.snd.fst.p - a.snd.fst.q),inK IntKind.i64 (((bif a.snd.fst.k == 1 then (9 : Int) else 31)) - (a.snd.fst.p - a.snd.fst.q)),inK IntKind.i64 (((bif a.snd.fst.k == 1 then (9 : Int) else 31)) - (a.snd.fst.p - a.snd.fst.q) - a.snd.snd.q)] (.cond (a.snd.fst.k == 2) (.ret (RV.v (CV.agg [SV.int IntKind.i64 a.snd.fst.k,SV.int IntKind.i64 (if ((bif a.snd.fst.k == 1 then (9 : Int) else 31)) < (bif a.snd.fst.k == 1 then (9 : Int) else 31) then (bif a.snd.fst.k == 1 then (9 : Int) else 31) else (bif a.snd.fst.k == 1 then (9 : Int) else 31)),SV.int IntKind.i64 0,SV.sb false,SV.str []]))) (.ret (RV.v (CV.agg [SV.int IntKind.i64 a.snd.fst.k,SV.int IntKind.i64 (if ((bif a.snd.fst.k == 1 then (9 : Int) else 31)) < (bif a.snd.fst.k == 1 then (9 : Int) else 31) then (bif a.snd.fst.k == 1 then (9 : Int) else 31) else (bif a.snd.fst.k == 1 then (9 : Int) else 31)),SV.int IntKind.i64 (if ((bif a.snd.fst.k == 1 then (9 : Int) else 31)) - (a.snd.fst.p - a.snd.fst.q) - a.snd.snd.q > 0 then ((bif a.snd.fst.k == 1 then (9 : Int) else 31)) - (a.snd.fst.p - a.snd.fst.q) - a.snd.snd.q else 0),SV.sb false,SV.str []]))))) (.cond (a.fst == 10) (.ob [inK IntKind.i64 (a.snd.snd.p - a.snd.snd.q),inK IntKind.i64 (a.snd.snd.p - a.snd.snd.q + if a.snd.snd.q > a.snd.fst.q then a.snd.snd.q else a.snd.fst.q)] (.cond (a.snd.fst.k == 2) (.ret (RV.v (CV.agg [SV.int IntKind.i64 a.snd.fst.k,SV.int IntKind.i64 (if ((bif a.snd.fst.k == 1 then (9 : Int) else 31)) < a.snd.snd.p - a.snd.snd.q + if a.snd.snd.q > a.snd.fst.q then a.snd.snd.q else a.snd.fst.q then (bif a.snd.fst.k == 1 then (9 : Int) else 31) else a.snd.snd.p - a.snd.snd.q + if a.snd.snd.q > a.snd.fst.q then a.snd.snd.q else a.snd.fst.q),SV.int IntKind.i64 0,SV.sb false,SV.str []]))) (.ret (RV.v (CV.agg [SV.int IntKind.i64 a.snd.fst.k,SV.int IntKind.i64 (if ((bif a.snd.fst.k == 1 then (9 : Int) else 31)) < a.snd.snd.p - a.snd.snd.q + if a.snd.snd.q > a.snd.fst.q then a.snd.snd.q else a.snd.fst.q then (bif a.snd.fst.k == 1 then (9 : Int) else 31) else a.snd.snd.p - a.snd.snd.q + if a.snd.snd.q > a.snd.fst.q then a.snd.snd.q else a.snd.fst.q),SV.int IntKind.i64 (if a.snd.snd.q > a.snd.fst.q then a.snd.snd.q else a.snd.fst.q),SV.sb false,SV.str []]))))) (.cond (a.fst == 12) (.ob [inK IntKind.i64 (a.snd.fst.p - a.snd.fst.q),inK IntKind.i64 (a.snd.snd.p - a.snd.snd.q),inK IntKind.i64 ((if a.snd.snd.p - a.snd.snd.q > a.snd.fst.p - a.snd.fst.q then a.snd.snd.p - a.snd.snd.q else a.snd.fst.p - a.snd.fst.q) + if a.snd.snd.q > a.snd.fst.q then a.snd.snd.q else a.snd.fst.q)] (.cond (a.snd.fst.k == 2) (.ret (RV.v (CV.agg [SV.int IntKind.i64 a.snd.fst.k,SV.int IntKind.i64 (if ((bif a.snd.fst.k == 1 then (9 : Int) else 31)) < (if a.snd.snd.p - a.snd.snd.q > a.snd.fst.p - a.snd.fst.q then a.snd.snd.p - a.snd.snd.q else a.snd.fst.p - a.snd.fst.q) + if a.snd.snd.q > a.snd.fst.q then a.snd.snd.q else a.snd.fst.q then (bif a.snd.fst.k == 1 then (9 : Int) else 31) else (if a.snd.snd.p - a.snd.snd.q > a.snd.fst.p - a.snd.fst.q then a.snd.snd.p - a.snd.snd.q else a.snd.fst.p - a.snd.fst.q) + if a.snd.snd.q > a.snd.fst.q then a.snd.snd.q else a.snd.fst.q),SV.int IntKind.i64 0,SV.sb false,SV.str []]))) (.ret (RV.v (CV.agg [SV.int IntKind.i64 a.snd.fst.k,SV.int IntKind.i64 (if ((bif a.snd.fst.k == 1 then (9 : Int) else 31)) < (if a.snd.snd.p - a.snd.snd.q > a.snd.fst.p - a.snd.fst.q then a.snd.snd.p - a.snd.snd.q else a.snd.fst.p - a.snd.fst.q) + if a.snd.snd.q > a.snd.fst.q then a.snd.snd.q else a.snd.fst.q then (bif a.snd.fst.k == 1 then (9 : Int) else 31) else (if a.snd.snd.p - a.snd.snd.q > a.snd.fst.p - a.snd.fst.q then a.snd.snd.p - a.snd.snd.q else a.snd.fst.p - a.snd.fst.q) + if a.snd.snd.q > a.snd.fst.q then a.snd.snd.q else a.snd.fst.q),SV.int IntKind.i64 (if a.snd.snd.q > a.snd.fst.q then a.snd.snd.q else a.snd.fst.q),SV.sb false,SV.str []]))))) (.cond (a.fst == 13) (.ob [inK IntKind.i64 (a.snd.fst.p - a.snd.fst.q),inK IntKind.i64 (a.snd.snd.p - a.snd.snd.q),inK IntKind.i64 ((if a.snd.snd.p - a.snd.snd.q > a.snd.fst.p - a.snd.fst.q then a.snd.snd.p - a.snd.snd.q else a.snd.fst.p - a.snd.fst.q) + if a.snd.snd.q > a.snd.fst.q then a.snd.snd.q else a.snd.fst.q)] (.cond (a.snd.fst.k == 2) (.ret (RV.v (CV.agg [SV.int IntKind.i64 a.snd.fst.k,SV.int IntKind.i64 (if ((bif a.snd.fst.k == 1 then (9 : Int) else 31)) < (if a.snd.snd.p - a.snd.snd.q > a.snd.fst.p - a.snd.fst.q then a.snd.snd.p - a.snd.snd.q else a.snd.fst.p - a.snd.fst.q) + if a.snd.snd.q > a.snd.fst.q then a.snd.snd.q else a.snd.fst.q then (bif a.snd.fst.k == 1 then (9 : Int) else 31) else (if a.snd.snd.p - a.snd.snd.q > a.snd.fst.p - a.snd.fst.q then a.snd.snd.p - a.snd.snd.q else a.snd.fst.p - a.snd.fst.q) + if a.snd.snd.q > a.snd.fst.q then a.snd.snd.q else a.snd.fst.q),SV.int IntKind.i64 0,SV.sb false,SV.str []]))) (.ret (RV.v (CV.agg [SV.int IntKind.i64 a.snd.fst.k,SV.int IntKind.i64 (if ((bif a.snd.fst.k == 1 then (9 : Int) else 31)) < (if a.snd.snd.p - a.snd.snd.q > a.snd.fst.p - a.snd.fst.q then a.snd.snd.p - a.snd.snd.q else a.snd.fst.p - a.snd.fst.q) + if a.snd.snd.q > a.snd.fst.q then a.snd.snd.q else a.snd.fst.q then (bif a.snd.fst.k == 1 then (9 : Int) else 31) else (if a.snd.snd.p - a.snd.snd.q > a.snd.fst.p - a.snd.fst.q then a.snd.snd.p - a.snd.snd.q else a.snd.fst.p - a.snd.fst.q) + if a.snd.snd.q > a.snd.fst.q then a.snd.snd.q else a.snd.fst.q),SV.int IntKind.i64 (if a.snd.snd.q > a.snd.fst.q then a.snd.snd.q else a.snd.fst.q),SV.sb false,SV.str []]))))) (.cond (a.snd.fst.k == 2) (.ret (RV.v (CV.agg [SV.int IntKind.i64 a.snd.fst.k,SV.int IntKind.i64 (if ((bif a.snd.fst.k == 1 then (9 : Int) else 31)) < a.snd.fst.p then (bif a.snd.fst.k == 1 then (9 : Int) else 31) else a.snd.fst.p),SV.int IntKind.i64 0,SV.sb false,SV.str []]))) (.ret (RV.v (CV.agg [SV.int IntKind.i64 a.snd.fst.k,SV.int IntKind.i64 (if ((bif a.snd.fst.k == 1 then (9 : Int) else 31)) < a.snd.fst.p then (bif a.snd.fst.k == 1 then (9 : Int) else 31) else a.snd.fst.p),SV.int IntKind.i64 a.snd.fst.q,SV.sb false,SV.str []])))))))))))
noncomputable def freN : freI → Nat → freI
 | .e a,_=>.e a
def freK : freI → List Nat
 | .e _=>[]
def freM : freI → Nat
 | .e a=>1
def freP (a0 : Int × Ty × Ty) : freI → Prop
 | .e a=>a = a0 ∧ fxP a
theorem freX : ExN Tryz.prog 162 [] arg3T (fun r : Ty=>.v (.agg (tyC r))) freQ (fun a r=>r = fxT a.1 a.2.1 a.2.2):=by
 intro a0 ha
 refine CallsF.ofV false Tryz.func162 kq kq (cuts hMu kq (T:=[cMost.e]) 40 freC freS freN freK (fun _=>[]) freM (freP a0) _ (fun i=>by cases i <;> kernel_rfl) (fun i=>by cases i <;> kernel_rfl) ?_ (fun i j hj=>?_) _ (.e a0) (Nat.lt_succ_self _) ⟨rfl,ha⟩)
 ·intro i hi
  cases i with
  | e a =>
   simp only [freP] at hi
   obtain ⟨rfl,hi⟩:=hi
   have hn:=fxP_nums hi
   have hm : (a.snd.fst.k = 1 → (bif a.snd.fst.k == 1 then (9 : Int) else 31) = 9) ∧ (a.snd.fst.k = 2 → (bif a.snd.fst.k == 1 then (9 : Int) else 31) = 31):=⟨fun h=>by rw [h]; rfl,fun h=>by rw [h]; rfl⟩
   refine ⟨fun h0=>?_,fun h0=>?_⟩
   ·(try simp only [Bool.or_eq_true,Bool.and_eq_true,Bool.or_eq_false_iff,Bool.and_eq_false_iff,beq_iff_eq,beq_eq_false_iff_ne,bne_iff_ne,decide_eq_true_eq,decide_eq_false_iff_not,ne_eq] at h0)
    have o1 : inK IntKind.i64 (a.snd.fst.p - a.snd.fst.q):=⟨by omega,by omega⟩
    have o2 : inK IntKind.i64 (a.snd.snd.p - a.snd.snd.q):=⟨by omega,by omega⟩
    have o3 : inK IntKind.i64 (1 + if a.snd.snd.p - a.snd.snd.q > a.snd.fst.p - a.snd.fst.q then a.snd.snd.p - a.snd.snd.q else a.snd.fst.p - a.snd.fst.q):=⟨by omega,by omega⟩
    have o4 : inK IntKind.i64 ((1 + if a.snd.snd.p - a.snd.snd.q > a.snd.fst.p - a.snd.fst.q then a.snd.snd.p - a.snd.snd.q else a.snd.fst.p - a.snd.fst.q) + if a.snd.snd.q > a.snd.fst.q then a.snd.snd.q else a.snd.fst.q):=⟨by omega,by omega⟩
    refine ⟨⟨o1,o2,o3,o4⟩,?_⟩
    refine ⟨fun h1=>?_,fun h1=>?_⟩
    ·(try simp only [Bool.or_eq_true,Bool.and_eq_true,Bool.or_eq_false_iff,Bool.and_eq_false_iff,beq_iff_eq,beq_eq_false_iff_ne,bne_iff_ne,decide_eq_true_eq,decide_eq_false_iff_not,ne_eq] at h1)
     (refine ⟨⟨fxT a.1 a.2.1 a.2.2,?_,rfl⟩,rfl⟩; simp only [fxT,tyC,Out.ret.injEq,RV.v.injEq,CV.agg.injEq,List.cons.injEq,SV.int.injEq,and_true,true_and]; refine ⟨?_,?_⟩ <;> simp only [dgT,scT,mostK,Bool.cond_eq_ite,beq_iff_eq] <;> omega)
    ·(try simp only [Bool.or_eq_true,Bool.and_eq_true,Bool.or_eq_false_iff,Bool.and_eq_false_iff,beq_iff_eq,beq_eq_false_iff_ne,bne_iff_ne,decide_eq_true_eq,decide_eq_false_iff_not,ne_eq] at h1)
     (refine ⟨⟨fxT a.1 a.2.1 a.2.2,?_,rfl⟩,rfl⟩; simp only [fxT,tyC,Out.ret.injEq,RV.v.injEq,CV.agg.injEq,List.cons.injEq,SV.int.injEq,and_true,true_and]; refine ⟨?_,?_⟩ <;> simp only [dgT,scT,mostK,Bool.cond_eq_ite,beq_iff_eq] <;> omega)
   ·(try simp only [Bool.or_eq_true,Bool.and_eq_true,Bool.or_eq_false_iff,Bool.and_eq_false_iff,beq_iff_eq,beq_eq_false_iff_ne,bne_iff_ne,decide_eq_true_eq,decide_eq_false_iff_not,ne_eq] at h0)
    refine ⟨fun h1=>?_,fun h1=>?_⟩
    ·(try simp only [Bool.or_eq_true,Bool.and_eq_true,Bool.or_eq_false_iff,Bool.and_eq_false_iff,beq_iff_eq,beq_eq_false_iff_ne,bne_iff_ne,decide_eq_true_eq,decide_eq_false_iff_not,ne_eq] at h1)
     have o5 : inK IntKind.i64 (a.snd.fst.p - a.snd.fst.q):=⟨by omega,by omega⟩
     have o6 : inK IntKind.i64 (a.snd.snd.p - a.snd.snd.q):=⟨by omega,by omega⟩
     have o7 : inK IntKind.i64 (1 + if a.snd.snd.p - a.snd.snd.q > a.snd.fst.p - a.snd.fst.q then a.snd.snd.p - a.snd.snd.q else a.snd.fst.p - a.snd.fst.q):=⟨by omega,by omega⟩
     have o8 : inK IntKind.i64 ((1 + if a.snd.snd.p - a.snd.snd.q > a.snd.fst.p - a.snd.fst.q then a.snd.snd.p - a.snd.snd.q else a.snd.fst.p - a.snd.fst.q) + if a.snd.snd.q > a.snd.fst.q then a.snd.snd.q else a.snd.fst.q):=⟨by omega,by omega⟩
     refine ⟨⟨o5,o6,o7,o8⟩,?_⟩
     refine ⟨fun h2=>?_,fun h2=>?_⟩
     ·(try simp only [Bool.or_eq_true,Bool.and_eq_true,Bool.or_eq_false_iff,Bool.and_eq_false_iff,beq_iff_eq,beq_eq_false_iff_ne,bne_iff_ne,decide_eq_true_eq,decide_eq_false_iff_not,ne_eq] at h2)
      (refine ⟨⟨fxT a.1 a.2.1 a.2.2,?_,rfl⟩,rfl⟩; simp only [fxT,tyC,Out.ret.injEq,RV.v.injEq,CV.agg.injEq,List.cons.injEq,SV.int.injEq,and_true,true_and]; refine ⟨?_,?_⟩ <;> simp only [dgT,scT,mostK,Bool.cond_eq_ite,beq_iff_eq] <;> omega)
     ·(try simp only [Bool.or_eq_true,Bool.and_eq_true,Bool.or_eq_false_iff,Bool.and_eq_false_iff,beq_iff_eq,beq_eq_false_iff_ne,bne_iff_ne,decide_eq_true_eq,decide_eq_false_iff_not,ne_eq] at h2)
      (refine ⟨⟨fxT a.1 a.2.1 a.2.2,?_,rfl⟩,rfl⟩; simp only [fxT,tyC,Out.ret.injEq,RV.v.injEq,CV.agg.injEq,List.cons.injEq,SV.int.injEq,and_true,true_and]; refine ⟨?_,?_⟩ <;> simp only [dgT,scT,mostK,Bool.cond_eq_ite,beq_iff_eq] <;> omega)
    ·(try simp only [Bool.or_eq_true,Bool.and_eq_true,Bool.or_eq_false_iff,Bool.and_eq_false_iff,beq_iff_eq,beq_eq_false_iff_ne,bne_iff_ne,decide_eq_true_eq,decide_eq_false_iff_not,ne_eq] at h1)
     refine ⟨fun h2=>?_,fun h2=>?_⟩
     ·(try simp only [Bool.or_eq_true,Bool.and_eq_true,Bool.or_eq_false_iff,Bool.and_eq_false_iff,beq_iff_eq,beq_eq_false_iff_ne,bne_iff_ne,decide_eq_true_eq,decide_eq_false_iff_not,ne_eq] at h2)
      have o9 : inK IntKind.i64 (1 + a.snd.fst.p):=⟨by omega,by omega⟩
      have o10 : inK IntKind.i64 (1 + a.snd.fst.p + a.snd.snd.p):=⟨by omega,by omega⟩
      have o11 : inK IntKind.i64 (a.snd.fst.q + a.snd.snd.q):=⟨by omega,by omega⟩
      refine ⟨⟨o9,o10,o11⟩,?_⟩
      refine ⟨fun h3=>?_,fun h3=>?_⟩
      ·(try simp only [Bool.or_eq_true,Bool.and_eq_true,Bool.or_eq_false_iff,Bool.and_eq_false_iff,beq_iff_eq,beq_eq_false_iff_ne,bne_iff_ne,decide_eq_true_eq,decide_eq_false_iff_not,ne_eq] at h3)
       (refine ⟨⟨fxT a.1 a.2.1 a.2.2,?_,rfl⟩,rfl⟩; simp only [fxT,tyC,Out.ret.injEq,RV.v.injEq,CV.agg.injEq,List.cons.injEq,SV.int.injEq,and_true,true_and]; refine ⟨?_,?_⟩ <;> simp only [dgT,scT,mostK,Bool.cond_eq_ite,beq_iff_eq] <;> omega)
      ·(try simp only [Bool.or_eq_true,Bool.and_eq_true,Bool.or_eq_false_iff,Bool.and_eq_false_iff,beq_iff_eq,beq_eq_false_iff_ne,bne_iff_ne,decide_eq_true_eq,decide_eq_false_iff_not,ne_eq] at h3)
       (refine ⟨⟨fxT a.1 a.2.1 a.2.2,?_,rfl⟩,rfl⟩; simp only [fxT,tyC,Out.ret.injEq,RV.v.injEq,CV.agg.injEq,List.cons.injEq,SV.int.injEq,and_true,true_and]; refine ⟨?_,?_⟩ <;> simp only [dgT,scT,mostK,Bool.cond_eq_ite,beq_iff_eq] <;> omega)
     ·(try simp only [Bool.or_eq_true,Bool.and_eq_true,Bool.or_eq_false_iff,Bool.and_eq_false_iff,beq_iff_eq,beq_eq_false_iff_ne,bne_iff_ne,decide_eq_true_eq,decide_eq_false_iff_not,ne_eq] at h2)
      refine ⟨fun h3=>?_,fun h3=>?_⟩
      ·(try simp only [Bool.or_eq_true,Bool.and_eq_true,Bool.or_eq_false_iff,Bool.and_eq_false_iff,beq_iff_eq,beq_eq_false_iff_ne,bne_iff_ne,decide_eq_true_eq,decide_eq_false_iff_not,ne_eq] at h3)
       have o12 : inK IntKind.i64 (a.snd.fst.p - a.snd.fst.q):=⟨by omega,by omega⟩
       have o13 : inK IntKind.i64 (((bif a.snd.fst.k == 1 then (9 : Int) else 31)) - (a.snd.fst.p - a.snd.fst.q)):=⟨by omega,by omega⟩
       have o14 : inK IntKind.i64 (((bif a.snd.fst.k == 1 then (9 : Int) else 31)) - (a.snd.fst.p - a.snd.fst.q) - a.snd.snd.q):=⟨by omega,by omega⟩
       refine ⟨⟨o12,o13,o14⟩,?_⟩
       refine ⟨fun h4=>?_,fun h4=>?_⟩
       ·(try simp only [Bool.or_eq_true,Bool.and_eq_true,Bool.or_eq_false_iff,Bool.and_eq_false_iff,beq_iff_eq,beq_eq_false_iff_ne,bne_iff_ne,decide_eq_true_eq,decide_eq_false_iff_not,ne_eq] at h4)
        (refine ⟨⟨fxT a.1 a.2.1 a.2.2,?_,rfl⟩,rfl⟩; simp only [fxT,tyC,Out.ret.injEq,RV.v.injEq,CV.agg.injEq,List.cons.injEq,SV.int.injEq,and_true,true_and]; refine ⟨?_,?_⟩ <;> simp only [dgT,scT,mostK,Bool.cond_eq_ite,beq_iff_eq] <;> omega)
       ·(try simp only [Bool.or_eq_true,Bool.and_eq_true,Bool.or_eq_false_iff,Bool.and_eq_false_iff,beq_iff_eq,beq_eq_false_iff_ne,bne_iff_ne,decide_eq_true_eq,decide_eq_false_iff_not,ne_eq] at h4)
        (refine ⟨⟨fxT a.1 a.2.1 a.2.2,?_,rfl⟩,rfl⟩; simp only [fxT,tyC,Out.ret.injEq,RV.v.injEq,CV.agg.injEq,List.cons.injEq,SV.int.injEq,and_true,true_and]; refine ⟨?_,?_⟩ <;> simp only [dgT,scT,mostK,Bool.cond_eq_ite,beq_iff_eq] <;> omega)
      ·(try simp only [Bool.or_eq_true,Bool.and_eq_true,Bool.or_eq_false_iff,Bool.and_eq_false_iff,beq_iff_eq,beq_eq_false_iff_ne,bne_iff_ne,decide_eq_true_eq,decide_eq_false_iff_not,ne_eq] at h3)
       refine ⟨fun h4=>?_,fun h4=>?_⟩
       ·(try simp only [Bool.or_eq_true,Bool.and_eq_true,Bool.or_eq_false_iff,Bool.and_eq_false_iff,beq_iff_eq,beq_eq_false_iff_ne,bne_iff_ne,decide_eq_true_eq,decide_eq_false_iff_not,ne_eq] at h4)
        have o15 : inK IntKind.i64 (a.snd.snd.p - a.snd.snd.q):=⟨by omega,by omega⟩
        have o16 : inK IntKind.i64 (a.snd.snd.p - a.snd.snd.q + if a.snd.snd.q > a.snd.fst.q then a.snd.snd.q else a.snd.fst.q):=⟨by omega,by omega⟩
        refine ⟨⟨o15,o16⟩,?_⟩
        refine ⟨fun h5=>?_,fun h5=>?_⟩
        ·(try simp only [Bool.or_eq_true,Bool.and_eq_true,Bool.or_eq_false_iff,Bool.and_eq_false_iff,beq_iff_eq,beq_eq_false_iff_ne,bne_iff_ne,decide_eq_true_eq,decide_eq_false_iff_not,ne_eq] at h5)
         (refine ⟨⟨fxT a.1 a.2.1 a.2.2,?_,rfl⟩,rfl⟩; simp only [fxT,tyC,Out.ret.injEq,RV.v.injEq,CV.agg.injEq,List.cons.injEq,SV.int.injEq,and_true,true_and]; refine ⟨?_,?_⟩ <;> simp only [dgT,scT,mostK,Bool.cond_eq_ite,beq_iff_eq] <;> omega)
        ·(try simp only [Bool.or_eq_true,Bool.and_eq_true,Bool.or_eq_false_iff,Bool.and_eq_false_iff,beq_iff_eq,beq_eq_false_iff_ne,bne_iff_ne,decide_eq_true_eq,decide_eq_false_iff_not,ne_eq] at h5)
         (refine ⟨⟨fxT a.1 a.2.1 a.2.2,?_,rfl⟩,rfl⟩; simp only [fxT,tyC,Out.ret.injEq,RV.v.injEq,CV.agg.injEq,List.cons.injEq,SV.int.injEq,and_true,true_and]; refine ⟨?_,?_⟩ <;> simp only [dgT,scT,mostK,Bool.cond_eq_ite,beq_iff_eq] <;> omega)
       ·(try simp only [Bool.or_eq_true,Bool.and_eq_true,Bool.or_eq_false_iff,Bool.and_eq_false_iff,beq_iff_eq,beq_eq_false_iff_ne,bne_iff_ne,decide_eq_true_eq,decide_eq_false_iff_not,ne_eq] at h4)
        refine ⟨fun h5=>?_,fun h5=>?_⟩
        ·(try simp only [Bool.or_eq_true,Bool.and_eq_true,Bool.or_eq_false_iff,Bool.and_eq_false_iff,beq_iff_eq,beq_eq_false_iff_ne,bne_iff_ne,decide_eq_true_eq,decide_eq_false_iff_not,ne_eq] at h5)
         have o17 : inK IntKind.i64 (a.snd.fst.p - a.snd.fst.q):=⟨by omega,by omega⟩
         have o18 : inK IntKind.i64 (a.snd.snd.p - a.snd.snd.q):=⟨by omega,by omega⟩
         have o19 : inK IntKind.i64 ((if a.snd.snd.p - a.snd.snd.q > a.snd.fst.p - a.snd.fst.q then a.snd.snd.p - a.snd.snd.q else a.snd.fst.p - a.snd.fst.q) + if a.snd.snd.q > a.snd.fst.q then a.snd.snd.q else a.snd.fst.q):=⟨by omega,by omega⟩
         refine ⟨⟨o17,o18,o19⟩,?_⟩
         refine ⟨fun h6=>?_,fun h6=>?_⟩
         ·(try simp only [Bool.or_eq_true,Bool.and_eq_true,Bool.or_eq_false_iff,Bool.and_eq_false_iff,beq_iff_eq,beq_eq_false_iff_ne,bne_iff_ne,decide_eq_true_eq,decide_eq_false_iff_not,ne_eq] at h6)
          (refine ⟨⟨fxT a.1 a.2.1 a.2.2,?_,rfl⟩,rfl⟩; simp only [fxT,tyC,Out.ret.injEq,RV.v.injEq,CV.agg.injEq,List.cons.injEq,SV.int.injEq,and_true,true_and]; refine ⟨?_,?_⟩ <;> simp only [dgT,scT,mostK,Bool.cond_eq_ite,beq_iff_eq] <;> omega)
         ·(try simp only [Bool.or_eq_true,Bool.and_eq_true,Bool.or_eq_false_iff,Bool.and_eq_false_iff,beq_iff_eq,beq_eq_false_iff_ne,bne_iff_ne,decide_eq_true_eq,decide_eq_false_iff_not,ne_eq] at h6)
          (refine ⟨⟨fxT a.1 a.2.1 a.2.2,?_,rfl⟩,rfl⟩; simp only [fxT,tyC,Out.ret.injEq,RV.v.injEq,CV.agg.injEq,List.cons.injEq,SV.int.injEq,and_true,true_and]; refine ⟨?_,?_⟩ <;> simp only [dgT,scT,mostK,Bool.cond_eq_ite,beq_iff_eq] <;> omega)
        ·(try simp only [Bool.or_eq_true,Bool.and_eq_true,Bool.or_eq_false_iff,Bool.and_eq_false_iff,beq_iff_eq,beq_eq_false_iff_ne,bne_iff_ne,decide_eq_true_eq,decide_eq_false_iff_not,ne_eq] at h5)
         refine ⟨fun h6=>?_,fun h6=>?_⟩
         ·(try simp only [Bool.or_eq_true,Bool.and_eq_true,Bool.or_eq_false_iff,Bool.and_eq_false_iff,beq_iff_eq,beq_eq_false_iff_ne,bne_iff_ne,decide_eq_true_eq,decide_eq_false_iff_not,ne_eq] at h6)
          have o20 : inK IntKind.i64 (a.snd.fst.p - a.snd.fst.q):=⟨by omega,by omega⟩
          have o21 : inK IntKind.i64 (a.snd.snd.p - a.snd.snd.q):=⟨by omega,by omega⟩
          have o22 : inK IntKind.i64 ((if a.snd.snd.p - a.snd.snd.q > a.snd.fst.p - a.snd.fst.q then a.snd.snd.p - a.snd.snd.q else a.snd.fst.p - a.snd.fst.q) + if a.snd.snd.q > a.snd.fst.q then a.snd.snd.q else a.snd.fst.q):=⟨by omega,by omega⟩
          refine ⟨⟨o20,o21,o22⟩,?_⟩
          refine ⟨fun h7=>?_,fun h7=>?_⟩
          ·(try simp only [Bool.or_eq_true,Bool.and_eq_true,Bool.or_eq_false_iff,Bool.and_eq_false_iff,beq_iff_eq,beq_eq_false_iff_ne,bne_iff_ne,decide_eq_true_eq,decide_eq_false_iff_not,ne_eq] at h7)
           (refine ⟨⟨fxT a.1 a.2.1 a.2.2,?_,rfl⟩,rfl⟩; simp only [fxT,tyC,Out.ret.injEq,RV.v.injEq,CV.agg.injEq,List.cons.injEq,SV.int.injEq,and_true,true_and]; refine ⟨?_,?_⟩ <;> simp only [dgT,scT,mostK,Bool.cond_eq_ite,beq_iff_eq] <;> omega)
          ·(try simp only [Bool.or_eq_true,Bool.and_eq_true,Bool.or_eq_false_iff,Bool.and_eq_false_iff,beq_iff_eq,beq_eq_false_iff_ne,bne_iff_ne,decide_eq_true_eq,decide_eq_false_iff_not,ne_eq] at h7)
           (refine ⟨⟨fxT a.1 a.2.1 a.2.2,?_,rfl⟩,rfl⟩; simp only [fxT,tyC,Out.ret.injEq,RV.v.injEq,CV.agg.injEq,List.cons.injEq,SV.int.injEq,and_true,true_and]; refine ⟨?_,?_⟩ <;> simp only [dgT,scT,mostK,Bool.cond_eq_ite,beq_iff_eq] <;> omega)
         ·(try simp only [Bool.or_eq_true,Bool.and_eq_true,Bool.or_eq_false_iff,Bool.and_eq_false_iff,beq_iff_eq,beq_eq_false_iff_ne,bne_iff_ne,decide_eq_true_eq,decide_eq_false_iff_not,ne_eq] at h6)
          refine ⟨fun h7=>?_,fun h7=>?_⟩
          ·(try simp only [Bool.or_eq_true,Bool.and_eq_true,Bool.or_eq_false_iff,Bool.and_eq_false_iff,beq_iff_eq,beq_eq_false_iff_ne,bne_iff_ne,decide_eq_true_eq,decide_eq_false_iff_not,ne_eq] at h7)
           (refine ⟨⟨fxT a.1 a.2.1 a.2.2,?_,rfl⟩,rfl⟩; simp only [fxT,tyC,Out.ret.injEq,RV.v.injEq,CV.agg.injEq,List.cons.injEq,SV.int.injEq,and_true,true_and]; refine ⟨?_,?_⟩ <;> simp only [dgT,scT,mostK,Bool.cond_eq_ite,beq_iff_eq] <;> omega)
          ·(try simp only [Bool.or_eq_true,Bool.and_eq_true,Bool.or_eq_false_iff,Bool.and_eq_false_iff,beq_iff_eq,beq_eq_false_iff_ne,bne_iff_ne,decide_eq_true_eq,decide_eq_false_iff_not,ne_eq] at h7)
           (refine ⟨⟨fxT a.1 a.2.1 a.2.2,?_,rfl⟩,rfl⟩; simp only [fxT,tyC,Out.ret.injEq,RV.v.injEq,CV.agg.injEq,List.cons.injEq,SV.int.injEq,and_true,true_and]; refine ⟨?_,?_⟩ <;> simp only [dgT,scT,mostK,Bool.cond_eq_ite,beq_iff_eq] <;> omega)
 ·cases i with
  | e a=>exact absurd hj (Nat.not_lt_zero _)
noncomputable def cFre : Con Tryz.prog:=Con.exN freX un3T un3T_den
set_option maxHeartbeats 4000000
noncomputable def cOpR : Con Tryz.prog:=Con.auto Tryz.func93 true [] [] kq kq
noncomputable def cUnR : Con Tryz.prog:=Con.auto Tryz.func95 true [] [] kq kq
def Ty0 : Ty:=⟨0,0,0,false,[]⟩
open Classical in
noncomputable def fxS (op : Int) (a b : Ty) : Option Ty :=
 if 5 ≤ op ∧ op ≤ 13 then (if op = 5 ∨ op = 11 then (if ArOK a then some (fxT op a a) else none) else if ArOK a ∧ ArOK b ∧ a.k = b.k then some (fxT op a b) else none) else none
def rsT (r : Ty × Int) : RV:=.tup [.agg (tyC r.1),vI r.2]
def tyQ (o : Option Ty) (r : Ty × Int) : Prop:=match o with
 | some t=>r = (t,0)
 | none=>r.1 = Ty0 ∧ r.2 ≠ 0
def rfxQ (a : Int × Ty × Ty) : Prop:=True
inductive rfxI where
 | e (a : Int × Ty × Ty)
noncomputable def rfxC : rfxI → Cfg
 | .e a=>entO Tryz.f41 (arg3T a)
noncomputable def rfxS : rfxI → Sh
 | .e a=>(.cond (!(decide (a.fst ≥ 5) && decide (a.fst ≤ 13))) (.ret (RV.tup [CV.agg (tyC Ty0),CV.one (SV.int IntKind.i64 1)])) (.ob [rckQ a.snd.fst] (.cond (vN rckX a.snd.fst != 0) (.ret (RV.tup [CV.agg (tyC Ty0),CV.one (SV.int IntKind.i64 (vN rckX a.snd.fst))])) (.cond (a.fst == 5 || a.fst == 11) (.ob [tofQ (a.fst,a.snd.fst,a.snd.fst)] (.ret (RV.tup [CV.agg (tyC (vN tofX (a.fst,a.snd.fst,a.snd.fst))),CV.one (SV.int IntKind.i64 0)]))) (.ob [rckQ a.snd.snd] (.cond (vN rckX a.snd.snd != 0) (.ret (RV.tup [CV.agg (tyC Ty0),CV.one (SV.int IntKind.i64 (vN rckX a.snd.snd))])) (.cond (a.snd.fst.k != a.snd.snd.k) (.ret (RV.tup [CV.agg (tyC Ty0),CV.one (SV.int IntKind.i64 5)])) (.ob [tofQ a] (.ret (RV.tup [CV.agg (tyC (vN tofX a)),CV.one (SV.int IntKind.i64 0)]))))))))))
noncomputable def rfxN : rfxI → Nat → rfxI
 | .e a,_=>.e a
def rfxK : rfxI → List Nat
 | .e _=>[]
def rfxM : rfxI → Nat
 | .e a=>1
def rfxP (a0 : Int × Ty × Ty) : rfxI → Prop
 | .e a=>a = a0 ∧ True
theorem rfxX : ExN Tryz.prog 41 [] arg3T (rsT) rfxQ (fun a r=>tyQ (fxS a.1 a.2.1 a.2.2) r):=by
 intro a0 ha
 refine CallsF.ofV false Tryz.func41 kq kq (cuts hMu kq (T:=[cOpR.e,cRck.e,cUnR.e,cTof.e]) 40 rfxC rfxS rfxN rfxK (fun _=>[]) rfxM (rfxP a0) _ (fun i=>by cases i <;> kernel_rfl) (fun i=>by cases i <;> kernel_rfl) ?_ (fun i j hj=>?_) _ (.e a0) (Nat.lt_succ_self _) ⟨rfl,ha⟩)
 ·intro i hi
  cases i with
  | e a =>
   simp only [rfxP] at hi
   obtain ⟨rfl,hi⟩:=hi
   refine ⟨fun h0=>?_,fun h0=>?_⟩
   ·(try simp only [Bool.or_eq_true,Bool.and_eq_true,Bool.or_eq_false_iff,Bool.and_eq_false_iff,beq_iff_eq,beq_eq_false_iff_ne,bne_iff_ne,decide_eq_true_eq,decide_eq_false_iff_not,ne_eq] at h0)
    exact ⟨⟨(Ty0,1),rfl,by simp only [tyQ,fxS,Ty0]; grind⟩,rfl⟩
   ·(try simp only [Bool.or_eq_true,Bool.and_eq_true,Bool.or_eq_false_iff,Bool.and_eq_false_iff,beq_iff_eq,beq_eq_false_iff_ne,bne_iff_ne,decide_eq_true_eq,decide_eq_false_iff_not,ne_eq] at h0)
    have o1 : rckQ a.snd.fst:=trivial
    have f1:=(vN_ok rckX a.snd.fst o1).2
    (try simp only at f1)
    refine ⟨o1,?_⟩
    refine ⟨fun h1=>?_,fun h1=>?_⟩
    ·(try simp only [Bool.or_eq_true,Bool.and_eq_true,Bool.or_eq_false_iff,Bool.and_eq_false_iff,beq_iff_eq,beq_eq_false_iff_ne,bne_iff_ne,decide_eq_true_eq,decide_eq_false_iff_not,ne_eq] at h1)
     exact ⟨⟨(Ty0,(vN rckX a.snd.fst)),rfl,by simp only [tyQ,fxS,Ty0]; grind⟩,rfl⟩
    ·(try simp only [Bool.or_eq_true,Bool.and_eq_true,Bool.or_eq_false_iff,Bool.and_eq_false_iff,beq_iff_eq,beq_eq_false_iff_ne,bne_iff_ne,decide_eq_true_eq,decide_eq_false_iff_not,ne_eq] at h1)
     refine ⟨fun h2=>?_,fun h2=>?_⟩
     ·(try simp only [Bool.or_eq_true,Bool.and_eq_true,Bool.or_eq_false_iff,Bool.and_eq_false_iff,beq_iff_eq,beq_eq_false_iff_ne,bne_iff_ne,decide_eq_true_eq,decide_eq_false_iff_not,ne_eq] at h2)
      have o2 : tofQ (a.fst,a.snd.fst,a.snd.fst):=by simp only [allP,tofQ,fxP]; grind
      have f2:=(vN_ok tofX (a.fst,a.snd.fst,a.snd.fst) o2).2
      (try simp only at f2)
      refine ⟨o2,?_⟩
      exact ⟨⟨((vN tofX (a.fst,a.snd.fst,a.snd.fst)),0),rfl,by simp only [tyQ,fxS,Ty0]; grind⟩,rfl⟩
     ·(try simp only [Bool.or_eq_true,Bool.and_eq_true,Bool.or_eq_false_iff,Bool.and_eq_false_iff,beq_iff_eq,beq_eq_false_iff_ne,bne_iff_ne,decide_eq_true_eq,decide_eq_false_iff_not,ne_eq] at h2)
      have o3 : rckQ a.snd.snd:=trivial
      have f3:=(vN_ok rckX a.snd.snd o3).2
      (try simp only at f3)
      refine ⟨o3,?_⟩
      refine ⟨fun h3=>?_,fun h3=>?_⟩
      ·(try simp only [Bool.or_eq_true,Bool.and_eq_true,Bool.or_eq_false_iff,Bool.and_eq_false_iff,beq_iff_eq,beq_eq_false_iff_ne,bne_iff_ne,decide_eq_true_eq,decide_eq_false_iff_not,ne_eq] at h3)
       exact ⟨⟨(Ty0,(vN rckX a.snd.snd)),rfl,by simp only [tyQ,fxS,Ty0]; grind⟩,rfl⟩
      ·(try simp only [Bool.or_eq_true,Bool.and_eq_true,Bool.or_eq_false_iff,Bool.and_eq_false_iff,beq_iff_eq,beq_eq_false_iff_ne,bne_iff_ne,decide_eq_true_eq,decide_eq_false_iff_not,ne_eq] at h3)
       refine ⟨fun h4=>?_,fun h4=>?_⟩
       ·(try simp only [Bool.or_eq_true,Bool.and_eq_true,Bool.or_eq_false_iff,Bool.and_eq_false_iff,beq_iff_eq,beq_eq_false_iff_ne,bne_iff_ne,decide_eq_true_eq,decide_eq_false_iff_not,ne_eq] at h4)
        exact ⟨⟨(Ty0,5),rfl,by simp only [tyQ,fxS,Ty0]; grind⟩,rfl⟩
       ·(try simp only [Bool.or_eq_true,Bool.and_eq_true,Bool.or_eq_false_iff,Bool.and_eq_false_iff,beq_iff_eq,beq_eq_false_iff_ne,bne_iff_ne,decide_eq_true_eq,decide_eq_false_iff_not,ne_eq] at h4)
        have o4 : tofQ a:=by simp only [allP,tofQ,fxP]; grind
        have f4:=(vN_ok tofX a o4).2
        (try simp only at f4)
        refine ⟨o4,?_⟩
        exact ⟨⟨((vN tofX a),0),rfl,by simp only [tyQ,fxS,Ty0]; grind⟩,rfl⟩
 ·cases i with
  | e a=>exact absurd hj (Nat.not_lt_zero _)
set_option maxHeartbeats 4000000
def isaQ (a : Ty) : Prop:=True
inductive isaI where
 | e (a : Ty)
noncomputable def isaC : isaI → Cfg
 | .e a=>entO Tryz.f223 (arg1T a)
noncomputable def isaS : isaI → Sh
 | .e a=>(.ob [rckQ a] (.ret (RV.v (CV.one (SV.sb (vN rckX a == 0))))))
noncomputable def isaN : isaI → Nat → isaI
 | .e a,_=>.e a
def isaK : isaI → List Nat
 | .e _=>[]
def isaM : isaI → Nat
 | .e a=>1
def isaP (a0 : Ty) : isaI → Prop
 | .e a=>a = a0 ∧ True
theorem isaX : ExN Tryz.prog 223 [] arg1T (fun r=>.v (vT r)) isaQ (fun a r=>r = true ↔ ArOK a):=by
 intro a0 ha
 refine CallsF.ofV false Tryz.func223 kq kq (cuts hMu kq (T:=[cRck.e]) 40 isaC isaS isaN isaK (fun _=>[]) isaM (isaP a0) _ (fun i=>by cases i <;> kernel_rfl) (fun i=>by cases i <;> kernel_rfl) ?_ (fun i j hj=>?_) _ (.e a0) (Nat.lt_succ_self _) ⟨rfl,ha⟩)
 ·intro i hi
  cases i with
  | e a =>
   simp only [isaP] at hi
   obtain ⟨rfl,hi⟩:=hi
   have o1 : rckQ a:=by simp only [allP,rckQ,prsQ] <;> first | omega | grind
   have f1:=(vN_ok rckX a o1).2
   (try simp only at f1)
   refine ⟨o1,?_⟩
   exact ⟨⟨(vN rckX a == 0),rfl,by first | grind | (simp only [ChOK,ArOK,BtOK,PtOK] at *; grind)⟩,rfl⟩
 ·cases i with
  | e a=>exact absurd hj (Nat.not_lt_zero _)
noncomputable def cIsa : Con Tryz.prog:=Con.exN isaX un1T un1T_den
end Go.Proofs
end
