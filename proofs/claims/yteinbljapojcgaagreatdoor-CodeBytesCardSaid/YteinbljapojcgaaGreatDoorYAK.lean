/- A symbolic run of the program that Lean checks, and what the functions of the program come to by it: part 11 of 12. -/
import Derived.Test.YteinbljapojcgaaGreatDoorYAJ
set_option linter.unusedVariables false
section
namespace Go.Proofs
open Go Go.SX
set_option maxRecDepth 10000
def Ext (X Y : RIn) : Prop:=∃ t,Y.s = X.s ++ t
def Keeps {α : Type} (g h : RSt → α × RSt) : Prop:=∀ r,(g r).2.bad = false → r.bad = false ∧ h r = g r
section
variable {X Y : RIn} (hE : Ext X Y)
include hE
theorem ext_take : Keeps (takeB X) (takeB Y):=by
 intro r h
 obtain ⟨t,e⟩:=hE
 unfold takeB at h ⊢
 by_cases hl : r.at_ < X.s.length
 ·rw [if_pos hl] at h ⊢
  have hl2 : r.at_ < Y.s.length:=by rw [e,List.length_append]; omega
  rw [if_pos hl2]
  refine ⟨h,?_⟩
  rw [e,List.getD,List.getElem?_append_left hl]
  rfl
 ·rw [if_neg hl] at h
  cases h
theorem ext_numL : ∀ (k z m n : Nat),Keeps (fun r=>rdNumL X k r z m n) (fun r=>rdNumL Y k r z m n)
 | 0,_,_,_=>fun r h=>⟨h,rfl⟩
 | k + 1,z,m,n=>fun r h=>by
  have h : (rdNumL X (k + 1) r z m n).2.bad = false:=h
  show r.bad = false ∧ rdNumL Y (k + 1) r z m n = rdNumL X (k + 1) r z m n
  rw [rdNumL] at h
  rw [rdNumL,rdNumL]
  by_cases c1 : 128 ≤ (takeB X r).1.toNat ∧ n + 1 < 6
  ·rw [if_pos c1] at h ⊢
   obtain ⟨h1,h2⟩:=ext_numL k _ _ _ _ h
   obtain ⟨h3,h4⟩:=ext_take hE r h1
   rw [h4,if_pos c1]
   exact ⟨h3,h2⟩
  ·rw [if_neg c1] at h ⊢
   by_cases c2 : 128 ≤ (takeB X r).1.toNat ∨ (1 < n + 1 ∧ (takeB X r).1.toNat = 0) ∨ ¬ isNum (unzz (z + (takeB X r).1.toNat % 128 * m)) = true
   ·rw [if_pos c2] at h
    cases h
   ·rw [if_neg c2] at h ⊢
    obtain ⟨h3,h4⟩:=ext_take hE r h
    rw [h4,if_neg c1,if_neg c2]
    exact ⟨h3,rfl⟩
theorem ext_num : Keeps (rdNum X) (rdNum Y):=ext_numL hE 6 0 1 0
theorem ext_flag : Keeps (rdFlag X) (rdFlag Y):=by
 intro r h
 unfold rdFlag at h ⊢
 simp only [Bool.or_eq_false_iff] at h
 obtain ⟨h3,h4⟩:=ext_take hE r h.1
 rw [h4]
 exact ⟨h3,rfl⟩
theorem ext_str : Keeps (rdStr X) (rdStr Y):=by
 intro r h
 obtain ⟨t,e⟩:=hE
 unfold rdStr at h ⊢
 simp only at h ⊢
 by_cases c : (rdNum X r).1 < 0 ∨ 255 < (rdNum X r).1 ∨ (X.s.length : Int) - (rdNum X r).2.at_ < (rdNum X r).1
 ·rw [if_pos c] at h
  cases h
 ·rw [if_neg c] at h ⊢
  obtain ⟨h3,h4⟩:=ext_num ⟨t,e⟩ r h
  have hlen : Y.s.length = X.s.length + t.length:=by rw [e,List.length_append]
  rw [h4,if_neg (by omega)]
  refine ⟨h3,?_⟩
  rw [e,List.take_append_of_le_length (by omega)]
omit hE in
theorem ext_list {α : Type} {g h : RSt → α × RSt} (hk : Keeps g h) : ∀ k,Keeps (rdList g k) (rdList h k)
 | 0=>fun r hr=>⟨hr,rfl⟩
 | k + 1=>fun r hr=>by
  have hr' : (rdList g k (g r).2).2.bad = false:=hr
  obtain ⟨h2,e2⟩:=ext_list hk k _ hr'
  obtain ⟨h1,e1⟩:=hk r h2
  refine ⟨h1,?_⟩
  show ((h r).1 :: (rdList h k (h r).2).1,(rdList h k (h r).2).2) = ((g r).1 :: (rdList g k (g r).2).1,(rdList g k (g r).2).2)
  rw [e1,e2]
theorem ext_four : Keeps (rdFour X) (rdFour Y):=by
 intro r h
 unfold rdFour at h ⊢
 simp only at h ⊢
 obtain ⟨h4,e4⟩:=ext_take hE _ h
 obtain ⟨h3,e3⟩:=ext_take hE _ h4
 obtain ⟨h2,e2⟩:=ext_take hE _ h3
 obtain ⟨h1,e1⟩:=ext_take hE _ h2
 rw [e1,e2,e3,e4]
 exact ⟨h1,rfl⟩
omit hE in
theorem rel_bad {rl : List (Int × Int)} {v : Int} {r : RSt} (h : (rdRel rl v r).2.bad = false) : r.bad = false:=by
 unfold rdRel at h
 split at h
 ·exact h
 ·cases h
omit hE in
theorem rdL_bad {rl : List (Int × Int)} {X : RIn} : ∀ (l : List Fl) (s : RSt × In),s.1.bad = true → rdL rl X l s = s
 | [],s,_=>rfl
 | f :: l,s,h=>by
  show rdL rl X l (if s.1.bad = true then s else f.rd rl X s.1 s.2) = s
  rw [if_pos h]
  exact rdL_bad l s h
end
def Fl.pr (f : Fl) : Bool:=match f with
 | .pN | .pM | .far=>true
 | _=>false
theorem relp_len (f : Fl) (x : In) (n : Nat) : (f.rel x n).length ≤ if f.pr = true then 1 else 0:=by
 cases f <;> simp [Fl.rel,Fl.pr,relP]
 all_goals split <;> simp
theorem relL_len (x : In) : ∀ (l : List Fl) (n : Nat),(relL x l n).length ≤ (l.filter Fl.pr).length
 | [],_=>Nat.le_refl _
 | f :: l,n=>by
  have h1:=relp_len f x n
  have h2:=relL_len x l (n + (f.enc x).length)
  show (f.rel x n ++ relL x l (n + (f.enc x).length)).length ≤ _
  rw [List.length_append]
  by_cases hp : f.pr = true
  ·rw [if_pos hp] at h1
   rw [List.filter_cons_of_pos hp,List.length_cons]
   omega
  ·rw [if_neg hp] at h1
   rw [List.filter_cons_of_neg (by simpa using hp)]
   omega
theorem cEnc_rel1 {x : In} (h : cFine x = true) : (cEnc x).2.length ≤ 1:=by
 have hop : 1 ≤ x.op ∧ x.op ≤ 38:=by
  by_cases hop : 1 ≤ x.op ∧ x.op ≤ 38
  ·exact hop
  ·have : cFine x = false:=by unfold cFine opFind; rw [if_neg hop]
   rw [this] at h; cases h
 have ho : isOp x.op.toNat = true:=(isOp_iff _).2 (by omega)
 have hfind : opFind x.op = some (opFls x.op.toNat):=by unfold opFind; rw [if_pos hop]
 unfold cEnc
 rw [hfind,putL_eq]
 have h1:=relL_len x (opFls x.op.toNat) 1
 have h2:=all_ops (p:=fun o=>decide (((opFls o).filter Fl.pr).length ≤ 1)) kq ho
 simp only [decide_eq_true_eq] at h2
 simp only [List.nil_append,Option.getD_some]
 exact Nat.le_trans h1 h2
def tkNum (X : RIn) (r : RSt) : Int × RSt:=if r.bad = true then (0,r) else match rfL X.s r.at_ 5 0 0 with
 | some p=>(p.1,⟨p.2,false⟩)
 | none=>(0,⟨r.at_,true⟩)
def tkRaw (X : RIn) (n : Int) (r : RSt) : List UInt8 × RSt :=
 if r.bad = true ∨ n < 0 ∨ 1048576 < n ∨ (X.s.length : Int) < (r.at_ : Int) + n then ([],⟨r.at_,true⟩) else ((X.s.take (r.at_ + n.toNat)).drop r.at_,⟨r.at_ + n.toNat,false⟩)
def tkText (X : RIn) (r : RSt) : List UInt8 × RSt:=tkRaw X (tkNum X r).1 ⟨(tkNum X r).2.at_,(tkNum X r).2.bad || decide ((tkNum X r).1 > 255)⟩
def tkFlag (X : RIn) (r : RSt) : Bool × RSt:=((tkRaw X 1 r).1 == [1],⟨(tkRaw X 1 r).2.at_,(tkRaw X 1 r).2.bad || (!((tkRaw X 1 r).1 == [0]) && !((tkRaw X 1 r).1 == [1]))⟩)
def be (l : List UInt8) : Nat:=l.foldl (fun n c=>256 * n + c.toNat) 0
def tkFour (X : RIn) (r : RSt) : Int × RSt:=((be (tkRaw X 4 r).1 : Int),(tkRaw X 4 r).2)
def tkTy (X : RIn) (r : RSt) : Ty × RSt :=
 let a:=tkNum X r
 let b:=tkNum X a.2
 let c:=tkNum X b.2
 let d:=tkFlag X c.2
 let e:=tkText X d.2
 (⟨a.1,b.1,c.1,d.1,e.1⟩,e.2)
def tkFm (X : RIn) (r : RSt) : Fm × RSt :=
 let a:=tkNum X r
 let b:=tkNum X a.2
 let c:=tkNum X b.2
 let e:=tkText X c.2
 (⟨a.1,b.1,c.1,e.1⟩,e.2)
def tkI (X : RIn) (r : RSt) : Int × RSt:=((tkNum X r).1 - 1,(tkNum X r).2)
def tkMany (X : RIn) (r : RSt) : Int × RSt:=if (tkNum X r).1 < 0 ∨ 16 < (tkNum X r).1 then (0,⟨(tkNum X r).2.at_,true⟩) else tkNum X r
def tkLst {α : Type} (X : RIn) (g : RSt → α × RSt) (l : List α) (r : RSt) : List α × RSt:=(l ++ (rdList g (tkMany X r).1.toNat (tkMany X r).2).1,(rdList g (tkMany X r).1.toNat (tkMany X r).2).2)
def Sm {α : Type} (p q : α × RSt) : Prop:=(p.2.bad = true ∧ q.2.bad = true) ∨ (p.2.bad = false ∧ p = q)
def SmF {α : Type} (X : RIn) (g h : RSt → α × RSt) : Prop:=∀ r,okIn X r → (r.bad = true → (g r).2.bad = true ∧ (h r).2.bad = true) ∧ (r.bad = false → Sm (g r) (h r))
def OkF {α : Type} (X : RIn) (g : RSt → α × RSt) : Prop:=∀ r,okIn X r → okIn X (g r).2
theorem SmF.pure {α : Type} {X : RIn} (v : α) : SmF X (fun r=>(v,r)) (fun r=>(v,r)):=fun r _=>⟨fun h=>⟨h,h⟩,fun h=>.inr ⟨h,rfl⟩⟩
theorem SmF.bind {α β : Type} {X : RIn} {g h : RSt → α × RSt} {kg kh : α → RSt → β × RSt} (s : SmF X g h) (og : OkF X g) (oh : OkF X h) (k : ∀ a,SmF X (kg a) (kh a)) :
  SmF X (fun r=>kg (g r).1 (g r).2) (fun r=>kh (h r).1 (h r).2):=fun r hr=>by
 refine ⟨fun hb=>?_,fun hb=>?_⟩
 ·obtain ⟨h1,h2⟩:=(s r hr).1 hb
  exact ⟨((k (g r).1 _ (og r hr)).1 h1).1,((k (h r).1 _ (oh r hr)).1 h2).2⟩
 ·rcases (s r hr).2 hb with ⟨h1,h2⟩ | ⟨h1,h2⟩
  ·exact .inl ⟨((k (g r).1 _ (og r hr)).1 h1).1,((k (h r).1 _ (oh r hr)).1 h2).2⟩
  ·have h3:=(k (g r).1 _ (og r hr)).2 h1
   show Sm (kg (g r).1 (g r).2) (kh (h r).1 (h r).2)
   rw [← h2]
   exact h3
theorem keep {α : Type} {h : RSt → α × RSt} (k : Keeps h h) {r : RSt} (hb : r.bad = true) : (h r).2.bad = true:=by
 cases e : (h r).2.bad with
 | true=>rfl
 | false=>have:=(k r e).1; rw [hb] at this; cases this
theorem ext_self (X : RIn) : Ext X X:=⟨[],(List.append_nil _).symm⟩
theorem tkNum_bad {X : RIn} {r : RSt} (h : r.bad = true) : tkNum X r = (0,r):=by unfold tkNum; rw [if_pos h]
theorem tkRaw_bad {X : RIn} {n : Int} {r : RSt} (h : r.bad = true) : (tkRaw X n r).2.bad = true:=by unfold tkRaw; rw [if_pos (.inl h)]
theorem sm_num (X : RIn) : SmF X (tkNum X) (rdNum X):=fun r hr=>⟨fun hb=>⟨by rw [tkNum_bad hb]; exact hb,keep (ext_num (ext_self X)) hb⟩,fun hb=>by
 obtain ⟨a,b⟩:=r
 simp only at hb
 subst hb
 have h:=rf_law X.s a 5 0 0 rfl hr.2 (fun x hx=>by simp at hx) rfl
 have hR : rdNumL (xIn X.s) (5 + 1) ⟨a + 0,false⟩ 0 (128 ^ 0) 0 = rdNum X ⟨a,false⟩:=(rdNumL_s X _ _ _ _ _).symm
 rw [hR] at h
 unfold tkNum
 rw [if_neg (by simp)]
 simp only
 cases e : rfL X.s a 5 0 0 with
 | none=>rw [e] at h; exact .inl ⟨rfl,h⟩
 | some p =>
  rw [e] at h
  have h' : rdNum X ⟨a,false⟩ = (p.1,⟨p.2,false⟩):=h
  rw [h']
  exact .inr ⟨rfl,rfl⟩⟩
theorem tkNum_ok {X : RIn} {r : RSt} (h : okIn X r) : okIn X (tkNum X r).2:=by
 cases hb : r.bad with
 | true=>rw [tkNum_bad hb]; exact h
 | false =>
  rcases ((sm_num X) r h).2 hb with ⟨h1,_⟩ | ⟨_,h2⟩
  ·unfold tkNum at h1 ⊢
   rw [if_neg (by rw [hb]; simp)] at h1 ⊢
   split
   ·rename_i p e; rw [e] at h1; cases h1
   ·exact h
  ·rw [h2]; exact (rdNum_ok h).1
theorem tkRaw_ok {X : RIn} {n : Int} {r : RSt} (h : okIn X r) : okIn X (tkRaw X n r).2:=by
 unfold tkRaw
 split
 ·exact h
 ·rename_i hc
  exact ⟨h.1,by simp only; omega⟩
theorem sm_str (X : RIn) : SmF X (tkText X) (rdStr X):=fun r hr=>⟨fun hb=>⟨by
  unfold tkText
  exact tkRaw_bad (by rw [tkNum_bad hb]; simp [hb]),keep (ext_str (ext_self X)) hb⟩,fun hb=>by
 rcases (sm_num X r hr).2 hb with ⟨h1,h2⟩ | ⟨h1,h2⟩
 ·refine .inl ⟨?_,?_⟩
  ·unfold tkText
   exact tkRaw_bad (by simp [h1])
  ·unfold rdStr
   simp only
   split
   ·rfl
   ·exact h2
 ·unfold tkText rdStr
  rw [h2]
  rw [h2] at h1
  simp only
  generalize rdNum X r = v at h1
  obtain ⟨n,a,b⟩:=v
  simp only at h1 ⊢
  subst h1
  by_cases hc : n < 0 ∨ 255 < n ∨ (X.s.length : Int) - a < n
  ·rw [if_pos hc]
   refine .inl ⟨?_,rfl⟩
   unfold tkRaw
   rw [if_pos (by simp only [Bool.false_or,decide_eq_true_eq]; omega)]
  ·rw [if_neg hc]
   unfold tkRaw
   rw [if_neg (by simp only [Bool.false_or,decide_eq_true_eq]; omega)]
   exact .inr ⟨rfl,rfl⟩⟩
theorem raw_in {X : RIn} {r : RSt} {k : Nat} (hb : r.bad = false) (hk : k ≤ 4) : tkRaw X (k : Int) r = if r.at_ + k ≤ X.s.length then ((X.s.take (r.at_ + k)).drop r.at_,⟨r.at_ + k,false⟩) else ([],⟨r.at_,true⟩):=by
 unfold tkRaw
 by_cases h : r.at_ + k ≤ X.s.length
 ·rw [if_pos h,if_neg (by rw [hb]; simp; omega)]
  rfl
 ·rw [if_neg h,if_pos (by omega)]
theorem take_at {X : RIn} {r : RSt} (hb : r.bad = false) (h : r.at_ + 1 ≤ X.s.length) : takeB X r = (X.s.getD r.at_ 0,⟨r.at_ + 1,false⟩):=by
 unfold takeB
 rw [if_pos (by omega),hb]
theorem take_off {X : RIn} {r : RSt} (h : ¬ r.at_ + 1 ≤ X.s.length) : (takeB X r).2.bad = true:=by
 unfold takeB
 rw [if_neg (by omega)]
theorem take_bad {X : RIn} {r : RSt} (h : r.bad = true) : (takeB X r).2.bad = true:=keep (ext_take (ext_self X)) h
theorem cut_get (s : List UInt8) (a k : Nat) (h : a + (k + 1) ≤ s.length) : (s.take (a + (k + 1))).drop a = s.getD a 0 :: (s.take (a + 1 + k)).drop (a + 1):=by
 have h1 : a < (s.take (a + (k + 1))).length:=by rw [List.length_take]; omega
 rw [drop_getD _ a 0 h1]
 congr 1
 ·rw [List.getD,List.getElem?_take_of_lt (by omega),List.getD]
 ·rw [show a + (k + 1) = a + 1 + k by omega]
theorem cut_nil (s : List UInt8) (a : Nat) : (s.take (a + 0)).drop a = []:=by rw [List.drop_eq_nil_of_le (by rw [List.length_take]; omega)]
theorem sm_flag (X : RIn) : SmF X (tkFlag X) (rdFlag X):=fun r hr=>⟨fun hb=>⟨by
  unfold tkFlag
  simp only
  rw [tkRaw_bad hb]
  rfl,keep (ext_flag (ext_self X)) hb⟩,fun hb=>by
 have hraw:=raw_in (X:=X) (r:=r) (k:=1) hb (by decide)
 have hraw : tkRaw X 1 r = _:=hraw
 unfold tkFlag rdFlag
 rw [hraw]
 by_cases h : r.at_ + 1 ≤ X.s.length
 ·rw [if_pos h,take_at hb h,cut_get _ _ 0 h,cut_nil]
  simp only
  generalize X.s.getD r.at_ 0 = c
  by_cases h0 : c.toNat = 0
  ·have : c = 0:=UInt8.toNat_inj.1 h0
   subst this
   exact .inr ⟨rfl,rfl⟩
  by_cases h1 : c.toNat = 1
  ·have : c = 1:=UInt8.toNat_inj.1 h1
   subst this
   exact .inr ⟨rfl,rfl⟩
  ·refine .inl ⟨?_,?_⟩
   ·have e0 : c ≠ 0:=fun e=>h0 (by rw [e]; rfl)
    have e1 : c ≠ 1:=fun e=>h1 (by rw [e]; rfl)
    simp [e0,e1]
   ·simp
    omega
 ·rw [if_neg h]
  exact .inl ⟨rfl,by simp only; rw [take_off h]; rfl⟩⟩
theorem oNum (X : RIn) : OkF X (rdNum X):=fun _ h=>(rdNum_ok h).1
theorem oStr (X : RIn) : OkF X (rdStr X):=fun _ h=>rdStr_ok h
theorem oFlag (X : RIn) : OkF X (rdFlag X):=fun _ h=>rdFlag_ok h
theorem tNum (X : RIn) : OkF X (tkNum X):=fun _ h=>tkNum_ok h
theorem tFlag (X : RIn) : OkF X (tkFlag X):=fun _ h=>tkRaw_ok (n:=1) h
theorem tText (X : RIn) : OkF X (tkText X):=fun _ h=>tkRaw_ok (n:=_) (r:=⟨_,_⟩) (tkNum_ok h)
theorem sm_ty (X : RIn) : SmF X (tkTy X) (rdTy X):=by
 have h:=(sm_num X).bind (tNum X) (oNum X) (fun a=>(sm_num X).bind (tNum X) (oNum X) (fun b=>(sm_num X).bind (tNum X) (oNum X) (fun c=>(sm_flag X).bind (tFlag X) (oFlag X) (fun d=>(sm_str X).bind (tText X) (oStr X) (fun e=>SmF.pure (⟨a,b,c,d,e⟩ : Ty))))))
 exact h
theorem sm_fm (X : RIn) : SmF X (tkFm X) (rdFm X):=by
 have h:=(sm_num X).bind (tNum X) (oNum X) (fun a=>(sm_num X).bind (tNum X) (oNum X) (fun b=>(sm_num X).bind (tNum X) (oNum X) (fun c=>(sm_str X).bind (tText X) (oStr X) (fun e=>SmF.pure (⟨a,b,c,e⟩ : Fm)))))
 exact h
theorem sm_int (X : RIn) : SmF X (tkI X) (gI X):=by
 have h:=(sm_num X).bind (tNum X) (oNum X) (fun a=>SmF.pure (a - 1))
 exact h
theorem oList {α : Type} {X : RIn} {g : RSt → α × RSt} (o : OkF X g) : ∀ k,OkF X (rdList g k)
 | 0=>fun _ h=>h
 | k + 1=>fun r h=>oList o k _ (o r h)
theorem sm_list {α : Type} {X : RIn} {g h : RSt → α × RSt} (s : SmF X g h) (og : OkF X g) (oh : OkF X h) : ∀ k,SmF X (rdList g k) (rdList h k)
 | 0=>SmF.pure []
 | k + 1=>by
  have h:=s.bind og oh (fun a=>(sm_list s og oh k).bind (oList og k) (oList oh k) (fun l=>SmF.pure (a :: l)))
  exact h
theorem tMany (X : RIn) : OkF X (tkMany X):=fun r h=>by
 unfold tkMany
 split
 ·exact ⟨h.1,(tkNum_ok h).2⟩
 ·exact tkNum_ok h
theorem sm_lst {α : Type} {X : RIn} {g h : RSt → α × RSt} (s : SmF X g h) (og : OkF X g) (oh : OkF X h) (l : List α) : SmF X (tkLst X g l) (rdLst X h l):=fun r hr=>by
 have hm : (tkMany X r).2.bad = true → (tkLst X g l r).2.bad = true:=fun hb=>((sm_list s og oh _ _ (tMany X r hr)).1 hb).1
 refine ⟨fun hb=>⟨hm ?_,?_⟩,fun hb=>?_⟩
 ·unfold tkMany
  rw [tkNum_bad hb,if_neg (by simp)]
  exact hb
 ·have hb1:=((sm_num X r hr).1 hb).2
  unfold rdLst
  split
  ·rfl
  ·exact ((sm_list s og oh _ _ (oNum X r hr)).1 hb1).2
 ·rcases (sm_num X r hr).2 hb with ⟨h1,h2⟩ | ⟨h1,h2⟩
  ·refine .inl ⟨hm ?_,?_⟩
   ·unfold tkMany
    split
    ·rfl
    ·exact h1
   ·unfold rdLst
    split
    ·rfl
    ·exact ((sm_list s og oh _ _ (oNum X r hr)).1 h2).2
  ·have hk:=tMany X r hr
   unfold tkLst rdLst
   unfold tkMany at hm hk ⊢
   rw [h2] at h1 hm hk ⊢
   by_cases hc : (rdNum X r).1 < 0 ∨ 16 < (rdNum X r).1
   ·rw [if_pos (show (decide ((rdNum X r).1 < 0) || decide ((rdNum X r).1 > 16)) = true by simpa using hc)]
    refine .inl ⟨?_,rfl⟩
    rw [if_pos hc]
    exact ((sm_list s og oh _ _ (show okIn X ⟨(rdNum X r).2.at_,true⟩ from ⟨hr.1,(oNum X r hr).2⟩)).1 rfl).1
   ·rw [if_neg (show ¬ (decide ((rdNum X r).1 < 0) || decide ((rdNum X r).1 > 16)) = true by simpa using hc),if_neg hc]
    rcases (sm_list s og oh (rdNum X r).1.toNat _ (oNum X r hr)).2 h1 with h3 | ⟨h3,h4⟩
    ·exact .inl h3
    ·refine .inr ⟨h3,?_⟩
     rw [h4]
def wrap32 (n : Nat) : Int:=if n < 2147483648 then (n : Int) else (n : Int) - 4294967296
theorem orB_gen {n b : Nat} (hn : n < 16777216) (hb : b < 256) : orB (n : Int) (b : Int) = IntKind.i32.wrap ((n * 256 + b : Nat) : Int):=by
 unfold orB
 have e1 : BitVec.ofInt 32 (IntKind.i32.wrap ((n : Int) * 2 ^ 8)) = BitVec.ofNat 32 (n * 256):=by
  apply BitVec.eq_of_toNat_eq
  rw [BitVec.toNat_ofInt,BitVec.toNat_ofNat]
  simp [IntKind.wrap,IntKind.bits,IntKind.signed]
  omega
 have e2 : BitVec.ofInt 32 (IntKind.i32.wrap (b : Int)) = BitVec.ofNat 32 b:=by
  apply BitVec.eq_of_toNat_eq
  rw [BitVec.toNat_ofInt,BitVec.toNat_ofNat]
  simp [IntKind.wrap,IntKind.bits,IntKind.signed]
  omega
 rw [e1,e2]
 have e3 : (BitVec.ofNat 32 (n * 256) ||| BitVec.ofNat 32 b).toNat = n * 256 + b:=by
  rw [BitVec.toNat_or,BitVec.toNat_ofNat,BitVec.toNat_ofNat,Nat.mod_eq_of_lt (by omega),Nat.mod_eq_of_lt (by omega)]
  have:=Nat.two_pow_add_eq_or_of_lt (i:=8) (b:=b) (by omega) n
  rw [Nat.mul_comm n 256]
  exact this.symm
 rw [e3]
theorem orB_3 {n b : Nat} (hn : n < 65536) (hb : b < 256) : orB (n : Int) (b : Int) = ((n * 256 + b : Nat) : Int):=by
 rw [orB_gen (by omega) hb]
 simp [IntKind.wrap,IntKind.bits,IntKind.signed]
 omega
theorem orB_4 {n b : Nat} (hn : n < 16777216) (hb : b < 256) : IntKind.i64.wrap (orB (n : Int) (b : Int)) = wrap32 (n * 256 + b):=by
 rw [orB_gen hn hb]
 unfold wrap32
 simp [IntKind.wrap,IntKind.bits,IntKind.signed]
 split <;> omega
theorem four_rel {X : RIn} {r : RSt} (hr : okIn X r) (hb : r.bad = false) :
  ((tkFour X r).2.bad = true ∧ (rdFour X r).2.bad = true) ∨ ∃ (n : Nat) (s : RSt),n < 4294967296 ∧ s.bad = false ∧ okIn X s ∧ tkFour X r = ((n : Int),s) ∧ rdFour X r = (wrap32 n,s):=by
 have hraw : tkRaw X 4 r = _:=raw_in (X:=X) (r:=r) (k:=4) hb (by decide)
 by_cases h : r.at_ + 4 ≤ X.s.length
 ·rw [if_pos h] at hraw
  have c3 : X.s.take (r.at_ + 4) = X.s.take (r.at_ + (3 + 1)):=rfl
  rw [c3,cut_get _ _ 3 h,cut_get _ _ 2 (by omega),cut_get _ _ 1 (by omega),cut_get _ _ 0 (by omega),cut_nil] at hraw
  have t0:=take_at (X:=X) (r:=r) hb (by omega)
  have t1:=take_at (X:=X) (r:=⟨r.at_ + 1,false⟩) rfl (show r.at_ + 1 + 1 ≤ X.s.length by omega)
  have t2:=take_at (X:=X) (r:=⟨r.at_ + 1 + 1,false⟩) rfl (show r.at_ + 1 + 1 + 1 ≤ X.s.length by omega)
  have t3:=take_at (X:=X) (r:=⟨r.at_ + 1 + 1 + 1,false⟩) rfl (show r.at_ + 1 + 1 + 1 + 1 ≤ X.s.length by omega)
  simp only at t1 t2 t3
  generalize X.s.getD r.at_ 0 = b0 at hraw t0
  generalize X.s.getD (r.at_ + 1) 0 = b1 at hraw t1
  generalize X.s.getD (r.at_ + 1 + 1) 0 = b2 at hraw t2
  generalize X.s.getD (r.at_ + 1 + 1 + 1) 0 = b3 at hraw t3
  have l0:=b0.toNat_lt
  have l1:=b1.toNat_lt
  have l2:=b2.toNat_lt
  have l3:=b3.toNat_lt
  refine .inr ⟨((b0.toNat * 256 + b1.toNat) * 256 + b2.toNat) * 256 + b3.toNat,⟨r.at_ + 4,false⟩,by omega,rfl,⟨hr.1,h⟩,?_,?_⟩
  ·unfold tkFour
   rw [hraw]
   simp [be]
   omega
  ·unfold rdFour
   simp only [t0,t1,t2,t3]
   have e0 : orB 0 (b0.toNat : Int) = ((b0.toNat : Nat) : Int):=by
    have:=orB_3 (n:=0) (b:=b0.toNat) (by decide) (by omega)
    simpa using this
   rw [e0,orB_3 (by omega) (by omega),orB_3 (by omega) (by omega),orB_4 (by omega) (by omega)]
 ·rw [if_neg h] at hraw
  refine .inl ⟨by unfold tkFour; rw [hraw],?_⟩
  have hx : ∀ r : RSt,r.bad = true → (takeB X r).2.bad = true:=fun r hb=>take_bad hb
  have h4 : (takeB X (takeB X (takeB X (takeB X r).2).2).2).2.bad = true:=by
   by_cases c0 : r.at_ + 1 ≤ X.s.length
   ·rw [take_at hb c0]
    simp only
    by_cases c1 : r.at_ + 1 + 1 ≤ X.s.length
    ·rw [take_at (r:=⟨r.at_ + 1,false⟩) rfl c1]
     simp only
     by_cases c2 : r.at_ + 1 + 1 + 1 ≤ X.s.length
     ·rw [take_at (r:=⟨r.at_ + 1 + 1,false⟩) rfl c2]
      simp only
      exact take_off (r:=⟨r.at_ + 1 + 1 + 1,false⟩) (show ¬ r.at_ + 1 + 1 + 1 + 1 ≤ X.s.length by omega)
     ·exact hx _ (take_off (r:=⟨r.at_ + 1 + 1,false⟩) c2)
    ·exact hx _ (hx _ (take_off (r:=⟨r.at_ + 1,false⟩) c1))
   ·exact hx _ (hx _ (hx _ (take_off c0)))
  exact h4
theorem rdFour_bad {X : RIn} {r : RSt} (h : r.bad = true) : (rdFour X r).2.bad = true:=keep (ext_four (ext_self X)) h
theorem tkFour_bad {X : RIn} {r : RSt} (h : r.bad = true) : (tkFour X r).2.bad = true:=tkRaw_bad (n:=4) h
def tkFl (f : Fl) (rl : List (Int × Int)) (X : RIn) (r : RSt) (x : In) : RSt × In:=match f with
 | .D=>((tkNum X r).2,Sel.set .D x ((tkNum X r).1 - 1))
 | .A=>((tkNum X r).2,Sel.set .A x ((tkNum X r).1 - 1))
 | .B=>((tkNum X r).2,Sel.set .B x ((tkNum X r).1 - 1))
 | .N=>((tkNum X r).2,Sel.set .N x (tkNum X r).1)
 | .M=>((tkNum X r).2,Sel.set .M x (tkNum X r).1)
 | .P=>((tkNum X r).2,Sel.set .P x (tkNum X r).1)
 | .T=>((tkTy X r).2,TSel.set .T x (tkTy X r).1)
 | .U=>((tkTy X r).2,TSel.set .U x (tkTy X r).1)
 | .W=>((tkTy X r).2,TSel.set .W x (tkTy X r).1)
 | .V=>((tkText X (tkNum X r).2).2,{ x with vn:=(tkNum X r).1,vs:=(tkText X (tkNum X r).2).1 })
 | .L=>((tkLst X (tkI X) x.l r).2,{ x with l:=(tkLst X (tkI X) x.l r).1 })
 | .Y=>((tkLst X (tkTy X) x.y r).2,{ x with y:=(tkLst X (tkTy X) x.y r).1 })
 | .F=>((tkLst X (tkFm X) x.f r).2,{ x with f:=(tkLst X (tkFm X) x.f r).1 })
 | .Sz=>((tkFlag X r).2,FSel.set .S x (tkFlag X r).1)
 | .Rg=>((tkFlag X r).2,FSel.set .R x (tkFlag X r).1)
 | .aN=>((tkFour X r).2,Sel.set .N x (tkFour X r).1)
 | .aM=>((tkFour X r).2,Sel.set .M x (tkFour X r).1)
 | .pN=>(⟨(tkFour X (rdRel rl (r.at_ : Int) r).2).2.at_,(!((tkFour X (rdRel rl (r.at_ : Int) r).2).1 == 0)) || (tkFour X (rdRel rl (r.at_ : Int) r).2).2.bad⟩,Sel.set .N x (rdRel rl (r.at_ : Int) r).1)
 | .pM=>if ((tkFour X r).1 == 4294967295) = true then ((tkFour X r).2,Sel.set .M x (-1))
  else (⟨(rdRel rl (r.at_ : Int) (tkFour X r).2).2.at_,(!((tkFour X r).1 == 0)) || (rdRel rl (r.at_ : Int) (tkFour X r).2).2.bad⟩,Sel.set .M x (rdRel rl (r.at_ : Int) (tkFour X r).2).1)
 | .far=>((tkFour X (rdRel rl (r.at_ : Int) r).2).2,{ x with p:=(rdRel rl (r.at_ : Int) r).1,n:=(tkFour X (rdRel rl (r.at_ : Int) r).2).1 })
def Fl.pl (f : Fl) : Bool:=match f with
 | .aN | .aM | .far=>true
 | _=>false
def FlR (f : Fl) (p q : RSt × In) : Prop:=(p.1.bad = true ∧ q.1.bad = true) ∨ (p.1.bad = false ∧ p = q) ∨ (f.pl = true ∧ p.1.bad = false ∧ p.1 = q.1 ∧ f.fineB p.2 = false ∧ f.fineB q.2 = false ∧ p.2.op = q.2.op)
theorem isPl_big {n : Nat} (h : ¬ n < 2147483648) : isPl (n : Int) = false:=by unfold isPl; simp; omega
theorem isPl_low {n : Nat} (h : ¬ n < 2147483648) (h' : n < 4294967296) : isPl (wrap32 n) = false:=by unfold isPl wrap32; rw [if_neg h]; simp; omega
theorem FlR.of {α : Type} {f : Fl} {p q : α × RSt} (s : Sm p q) (g : α → In) : FlR f (p.2,g p.1) (q.2,g q.1):=by
 rcases s with h | ⟨h1,h2⟩
 ·exact .inl h
 ·exact .inr (.inl ⟨h1,by rw [h2]⟩)
theorem tk_fl (f : Fl) (rl : List (Int × Int)) (X : RIn) (r : RSt) (x : In) (hr : okIn X r) (hb : r.bad = false) : FlR f (tkFl f rl X r x) (f.rd rl X r x):=by
 cases f
 case D=>exact FlR.of ((sm_num X r hr).2 hb) (fun v=>Sel.set .D x (v - 1))
 case A=>exact FlR.of ((sm_num X r hr).2 hb) (fun v=>Sel.set .A x (v - 1))
 case B=>exact FlR.of ((sm_num X r hr).2 hb) (fun v=>Sel.set .B x (v - 1))
 case N=>exact FlR.of ((sm_num X r hr).2 hb) (fun v=>Sel.set .N x v)
 case M=>exact FlR.of ((sm_num X r hr).2 hb) (fun v=>Sel.set .M x v)
 case P=>exact FlR.of ((sm_num X r hr).2 hb) (fun v=>Sel.set .P x v)
 case T=>exact FlR.of ((sm_ty X r hr).2 hb) (fun v=>TSel.set .T x v)
 case U=>exact FlR.of ((sm_ty X r hr).2 hb) (fun v=>TSel.set .U x v)
 case W=>exact FlR.of ((sm_ty X r hr).2 hb) (fun v=>TSel.set .W x v)
 case V =>
  have h:=(sm_num X).bind (tNum X) (oNum X) (fun a=>(sm_str X).bind (tText X) (oStr X) (fun s=>SmF.pure ((a,s) : Int × List UInt8)))
  exact FlR.of ((h r hr).2 hb) (fun v=>{ x with vn:=v.1,vs:=v.2 })
 case L=>exact FlR.of ((sm_lst (sm_int X) (fun _ h=>tkNum_ok h) (fun _ h=>(rdNum_ok h).1) x.l r hr).2 hb) (fun v=>{ x with l:=v })
 case Y=>exact FlR.of ((sm_lst (sm_ty X) (fun _ h=>tText X _ (tFlag X _ (tNum X _ (tNum X _ (tNum X _ h))))) (fun _ h=>oStr X _ (oFlag X _ (oNum X _ (oNum X _ (oNum X _ h))))) x.y r hr).2 hb) (fun v=>{ x with y:=v })
 case F=>exact FlR.of ((sm_lst (sm_fm X) (fun _ h=>tText X _ (tNum X _ (tNum X _ (tNum X _ h)))) (fun _ h=>oStr X _ (oNum X _ (oNum X _ (oNum X _ h)))) x.f r hr).2 hb) (fun v=>{ x with f:=v })
 case Sz=>exact FlR.of ((sm_flag X r hr).2 hb) (fun v=>FSel.set .S x v)
 case Rg=>exact FlR.of ((sm_flag X r hr).2 hb) (fun v=>FSel.set .R x v)
 case aN =>
  rcases four_rel hr hb with h | ⟨n,s,hn,hs,_,e1,e2⟩
  ·exact .inl h
  ·show FlR .aN ((tkFour X r).2,Sel.set .N x (tkFour X r).1) ((rdFour X r).2,Sel.set .N x (rdFour X r).1)
   rw [e1,e2]
   by_cases h : n < 2147483648
   ·exact .inr (.inl ⟨hs,by unfold wrap32; rw [if_pos h]⟩)
   ·exact .inr (.inr ⟨rfl,hs,rfl,isPl_big h,isPl_low h hn,rfl⟩)
 case aM =>
  rcases four_rel hr hb with h | ⟨n,s,hn,hs,_,e1,e2⟩
  ·exact .inl h
  ·show FlR .aM ((tkFour X r).2,Sel.set .M x (tkFour X r).1) ((rdFour X r).2,Sel.set .M x (rdFour X r).1)
   rw [e1,e2]
   by_cases h : n < 2147483648
   ·exact .inr (.inl ⟨hs,by unfold wrap32; rw [if_pos h]⟩)
   ·exact .inr (.inr ⟨rfl,hs,rfl,isPl_big h,isPl_low h hn,rfl⟩)
 case pN =>
  show FlR .pN (⟨(tkFour X (rdRel rl (r.at_ : Int) r).2).2.at_,(!((tkFour X (rdRel rl (r.at_ : Int) r).2).1 == 0)) || (tkFour X (rdRel rl (r.at_ : Int) r).2).2.bad⟩,Sel.set .N x (rdRel rl (r.at_ : Int) r).1)
   ((rdPr false rl X r (Sel.get .N x)).2,Sel.set .N x (rdPr false rl X r (Sel.get .N x)).1)
  unfold rdPr rdRel
  simp only [Bool.false_and,Bool.false_eq_true,if_false]
  cases e : relAt (r.at_ : Int) rl with
  | none =>
   refine .inl ⟨?_,?_⟩
   ·simp only
    rw [tkFour_bad rfl]
    simp
   ·simp only
    split <;> rfl
  | some p =>
   simp only
   rcases four_rel hr hb with h | ⟨n,s,hn,hs,_,e1,e2⟩
   ·refine .inl ⟨?_,?_⟩
    ·simp only
     rw [h.1]
     simp
    ·simp only
     split
     ·exact h.2
     ·rfl
   ·rw [e1,e2]
    by_cases h : n = 0
    ·subst h
     refine .inr (.inl ⟨by simpa using hs,?_⟩)
     obtain ⟨sa,sb⟩:=s
     simp only at hs
     subst hs
     rfl
    ·refine .inl ⟨?_,?_⟩
     ·simp only
      have : ((n : Int) == 0) = false:=by simp; omega
      rw [this]
      rfl
     ·have : ¬ (wrap32 n == 0) = true:=by unfold wrap32; simp; split <;> omega
      rw [if_neg this]
 case pM =>
  show FlR .pM (if ((tkFour X r).1 == 4294967295) = true then ((tkFour X r).2,Sel.set .M x (-1))
   else (⟨(rdRel rl (r.at_ : Int) (tkFour X r).2).2.at_,(!((tkFour X r).1 == 0)) || (rdRel rl (r.at_ : Int) (tkFour X r).2).2.bad⟩,Sel.set .M x (rdRel rl (r.at_ : Int) (tkFour X r).2).1))
   ((rdPr true rl X r (Sel.get .M x)).2,Sel.set .M x (rdPr true rl X r (Sel.get .M x)).1)
  unfold rdPr
  rcases four_rel hr hb with h | ⟨n,s,hn,hs,_,e1,e2⟩
  ·refine .inl ⟨?_,?_⟩
   ·split
    ·exact h.1
    ·simp only
     have : (rdRel rl (r.at_ : Int) (tkFour X r).2).2.bad = true:=by
      unfold rdRel
      split
      ·exact h.1
      ·rfl
     rw [this]
     simp
   ·simp only
    split
    ·exact h.2
    ·split
     ·unfold rdRel
      split
      ·exact h.2
      ·rfl
     ·rfl
  ·rw [e1,e2]
   by_cases hm : n = 4294967295
   ·subst hm
    exact .inr (.inl ⟨hs,rfl⟩)
   ·have m1 : ¬ ((n : Int) == 4294967295) = true:=by simp; omega
    have m2 : ¬ (true && wrap32 n == -1) = true:=by unfold wrap32; simp; split <;> omega
    rw [if_neg m1,if_neg m2]
    by_cases h : n = 0
    ·subst h
     rw [if_pos (show (wrap32 0 == 0) = true from rfl)]
     simp only
     unfold rdRel
     cases e : relAt (r.at_ : Int) rl with
     | none=>exact .inl ⟨rfl,rfl⟩
     | some p =>
      simp only
      refine .inr (.inl ⟨by simpa using hs,?_⟩)
      obtain ⟨sa,sb⟩:=s
      simp only at hs
      subst hs
      rfl
    ·have : ¬ (wrap32 n == 0) = true:=by unfold wrap32; simp; split <;> omega
     rw [if_neg this]
     refine .inl ⟨?_,rfl⟩
     simp only
     have : ((n : Int) == 0) = false:=by simp; omega
     rw [this]
     rfl
 case far =>
  show FlR .far ((tkFour X (rdRel rl (r.at_ : Int) r).2).2,{ x with p:=(rdRel rl (r.at_ : Int) r).1,n:=(tkFour X (rdRel rl (r.at_ : Int) r).2).1 })
   ((rdFour X (rdRel rl (r.at_ : Int) r).2).2,{ x with p:=(rdRel rl (r.at_ : Int) r).1,n:=(rdFour X (rdRel rl (r.at_ : Int) r).2).1 })
  unfold rdRel
  cases e : relAt (r.at_ : Int) rl with
  | none=>exact .inl ⟨tkFour_bad rfl,rdFour_bad rfl⟩
  | some p =>
   simp only
   rcases four_rel hr hb with h | ⟨n,s,hn,hs,_,e1,e2⟩
   ·exact .inl h
   ·rw [e1,e2]
    by_cases h : n < 2147483648
    ·exact .inr (.inl ⟨hs,by unfold wrap32; rw [if_pos h]⟩)
    ·refine .inr (.inr ⟨rfl,hs,rfl,?_,?_,rfl⟩)
     ·show isFar _ = false
      unfold isFar
      simp
      omega
     ·show isFar _ = false
      unfold isFar wrap32
      rw [if_neg h]
      simp
      omega
def tkL (rl : List (Int × Int)) (X : RIn) (l : List Fl) (s : RSt × In) : RSt × In:=l.foldl (fun s f=>if s.1.bad = true then s else tkFl f rl X s.1 s.2) s
theorem tkL_bad {rl : List (Int × Int)} {X : RIn} : ∀ (l : List Fl) (s : RSt × In),s.1.bad = true → tkL rl X l s = s
 | [],s,_=>rfl
 | f :: l,s,h=>by
  show tkL rl X l (if s.1.bad = true then s else tkFl f rl X s.1 s.2) = s
  rw [if_pos h]
  exact tkL_bad l s h
theorem rd_op1 (f : Fl) (rl : List (Int × Int)) (X : RIn) (r : RSt) (x : In) : (f.rd rl X r x).2.op = x.op:=by cases f <;> rfl
theorem rdL_op (rl : List (Int × Int)) (X : RIn) : ∀ (l : List Fl) (s : RSt × In),(rdL rl X l s).2.op = s.2.op
 | [],s=>rfl
 | f :: l,s=>by
  show (rdL rl X l (if s.1.bad = true then s else f.rd rl X s.1 s.2)).2.op = _
  rw [rdL_op rl X l]
  split
  ·rfl
  ·exact rd_op1 f rl X s.1 s.2
def FlRL (l : List Fl) (p q : RSt × In) : Prop:=(p.1.bad = true ∧ q.1.bad = true) ∨ (p.1.bad = false ∧ p = q) ∨ (p.1.bad = false ∧ p.1 = q.1 ∧ ∃ f ∈ l,f.fineB p.2 = false ∧ f.fineB q.2 = false ∧ p.2.op = q.2.op)
theorem tk_list (rl : List (Int × Int)) (X : RIn) : ∀ (l : List Fl) (s : RSt × In),okIn X s.1 → s.1.bad = false → (∀ f ∈ l.dropLast,f.pl = false) → FlRL l (tkL rl X l s) (rdL rl X l s)
 | [],s,_,hb,_=>.inr (.inl ⟨hb,rfl⟩)
 | f :: l,s,hr,hb,hp=>by
  have hu : tkL rl X (f :: l) s = tkL rl X l (tkFl f rl X s.1 s.2):=by
   show tkL rl X l (if s.1.bad = true then s else tkFl f rl X s.1 s.2) = _
   rw [if_neg (by rw [hb]; decide)]
  have hv : rdL rl X (f :: l) s = rdL rl X l (f.rd rl X s.1 s.2):=by
   show rdL rl X l (if s.1.bad = true then s else f.rd rl X s.1 s.2) = _
   rw [if_neg (by rw [hb]; decide)]
  rw [hu,hv]
  have hok:=(rd_ok f (rl:=rl) (x:=s.2) hr).1
  rcases tk_fl f rl X s.1 s.2 hr hb with ⟨h1,h2⟩ | ⟨h1,h2⟩ | ⟨h0,h1,h2,h3,h4,h5⟩
  ·rw [tkL_bad l _ h1,rdL_bad l _ h2]
   exact .inl ⟨h1,h2⟩
  ·rw [h2] at h1 ⊢
   have hp' : ∀ g ∈ l.dropLast,g.pl = false:=fun g hg=>hp g (by
    cases l with
    | nil=>cases hg
    | cons a l=>exact List.mem_cons_of_mem _ hg)
   rcases tk_list rl X l _ hok h1 hp' with h | h | ⟨k1,k2,g,hg,k3⟩
   ·exact .inl h
   ·exact .inr (.inl h)
   ·exact .inr (.inr ⟨k1,k2,g,List.mem_cons_of_mem _ hg,k3⟩)
  ·cases l with
   | nil=>exact .inr (.inr ⟨h1,h2,f,List.mem_cons_self ..,h3,h4,h5⟩)
   | cons a l =>
    have:=hp f (List.mem_cons_self ..)
    rw [h0] at this
    cases this
def tkDecR (rl : List (Int × Int)) (X : RIn) (a : Nat) : RSt × In:=tkL rl X ((opFind ((X.s.getD a 0).toNat : Int)).getD []) (⟨a + 1,false⟩,emptyI ((X.s.getD a 0).toNat : Int))
def tkDecOk (rl : List (Int × Int)) (X : RIn) (a : Nat) : Bool:=decide (a < X.s.length) && !(tkDecR rl X a).1.bad && cFine (tkDecR rl X a).2
theorem cFine_not {x : In} {l : List Fl} {f : Fl} (h : opFind x.op = some l) (hf : f ∈ l) (hn : f.fineB x = false) : cFine x = false:=by
 unfold cFine
 rw [h]
 have : l.all (fun f=>f.fineB x) = false:=by
  cases e : l.all (fun f=>f.fineB x) with
  | false=>rfl
  | true=>rw [List.all_eq_true.1 e f hf] at hn; cases hn
 simp only
 rw [this]
 rfl
theorem tk_dec (rl : List (Int × Int)) (X : RIn) (a : Nat) (hok : okIn X ⟨a,false⟩) : tkDecOk rl X a = cDecOk rl X a ∧ (cDecOk rl X a = true → tkDecR rl X a = cDecR rl X a):=by
 by_cases ha : a < X.s.length
 ·have ht:=take_at (X:=X) (r:=⟨a,false⟩) rfl (by show a + 1 ≤ _; omega)
  simp only at ht
  unfold tkDecOk cDecOk tkDecR cDecR
  rw [ht]
  simp only
  generalize ((X.s.getD a 0).toNat : Int) = o
  rw [show decide (a < X.s.length) = true by simpa using ha]
  cases e : opFind o with
  | none =>
   have : cFine (emptyI o) = false:=by unfold cFine; rw [show (emptyI o).op = o from rfl,e]
   simp [tkL,this]
  | some l =>
   have hl : l = opFls o.toNat ∧ isOp o.toNat = true:=by
    unfold opFind at e
    split at e
    ·rename_i h; cases e; exact ⟨rfl,(isOp_iff _).2 (by omega)⟩
    ·cases e
   have hpl : ∀ f ∈ l.dropLast,f.pl = false:=by
    have:=all_ops (p:=fun o=>(opFls o).dropLast.all (fun f=>!f.pl)) kq hl.2
    rw [hl.1]
    intro f hf
    simpa using List.all_eq_true.1 this f hf
   simp only [Option.getD_some,Option.isSome_some,Bool.true_and]
   have hop : (rdL rl X l (⟨a + 1,false⟩,emptyI o)).2.op = o:=rdL_op rl X l _
   rcases tk_list rl X l (⟨a + 1,false⟩,emptyI o) ⟨hok.1,ha⟩ rfl hpl with ⟨h1,h2⟩ | ⟨h1,h2⟩ | ⟨h1,h2,f,hf,h3,h4,h5⟩
   ·rw [h1,h2]
    simp
   ·rw [h2]
    simp
   ·rw [hop] at h5
    have c1:=cFine_not (show opFind _ = some l by rw [h5]; exact e) hf h3
    have c2:=cFine_not (show opFind _ = some l by rw [hop]; exact e) hf h4
    rw [c1,c2]
    simp
 ·have ht : takeB X ⟨a,false⟩ = (0,⟨a,true⟩):=by unfold takeB; rw [if_neg ha]
  have e1 : tkDecOk rl X a = false:=by unfold tkDecOk; rw [show decide (a < X.s.length) = false by simpa using ha]; rfl
  have e2 : cDecOk rl X a = false:=by unfold cDecOk; rw [ht]; rfl
  rw [e1,e2]
  exact ⟨rfl,fun h=>by cases h⟩
end Go.Proofs
end
section
namespace Go.SX
def setl (g : Nat) (b : Bool) : RV → RV
 | .grd g' pol c x=>match Nat.beq g' g with
  | true=>match pol,b with
   | true,true | false,false=>.v x
   | _,_=>.v (.one (.val undef))
  | false=>.grd g' pol c x
 | v=>v
def settleS (g : Nat) (b : Bool) : List (Nat × RV) → List (Nat × RV)
 | []=>[]
 | (k,v) :: l=>(k,setl g b v) :: settleS g b l
theorem look_settleS {g : Nat} {b : Bool} : ∀ {l : List (Nat × RV)} {i : Nat},look (settleS g b l) i = (look l i).map (setl g b)
 | [],i=>rfl
 | (k,v) :: l,i=>by
  simp only [settleS,look]
  cases Nat.beq k i with
  | true=>rfl
  | false=>exact look_settleS
def lessNat (g : Nat) : List Nat → List Nat
 | []=>[]
 | k :: l=>match Nat.beq k g with
  | true=>lessNat g l
  | false=>k :: lessNat g l
theorem hasNat_less {g i : Nat} : ∀ {l : List Nat},hasNat l i = true → g ≠ i → hasNat (lessNat g l) i = true
 | [],h,_=>h
 | k :: l,h,hn=>by
  simp only [lessNat]
  simp only [hasNat] at h
  cases e : Nat.beq k g with
  | true =>
   have:=Nat.eq_of_beq_eq_true e
   subst this
   cases e2 : Nat.beq k i with
   | true=>exact absurd (Nat.eq_of_beq_eq_true e2) hn
   | false=>rw [e2] at h; exact hasNat_less h hn
  | false =>
   simp only [hasNat]
   cases e2 : Nat.beq k i with
   | true=>rfl
   | false=>rw [e2] at h; exact hasNat_less h hn
variable {C : Ctx}
theorem V.settle (g : Nat) (b e : Bool) {c : Cfg} (hl : look c.st.slots g = some (.v (.one (.sb e)))) (he : e = b)
  (h : V C ⟨c.todo,{ c.st with slots:=upd (settleS g b c.st.slots) g (.v (.one (.bool b))),gs:=lessNat g c.st.gs }⟩) : V C c:=by
 subst he
 intro ρ a w hS
 refine h ρ a w ⟨hS.n,fun i v hv=>?_,fun i g' pol c' x hv=>?_,hS.heap,hS.inj,hS.lt,hS.defers,hS.chg,hS.rows,hS.rowsD,hS.pers,hS.fix⟩
 ·simp only [look_upd] at hv
  by_cases ei : g = i
  ·rw [if_pos ei] at hv
   cases hv
   subst ei
   exact ⟨(hS.slots g _ hl).1,trivial⟩
  ·rw [if_neg ei,look_settleS] at hv
   cases h0 : look c.st.slots i with
   | none=>rw [h0] at hv; cases hv
   | some v0 =>
    rw [h0] at hv
    cases hv
    obtain ⟨k1,k2⟩:=hS.slots i v0 h0
    cases v0 with
    | grd g' pol c' x =>
     simp only [setl]
     cases eg : Nat.beq g' g with
     | false=>exact ⟨k1,k2⟩
     | true =>
      have:=Nat.eq_of_beq_eq_true eg
      subst this
      have k3:=(hS.grds i g' pol c' x h0).2
      rw [hl] at k3
      cases k3
      cases pol <;> cases e
      ·exact ⟨k1,k2 rfl⟩
      ·exact ⟨k1,trivial⟩
      ·exact ⟨k1,trivial⟩
      ·exact ⟨k1,k2 rfl⟩
    | v x=>exact ⟨k1,k2⟩
    | _=>exact ⟨k1,k2⟩
 ·simp only [look_upd] at hv ⊢
  by_cases ei : g = i
  ·rw [if_pos ei] at hv; cases hv
  ·rw [if_neg ei,look_settleS] at hv
   cases h0 : look c.st.slots i with
   | none=>rw [h0] at hv; cases hv
   | some v0 =>
    rw [h0] at hv
    cases v0 with
    | grd g2 pol2 c2 x2 =>
     simp only [Option.map_some,setl] at hv
     cases eg : Nat.beq g2 g with
     | true=>rw [eg] at hv; cases pol2 <;> cases e <;> cases hv
     | false =>
      rw [eg] at hv
      cases hv
      obtain ⟨k1,k2⟩:=hS.grds i g' pol c' x h0
      have hne : g ≠ g':=fun e'=>by subst e'; rw [Nat.beq_refl] at eg; cases eg
      refine ⟨hasNat_less k1 hne,?_⟩
      rw [if_neg hne,look_settleS,k2]
      rfl
    | v x=>cases hv
    | _=>cases hv
end Go.SX
end
section
namespace Go.Proofs
open Go Go.SX
set_option maxRecDepth 10000
noncomputable def aIn : Con Tryz.prog:=Con.auto Tryz.func81 false [] [] kq kq
noncomputable def aNumR : Con Tryz.prog:=Con.auto Tryz.func55 false [⟨aIn,[]⟩] [] kq kq
noncomputable def aTypR : Con Tryz.prog:=Con.auto Tryz.func119 true [⟨aNumR,[]⟩] [] kq kq
noncomputable def aFmtR : Con Tryz.prog:=Con.auto Tryz.func120 true [⟨aNumR,[]⟩] [] kq kq
def Fl.ch : Fl → UInt8
 | .D=>68 | .A=>65 | .B=>66 | .N=>78 | .M=>77 | .P=>80 | .T=>84 | .U=>85 | .W=>87 | .V=>86 | .L=>76 | .Y=>89 | .F=>70 | .Sz=>83 | .Rg=>82
 | .aN=>110 | .aM=>109 | .pN=>99 | .pM=>111 | .far=>103
def opRef (o : Nat) : List UInt8:=(opFls o).map Fl.ch
def rfT : List (List UInt8 × List UInt8):=(List.range 39).map fun o=>if o = 0 then ([],[]) else (opName o,opRef o)
def rfN (n : Int) : List UInt8 × List UInt8:=if 1 ≤ n ∧ n < 39 then rfT.getD n.toNat ([],[]) else ([],[])
noncomputable def frC (k : Nat) : Cfg:=⟨[.code (bodyOf Tryz.f62)],stF Tryz.f62.ntmps [.one (.int .i64 (k : Int))] noF true⟩
noncomputable def frD (k : Nat) : Cfg:=(SX.runC Tryz.prog [] 100 (frC k)).1
def frO (k : Nat) : List Prop:=[(0 : Int) ≤ (k : Int) ∧ (k : Int) < ((39 : Nat) : Int),(0 : Int) ≤ 0 ∧ (0 : Int) < ((2 : Nat) : Int),(0 : Int) ≤ (k : Int) ∧ (k : Int) < ((39 : Nat) : Int),(0 : Int) ≤ 1 ∧ (1 : Int) < ((2 : Nat) : Int)]
theorem cFieldsR0 (k : Nat) (hk : k < 39) (h1 : (SX.runC Tryz.prog [] 100 (frC k)).2 = frO k) (h2 : endOf Tryz.prog 62 noF.next (frD k) = some (.tup [.one (.str (rfN k).1),.one (.str (rfN k).2)],fragOf noF))
  (h3 : (isEnd (frD k).todo && (Nat.beq (frD k).st.fx noF.next && (rwOld noF.next noF.heap noF.heap && (rwNew noF.next noF.heap && (ownAll noF.rows && told noF.next noF.heap))))) = true) :
  CallsK Tryz.prog 62 [.one (.int .i64 (k : Int))] noF (fun _ : Unit=>True) (fun _=>.tup [.one (.str (rfN k).1),.one (.str (rfN k).2)]) (fun _=>noF):=by
 refine CallsK.mk true Tryz.func62 kq kq (fun ρ w=>?_)
 have key : V ⟨Tryz.prog,62,GivesK ρ noF (fun _ : Unit=>True) (fun _=>.tup [.one (.str (rfN k).1),.one (.str (rfN k).2)]) (fun _=>noF) w,touch ρ noF,w,ρ,none⟩ (frD k):=V.retK () [] h2 h3 rfl trivial
 exact V.runC (c:=frC k) [] 100 (frO k) h1 rfl ⟨⟨by omega,by omega⟩,⟨by decide,by decide⟩,⟨by omega,by omega⟩,⟨by decide,by decide⟩⟩ key
set_option maxHeartbeats 4000000 in
theorem cFieldsR1 (k : Nat) (h : 1 ≤ k ∧ k < 39) : CallsK Tryz.prog 62 [.one (.int .i64 (k : Int))] noF (fun _ : Unit=>True) (fun _=>.tup [.one (.str (rfN k).1),.one (.str (rfN k).2)]) (fun _=>noF):=by
 rcases (show k = 1 ∨ k = 2 ∨ k = 3 ∨ k = 4 ∨ k = 5 ∨ k = 6 ∨ k = 7 ∨ k = 8 ∨ k = 9 ∨ k = 10 ∨ k = 11 ∨ k = 12 ∨ k = 13 ∨ k = 14 ∨ k = 15 ∨ k = 16 ∨ k = 17 ∨ k = 18 ∨ k = 19 ∨ k = 20 ∨ k = 21 ∨ k = 22 ∨ k = 23 ∨ k = 24 ∨ k = 25 ∨ k = 26 ∨ k = 27 ∨ k = 28 ∨ k = 29 ∨ k = 30 ∨ k = 31 ∨ k = 32 ∨ k = 33 ∨ k = 34 ∨ k = 35 ∨ k = 36 ∨ k = 37 ∨ k = 38 by omega) with rfl | rfl | rfl | rfl | rfl | rfl | rfl | rfl | rfl | rfl | rfl | rfl | rfl | rfl | rfl | rfl | rfl | rfl | rfl | rfl | rfl | rfl | rfl | rfl | rfl | rfl | rfl | rfl | rfl | rfl | rfl | rfl | rfl | rfl | rfl | rfl | rfl | rfl
 all_goals exact cFieldsR0 _ (by decide) kq kq kq
theorem cFieldsR (n : Int) : CallsK Tryz.prog 62 [.one (.int .i64 n)] noF (fun _ : Unit=>True) (fun _=>.tup [.one (.str (rfN n).1),.one (.str (rfN n).2)]) (fun _=>noF):=by
 by_cases hn : 1 ≤ n ∧ n < 39
 ·obtain ⟨k,rfl⟩ : ∃ k : Nat,n = (k : Int):=⟨n.toNat,by omega⟩
  exact cFieldsR1 k (by omega)
 ·have e : rfN n = ([],[]):=by
   unfold rfN
   rw [if_neg hn]
  rw [e]
  refine CallsK.mk true Tryz.func62 kq kq (fun ρ w=>?_)
  refine V.q ?_
  refine V.known 52 (decide (n < 1) || decide (n ≥ 39)) true kq (by simp; omega) ?_
  refine V.q ?_
  exact V.z
noncomputable def sEncR (n : Int) (h1 : -4611686018427387904 < n) (h2 : n < 4611686018427387904) : Con Tryz.prog:=Con.inst 56 [] [.one (.int .i64 n)] (.v (.one (.str (groups 9 (zz n))))) (fun ρ w _=>encode_calls n w h1 h2)
def rvO : Option (Int × Nat) → RV
 | some p=>.tup [.one (.int .i64 p.1),.one (.int .i64 (p.2 : Int)),.one (.int .i64 0)]
 | none=>.tup [.one (.int .i64 0),.one (.int .i64 0),.one (.int .i64 220)]
structure RrI where
 z : Nat
 i : Nat
def rrSt (b : List UInt8) (a : Nat) (j : RrI) : St :=
 { n:=75,slots:=[(0,.v (.one (.str b))),(1,.v (.one (.int .i64 (a : Int)))),(7,.v (.one (.int .u64 (j.z : Int)))),(8,.v (.one (.int .i64 (j.i : Int))))],gs:=[],heap:=[],next:=0,rows:=[],nr:=0,pers:=[],wr:=false,fx:=0 }
theorem unzz_lim {Z : Nat} (h : Z < 34359738368) : -4611686018427387904 < unzz Z ∧ unzz Z < 4611686018427387904:=by
 unfold unzz
 split <;> omega
set_option maxHeartbeats 4000000 in
theorem xReadNumberR (b : List UInt8) (n : Int) (hb : b.length ≤ 1000000000) (r : RV) (hr : r = rnF b n) : CallsK Tryz.prog 19 [.one (.str b),.one (.int .i64 n)] noF (fun _ : Unit=>True) (fun _=>r) (fun _=>noF):=by
 refine CallsK.mk false Tryz.func19 kq kq (fun ρ w=>?_)
 refine V.q ?_
 by_cases hB : rnB b n = true
 ·refine V.known 18 (rnB b n) true kq hB ?_
  refine V.q ?_
  have hz : r = .tup [.one (.int .i64 0),.one (.int .i64 0),.one (.int .i64 1)]:=hr.trans (by unfold rnF; rw [hB]; rfl)
  subst hz
  exact V.z
 ·have hB : rnB b n = false:=by simpa using hB
  refine V.known 18 (rnB b n) false kq hB ?_
  obtain ⟨a,ha⟩ : ∃ a : Nat,n = (a : Int):=⟨n.toNat,by unfold rnB at hB; simp at hB; omega⟩
  have hal : a ≤ b.length:=by unfold rnB at hB; simp at hB; omega
  have hr0 : r = rvO (rfL b a 5 0 0):=hr.trans (by unfold rnF; rw [hB,ha]; rfl)
  subst ha
  clear hr
  refine V.q ?_
  refine V.iter ?_
  refine V.loopTo [0,1,7,8] [] [] [] (fun j : RrI=>5 - j.i) (rrSt b a) (fun j=>j.i ≤ 5 ∧ j.z < 128 ^ j.i ∧ r = rvO (rfL b a (5 - j.i) j.i j.z)) ⟨0,0⟩ kq ⟨by decide,by decide,hr0⟩ (fun j hj ih=>?_)
  obtain ⟨z,i⟩:=j
  obtain ⟨hi,hz,hrr⟩:=hj
  simp only at hi hz hrr
  refine V.runT [] [decide ((i : Int) < 5) = true → inK .i64 ((a : Int) + i)] kq kq (fun _=>by simp only [inK]; omega) ?_
  refine V.branch 28 (decide ((i : Int) < 5) && decide ((a : Int) + i < (b.length : Int))) kq (fun hc=>?_) (fun hc=>?_)
  ·have hc' : i < 5 ∧ a + i < b.length:=by simp only [Bool.and_eq_true,decide_eq_true_eq] at hc; omega
   obtain ⟨c,hcd⟩ : ∃ c,b.getD ((a : Int) + (i : Int)).toNat 0 = c:=⟨_,rfl⟩
   have hcn : b.getD (a + i) 0 = c:=by rw [← hcd,show ((a : Int) + (i : Int)).toNat = a + i by omega]
   have hcl:=c.toNat_lt
   obtain ⟨p,hp⟩ : ∃ p,128 ^ i = p:=⟨_,rfl⟩
   have h2 : (2 : Int) ^ min (7 * (i : Int)).toNat IntKind.u64.bits = (p : Int):=by
    rw [← hp]
    rcases (show i = 0 ∨ i = 1 ∨ i = 2 ∨ i = 3 ∨ i = 4 by omega) with rfl | rfl | rfl | rfl | rfl <;> rfl
   have hpl : p ≤ 268435456:=by
    rw [← hp]
    rcases (show i = 0 ∨ i = 1 ∨ i = 2 ∨ i = 3 ∨ i = 4 by omega) with rfl | rfl | rfl | rfl | rfl <;> decide
   have hzp : z < p:=by rw [← hp]; exact hz
   obtain ⟨q,hq⟩ : ∃ q,c.toNat % 128 * p = q:=⟨_,rfl⟩
   have hql : q ≤ 127 * p:=by rw [← hq]; exact Nat.mul_le_mul_right p (by omega)
   have hw : IntKind.u64.wrap (IntKind.u64.wrap ((c.toNat : Int).tmod 128) * 2 ^ min (7 * (i : Int)).toNat IntKind.u64.bits) = (q : Int):=by
    have e1 : IntKind.u64.wrap ((c.toNat : Int).tmod 128) = ((c.toNat % 128 : Nat) : Int):=by
     have : (c.toNat : Int).tmod 128 = ((c.toNat % 128 : Nat) : Int):=rfl
     rw [this]; simp [IntKind.wrap,IntKind.bits,IntKind.signed]; omega
    rw [e1,h2,← Int.natCast_mul,hq]
    simp [IntKind.wrap,IntKind.bits,IntKind.signed]
    omega
   refine V.runT [] [inK .i64 ((a : Int) + i),(0 : Int) ≤ (a : Int) + i ∧ (a : Int) + i < (b.length : Int),(128 : Int) ≠ 0,inK .i64 (7 * (i : Int)),(0 : Int) ≤ 7 * (i : Int),
        inK .u64 ((z : Int) + IntKind.u64.wrap (IntKind.u64.wrap (((b.getD ((a : Int) + (i : Int)).toNat 0).toNat : Int).tmod 128) * 2 ^ min (7 * (i : Int)).toNat IntKind.u64.bits))] kq kq
    ⟨by simp only [inK]; omega,⟨by omega,by omega⟩,by decide,by simp only [inK]; omega,by omega,(by
     show inK _ _
     rw [hcd,hw]
     simp only [inK]
     omega)⟩ ?_
   refine V.slotAs 7 (.one (.int .u64 ((z : Int) + IntKind.u64.wrap (IntKind.u64.wrap (((b.getD ((a : Int) + (i : Int)).toNat 0).toNat : Int).tmod 128) * 2 ^ min (7 * (i : Int)).toNat IntKind.u64.bits)))) (.one (.int .u64 ((z + q : Nat) : Int))) kq kq (fun _=>by
    rw [hcd,hw,Int.natCast_add]) ?_
   have hstep : 5 - i = (4 - i) + 1:=by omega
   have hr1 : r = rvO (if 128 ≤ c.toNat then rfL b a (4 - i) (i + 1) (z + q) else if numR (unzz (z + q)) = true ∧ groups 9 (zz (unzz (z + q))) = (b.drop a).take (i + 1) then some (unzz (z + q),a + i + 1) else none):=by
    rw [hrr,hstep,rfL,if_pos hc'.2,hcn,hp,hq]
   refine V.branch 45 (decide (((b.getD ((a : Int) + (i : Int)).toNat 0).toNat : Int) ≥ 128)) kq (fun hb'=>?_) (fun hb'=>?_)
   ·have h128 : 128 ≤ c.toNat:=by rw [hcd] at hb'; simp only [decide_eq_true_eq] at hb'; omega
    rw [if_pos h128] at hr1
    refine V.runT [] [inK .i64 ((i : Int) + 1)] kq kq (by simp only [allP,inK]; omega) ?_
    refine V.slotAs 8 (.one (.int .i64 ((i : Int) + 1))) (.one (.int .i64 ((i + 1 : Nat) : Int))) kq kq (fun _=>by rw [Int.natCast_add]; rfl) ?_
    refine V.iter ?_
    refine V.back [0,1,7,8] [] [] [] (ih ⟨z + q,i + 1⟩ ⟨by simp only; omega,?_,?_⟩ (by simp only; omega)) kq kq
    ·simp only [Nat.pow_succ,hp]; omega
    ·simp only [show 5 - (i + 1) = 4 - i by omega]; exact hr1
   ·have h128 : ¬ 128 ≤ c.toNat:=by rw [hcd] at hb'; simp only [decide_eq_false_iff_not] at hb'; omega
    rw [if_neg h128] at hr1
    have hZl : z + q < 34359738368:=by omega
    generalize z + q = Z at hr1 hZl
    have hd : (Z : Int).tdiv 2 = ((Z / 2 : Nat) : Int):=rfl
    have hm : (Z : Int).tmod 2 = ((Z % 2 : Nat) : Int):=rfl
    refine V.runT [] [(2 : Int) ≠ 0,inK .u64 ((Z : Int).tdiv 2),(2 : Int) ≠ 0] kq kq ⟨by decide,by rw [hd]; simp only [inK]; omega,(by decide : (2 : Int) ≠ 0)⟩ ?_
    have hL:=unzz_lim hZl
    have hSL : List.drop ((a : Int)).toNat (List.take ((a : Int) + i + 1).toNat b) = (b.drop a).take (i + 1):=by
     rw [show ((a : Int)).toNat = a by omega,show ((a : Int) + i + 1).toNat = a + i + 1 by omega,List.drop_take,show a + i + 1 - a = i + 1 by omega]
    have h10 : IntKind.i64.wrap ((Z : Int).tdiv 2) = ((Z / 2 : Nat) : Int):=by
     rw [hd]; simp [IntKind.wrap,IntKind.bits,IntKind.signed]; omega
    refine V.slotAs 10 (.one (.int .i64 (IntKind.i64.wrap ((Z : Int).tdiv 2)))) (.one (.int .i64 ((Z / 2 : Nat) : Int))) kq kq (fun _=>by rw [h10]) ?_
    refine V.branch 51 ((Z : Int).tmod 2 == 1) kq (fun ho=>?_) (fun ho=>?_)
    ·have ho' : Z % 2 = 1:=by rw [hm] at ho; simp only [beq_iff_eq] at ho; omega
     refine V.runT [] [inK .i64 (0 - ((Z / 2 : Nat) : Int)),inK .i64 (0 - ((Z / 2 : Nat) : Int) - 1)] kq kq ⟨by simp only [inK]; omega,(by show inK _ _; simp only [inK]; omega)⟩ ?_
     refine V.slotAs 10 (.one (.int .i64 (0 - ((Z / 2 : Nat) : Int) - 1))) (.one (.int .i64 (unzz Z))) kq kq (fun _=>by rw [show unzz Z = 0 - ((Z / 2 : Nat) : Int) - 1 by unfold unzz; rw [if_neg (by omega)]; omega]) ?_
     refine V.runT [⟨aNumR,[]⟩,⟨sEncR (unzz Z) hL.1 hL.2,[]⟩] [(!(numR (unzz Z))) = false → inK .i64 ((a : Int) + i),(!(numR (unzz Z))) = false → inK .i64 ((a : Int) + i + 1),
            (!(numR (unzz Z))) = false → (0 : Int) ≤ (a : Int) ∧ (a : Int) ≤ (a : Int) + i + 1 ∧ (a : Int) + i + 1 ≤ (b.length : Int),(!(numR (unzz Z))) = false → ([.one (.int .i64 (unzz Z))] : List CV) = [.one (.int .i64 (unzz Z))]] kq kq
      ⟨fun _=>by simp only [inK]; omega,fun _=>by simp only [inK]; omega,fun _=>⟨by omega,by omega,by omega⟩,fun _=>rfl⟩ ?_
     refine V.branch 69 (!(numR (unzz Z)) || !(groups 9 (zz (unzz Z)) == List.drop ((a : Int)).toNat (List.take ((a : Int) + i + 1).toNat b))) kq (fun hw=>?_) (fun hw=>?_)
     ·refine V.q ?_
      have hrn : r = rvO none:=hr1.trans (by
       rw [if_neg]
       rintro ⟨k1,k2⟩
       rw [k1,hSL,← k2] at hw
       simp at hw)
      subst hrn
      exact V.z
     ·refine V.runT [] [inK .i64 ((a : Int) + i),inK .i64 ((a : Int) + i + 1)] kq kq ⟨by simp only [inK]; omega,(by show inK _ _; simp only [inK]; omega)⟩ ?_
      have hrn : r = rvO (some (unzz Z,a + i + 1)):=hr1.trans (by
       rw [hSL] at hw
       simp only [Bool.or_eq_false_iff,Bool.not_eq_false',beq_iff_eq] at hw
       rw [if_pos hw])
      subst hrn
      refine V.slotAs 5 (.one (.int .i64 ((a : Int) + i + 1))) (.one (.int .i64 ((a + i + 1 : Nat) : Int))) kq kq (fun _=>by rw [show ((a + i + 1 : Nat) : Int) = (a : Int) + i + 1 by omega]) ?_
      exact V.z
    ·have ho' : Z % 2 = 0:=by rw [hm] at ho; simp only [beq_eq_false_iff_ne,ne_eq] at ho; omega
     refine V.q ?_
     refine V.slotAs 10 (.one (.int .i64 ((Z / 2 : Nat) : Int))) (.one (.int .i64 (unzz Z))) kq kq (fun _=>by rw [show unzz Z = ((Z / 2 : Nat) : Int) by unfold unzz; rw [if_pos ho']]) ?_
     refine V.runT [⟨aNumR,[]⟩,⟨sEncR (unzz Z) hL.1 hL.2,[]⟩] [(!(numR (unzz Z))) = false → inK .i64 ((a : Int) + i),(!(numR (unzz Z))) = false → inK .i64 ((a : Int) + i + 1),
            (!(numR (unzz Z))) = false → (0 : Int) ≤ (a : Int) ∧ (a : Int) ≤ (a : Int) + i + 1 ∧ (a : Int) + i + 1 ≤ (b.length : Int),(!(numR (unzz Z))) = false → ([.one (.int .i64 (unzz Z))] : List CV) = [.one (.int .i64 (unzz Z))]] kq kq
      ⟨fun _=>by simp only [inK]; omega,fun _=>by simp only [inK]; omega,fun _=>⟨by omega,by omega,by omega⟩,fun _=>rfl⟩ ?_
     refine V.branch 69 (!(numR (unzz Z)) || !(groups 9 (zz (unzz Z)) == List.drop ((a : Int)).toNat (List.take ((a : Int) + i + 1).toNat b))) kq (fun hw=>?_) (fun hw=>?_)
     ·refine V.q ?_
      have hrn : r = rvO none:=hr1.trans (by
       rw [if_neg]
       rintro ⟨k1,k2⟩
       rw [k1,hSL,← k2] at hw
       simp at hw)
      subst hrn
      exact V.z
     ·refine V.runT [] [inK .i64 ((a : Int) + i),inK .i64 ((a : Int) + i + 1)] kq kq ⟨by simp only [inK]; omega,(by show inK _ _; simp only [inK]; omega)⟩ ?_
      have hrn : r = rvO (some (unzz Z,a + i + 1)):=hr1.trans (by
       rw [hSL] at hw
       simp only [Bool.or_eq_false_iff,Bool.not_eq_false',beq_iff_eq] at hw
       rw [if_pos hw])
      subst hrn
      refine V.slotAs 5 (.one (.int .i64 ((a : Int) + i + 1))) (.one (.int .i64 ((a + i + 1 : Nat) : Int))) kq kq (fun _=>by rw [show ((a + i + 1 : Nat) : Int) = (a : Int) + i + 1 by omega]) ?_
      exact V.z
  ·refine V.q ?_
   have hrn : r = rvO none:=hrr.trans (by
    by_cases h5 : i = 5
    ·subst h5; rfl
    ·rw [show 5 - i = (4 - i) + 1 by omega]
     unfold rfL
     rw [if_neg (by simp only [Bool.and_eq_false_iff,decide_eq_false_iff_not] at hc; omega)])
   subst hrn
   exact V.z
def tnF (ps : List Pers) (X : RIn) (r : RSt) : St :=
 { n:=0,slots:=[],gs:=[],heap:=[(0,⟨[.str X.s,.val (.slice X.q X.n X.c),.int .i64 (r.at_ : Int),.sb r.bad],133,true⟩)],next:=1,rows:=[],nr:=0,pers:=ps,wr:=false }
theorem cTRaw (X : RIn) (n : Int) (r : RSt) (h : okIn X r) : CallsK Tryz.prog 73 [.one (.ptr 0 0),.one (.int .i64 n)] (tnF [] X r) (fun r' : RSt=>r' = (tkRaw X n r).2) (fun _=>.v (.one (.str (tkRaw X n r).1))) (tnF [] X):=by
 obtain ⟨ho,ha⟩:=h
 have hc : (r.bad || decide (n < 0) || decide (n > 1048576) || decide (IntKind.i64.wrap ((r.at_ : Int) + n) > (X.s.length : Int))) = decide (r.bad = true ∨ n < 0 ∨ 1048576 < n ∨ (X.s.length : Int) < (r.at_ : Int) + n):=by
  cases r.bad with
  | true=>simp
  | false =>
   by_cases h1 : n < 0
   ·simp [h1]
   ·by_cases h2 : 1048576 < n
    ·simp [h2]
    ·have e : IntKind.i64.wrap ((r.at_ : Int) + n) = (r.at_ : Int) + n:=by simp [IntKind.wrap,IntKind.bits,IntKind.signed]; omega
     rw [e]
     simp [h1,h2]
 refine CallsK.mk true Tryz.func73 kq kq (fun ρ w=>?_)
 refine V.q ?_
 refine V.branch 30 (r.bad || decide (n < 0) || decide (n > 1048576) || decide (IntKind.i64.wrap ((r.at_ : Int) + n) > (X.s.length : Int))) kq (fun hh=>?_) (fun hh=>?_)
 ·have hp : r.bad = true ∨ n < 0 ∨ 1048576 < n ∨ (X.s.length : Int) < (r.at_ : Int) + n:=of_decide_eq_true (hc ▸ hh)
  have e : tkRaw X n r = ([],⟨r.at_,true⟩):=by unfold tkRaw; rw [if_pos hp]
  rw [e]
  refine V.q ?_
  refine V.cellAs 0 3 ⟨[.str X.s,.val (.slice X.q X.n X.c),.int .i64 (r.at_ : Int),.bool true],133,true⟩ (.bool true) (.sb true) kq rfl kq (fun _=>rfl) ?_
  exact V.retK (⟨r.at_,true⟩ : RSt) [] kq kq kq rfl
 ·have hp : ¬ (r.bad = true ∨ n < 0 ∨ 1048576 < n ∨ (X.s.length : Int) < (r.at_ : Int) + n):=of_decide_eq_false (hc ▸ hh)
  obtain ⟨k,rfl⟩ : ∃ k : Nat,n = (k : Int):=⟨n.toNat,by omega⟩
  have hb : r.bad = false:=by cases h : r.bad with | false=>rfl | true=>exact absurd (.inl h) hp
  have e : tkRaw X (k : Int) r = ((X.s.take (r.at_ + k)).drop r.at_,⟨r.at_ + k,r.bad⟩):=by unfold tkRaw; rw [if_neg hp,hb,Int.toNat_natCast]
  rw [e]
  have w1 : IntKind.i64.wrap ((r.at_ : Int) + k) = ((r.at_ + k : Nat) : Int):=by simp [IntKind.wrap,IntKind.bits,IntKind.signed]; omega
  have w2 : IntKind.i64.wrap (((r.at_ + k : Nat) : Int) - k) = (r.at_ : Int):=by simp [IntKind.wrap,IntKind.bits,IntKind.signed]; omega
  refine V.runT [] [(0 : Int) ≤ IntKind.i64.wrap (IntKind.i64.wrap ((r.at_ : Int) + k) - k) ∧ IntKind.i64.wrap (IntKind.i64.wrap ((r.at_ : Int) + k) - k) ≤ IntKind.i64.wrap ((r.at_ : Int) + k) ∧ IntKind.i64.wrap ((r.at_ : Int) + k) ≤ (X.s.length : Int)] kq kq (by show _ ∧ _ ∧ _; rw [w1,w2]; omega) ?_
  refine V.slotAs 4 (.one (.str (List.drop (IntKind.i64.wrap (IntKind.i64.wrap ((r.at_ : Int) + k) - k)).toNat (List.take (IntKind.i64.wrap ((r.at_ : Int) + k)).toNat X.s)))) (.one (.str ((X.s.take (r.at_ + k)).drop r.at_))) kq kq (fun _=>by rw [w1,w2,Int.toNat_natCast,Int.toNat_natCast]) ?_
  refine V.cellAs 0 2 ⟨[.str X.s,.val (.slice X.q X.n X.c),.int .i64 (IntKind.i64.wrap ((r.at_ : Int) + k)),.sb r.bad],133,true⟩ (.int .i64 (IntKind.i64.wrap ((r.at_ : Int) + k))) (.int .i64 ((r.at_ + k : Nat) : Int)) kq rfl kq (fun _=>by rw [w1]) ?_
  exact V.retK (⟨r.at_ + k,r.bad⟩ : RSt) [] kq kq kq rfl
noncomputable def sRNum (X : RIn) (r : RSt) (h : okIn X r) (v : RV) (hv : v = rnF X.s (r.at_ : Int)) (hp : plainR v = true) : Con Tryz.prog :=
 Con.inst 19 [] [.one (.str X.s),.one (.int .i64 (r.at_ : Int))] v (CallsK.gives (xReadNumberR X.s (r.at_ : Int) h.1 v hv) ⟨rfl,rfl,rfl⟩ (fun ρ ρ'=>plainR_den hp ρ ρ'))
theorem cTNum (X : RIn) (r : RSt) (h : okIn X r) : CallsK Tryz.prog 139 [.one (.ptr 0 0)] (tnF [] X r) (fun r' : RSt=>r' = (tkNum X r).2) (fun _=>.v (.one (.int .i64 (tkNum X r).1))) (tnF [] X):=by
 refine CallsK.mk true Tryz.func139 kq kq (fun ρ w=>?_)
 refine V.q ?_
 refine V.branch 9 r.bad kq (fun hh=>?_) (fun hh=>?_)
 ·have e : tkNum X r = (0,r):=tkNum_bad hh
  rw [e]
  refine V.q ?_
  exact V.retK r [] kq kq kq rfl
 ·have hB : rnB X.s (r.at_ : Int) = false:=by unfold rnB; have:=h.2; simp; omega
  cases e : rfL X.s r.at_ 5 0 0 with
  | none =>
   have hr : rnF X.s (r.at_ : Int) = .tup [.one (.int .i64 0),.one (.int .i64 0),.one (.int .i64 220)]:=by unfold rnF; rw [hB,Int.toNat_natCast,e]; rfl
   have e2 : tkNum X r = (0,⟨r.at_,true⟩):=by unfold tkNum; rw [if_neg (by rw [hh]; decide),e]
   rw [e2]
   refine V.runT [(⟨sRNum X r h _ hr.symm rfl,[]⟩ : Ent Tryz.prog)] [[CV.one (.str X.s),.one (.int .i64 (r.at_ : Int))] = [CV.one (.str X.s),.one (.int .i64 (r.at_ : Int))]] kq kq rfl ?_
   refine V.known 24 ((220 : Int) != 0) true kq (by decide) ?_
   refine V.q ?_
   refine V.cellAs 0 3 ⟨[.str X.s,.val (.slice X.q X.n X.c),.int .i64 (r.at_ : Int),.bool true],133,true⟩ (.bool true) (.sb true) kq rfl kq (fun _=>rfl) ?_
   exact V.retK (⟨r.at_,true⟩ : RSt) [] kq kq kq rfl
  | some p =>
   have hr : rnF X.s (r.at_ : Int) = .tup [.one (.int .i64 p.1),.one (.int .i64 (p.2 : Int)),.one (.int .i64 0)]:=by unfold rnF; rw [hB,Int.toNat_natCast,e]; rfl
   have e2 : tkNum X r = (p.1,⟨p.2,false⟩):=by unfold tkNum; rw [if_neg (by rw [hh]; decide),e]
   rw [e2]
   refine V.runT [(⟨sRNum X r h _ hr.symm rfl,[]⟩ : Ent Tryz.prog)] [[CV.one (.str X.s),.one (.int .i64 (r.at_ : Int))] = [CV.one (.str X.s),.one (.int .i64 (r.at_ : Int))]] kq kq rfl ?_
   refine V.known 24 ((0 : Int) != 0) false kq (by decide) ?_
   refine V.q ?_
   refine V.cellAs 0 3 ⟨[.str X.s,.val (.slice X.q X.n X.c),.int .i64 (p.2 : Int),.sb r.bad],133,true⟩ (.sb r.bad) (.sb false) kq rfl kq (fun _=>by rw [hh]) ?_
   exact V.retK (⟨p.2,false⟩ : RSt) [] kq kq kq rfl
theorem tkFlag_ok {X : RIn} {r : RSt} (h : okIn X r) : okIn X (tkFlag X r).2:=tFlag X r h
theorem cTText (X : RIn) (r : RSt) (h : okIn X r) : CallsK Tryz.prog 143 [.one (.ptr 0 0)] (tnF [] X r) (fun r' : RSt=>r' = (tkText X r).2) (fun _=>.v (.one (.str (tkText X r).1))) (tnF [] X):=by
 have h1:=tkNum_ok h
 refine CallsK.mk true Tryz.func143 kq kq (fun ρ w=>?_)
 refine V.q ?_
 refine V.callK [] (cTNum X r h) kq kq kq (fun _=>kq) (fun r1 e1=>?_)
 subst e1
 refine V.q ?_
 refine V.branch 7 (decide ((tkNum X r).1 > 255)) kq (fun hh=>?_) (fun hh=>?_)
 ·have e : tkText X r = tkRaw X (tkNum X r).1 ⟨(tkNum X r).2.at_,true⟩:=by unfold tkText; rw [hh,Bool.or_true]
  rw [e]
  refine V.q ?_
  refine V.cellAs 0 3 ⟨[.str X.s,.val (.slice X.q X.n X.c),.int .i64 ((tkNum X r).2.at_ : Int),.bool true],133,true⟩ (.bool true) (.sb true) kq rfl kq (fun _=>rfl) ?_
  refine V.callK [] (cTRaw X (tkNum X r).1 ⟨(tkNum X r).2.at_,true⟩ h1) kq kq kq (fun _=>kq) (fun r2 e2=>?_)
  refine V.q ?_
  exact V.retK r2 [] kq kq kq e2
 ·have e : tkText X r = tkRaw X (tkNum X r).1 (tkNum X r).2:=by unfold tkText; rw [hh,Bool.or_false]
  rw [e]
  refine V.q ?_
  refine V.callK [] (cTRaw X (tkNum X r).1 (tkNum X r).2 h1) kq kq kq (fun _=>kq) (fun r2 e2=>?_)
  refine V.q ?_
  exact V.retK r2 [] kq kq kq e2
theorem cTFlag (X : RIn) (r : RSt) (h : okIn X r) : CallsK Tryz.prog 144 [.one (.ptr 0 0)] (tnF [] X r) (fun r' : RSt=>r' = (tkFlag X r).2) (fun _=>.v (.one (.sb (tkFlag X r).1))) (tnF [] X):=by
 refine CallsK.mk true Tryz.func144 kq kq (fun ρ w=>?_)
 refine V.q ?_
 refine V.callK [] (cTRaw X 1 r h) kq kq kq (fun _=>kq) (fun r1 e1=>?_)
 subst e1
 refine V.q ?_
 refine V.branch 11 (!((tkRaw X 1 r).1 == [0]) && !((tkRaw X 1 r).1 == [1])) kq (fun hh=>?_) (fun hh=>?_)
 ·have e : tkFlag X r = ((tkRaw X 1 r).1 == [1],⟨(tkRaw X 1 r).2.at_,true⟩):=by unfold tkFlag; rw [hh,Bool.or_true]
  rw [e]
  refine V.q ?_
  refine V.cellAs 0 3 ⟨[.str X.s,.val (.slice X.q X.n X.c),.int .i64 ((tkRaw X 1 r).2.at_ : Int),.bool true],133,true⟩ (.bool true) (.sb true) kq rfl kq (fun _=>rfl) ?_
  exact V.retK (⟨(tkRaw X 1 r).2.at_,true⟩ : RSt) [] kq kq kq rfl
 ·have e : tkFlag X r = ((tkRaw X 1 r).1 == [1],(tkRaw X 1 r).2):=by unfold tkFlag; rw [hh,Bool.or_false]
  rw [e]
  refine V.q ?_
  exact V.retK (tkRaw X 1 r).2 [] kq kq kq rfl
theorem cTMany (X : RIn) (r : RSt) (h : okIn X r) : CallsK Tryz.prog 145 [.one (.ptr 0 0)] (tnF [] X r) (fun r' : RSt=>r' = (tkMany X r).2) (fun _=>.v (.one (.int .i64 (tkMany X r).1))) (tnF [] X):=by
 refine CallsK.mk true Tryz.func145 kq kq (fun ρ w=>?_)
 refine V.q ?_
 refine V.callK [] (cTNum X r h) kq kq kq (fun _=>kq) (fun r1 e1=>?_)
 subst e1
 refine V.q ?_
 refine V.branch 11 (decide ((tkNum X r).1 < 0) || decide ((tkNum X r).1 > 16)) kq (fun hh=>?_) (fun hh=>?_)
 ·have e : tkMany X r = (0,⟨(tkNum X r).2.at_,true⟩):=by unfold tkMany; rw [if_pos (by simpa using hh)]
  rw [e]
  refine V.q ?_
  refine V.cellAs 0 3 ⟨[.str X.s,.val (.slice X.q X.n X.c),.int .i64 ((tkNum X r).2.at_ : Int),.bool true],133,true⟩ (.bool true) (.sb true) kq rfl kq (fun _=>rfl) ?_
  exact V.retK (⟨(tkNum X r).2.at_,true⟩ : RSt) [] kq kq kq rfl
 ·have e : tkMany X r = tkNum X r:=by unfold tkMany; rw [if_neg (by simp at hh; omega)]
  rw [e]
  refine V.q ?_
  exact V.retK (tkNum X r).2 [] kq kq kq rfl
theorem cTTy (X : RIn) (r : RSt) (h : okIn X r) : CallsK Tryz.prog 142 [.one (.ptr 0 0)] (tnF [] X r) (fun r' : RSt=>r' = (tkTy X r).2) (fun _=>.v (.agg (tkTy X r).1.cells)) (tnF [] X):=by
 have h1:=tkNum_ok h
 have h2:=tkNum_ok h1
 have h3:=tkNum_ok h2
 have h4:=tkFlag_ok h3
 refine CallsK.mk true Tryz.func142 kq kq (fun ρ w=>?_)
 refine V.q ?_
 refine V.callK [] (cTNum X r h) kq kq kq (fun _=>kq) (fun r1 e1=>?_)
 subst e1
 refine V.q ?_
 refine V.callK [] (cTNum X _ h1) kq kq kq (fun _=>kq) (fun r1 e1=>?_)
 subst e1
 refine V.q ?_
 refine V.callK [] (cTNum X _ h2) kq kq kq (fun _=>kq) (fun r1 e1=>?_)
 subst e1
 refine V.q ?_
 refine V.callK [] (cTFlag X _ h3) kq kq kq (fun _=>kq) (fun r1 e1=>?_)
 subst e1
 refine V.q ?_
 refine V.callK [] (cTText X _ h4) kq kq kq (fun _=>kq) (fun r1 e1=>?_)
 refine V.q ?_
 exact V.retK r1 [] kq kq kq e1
theorem be_snoc (l : List UInt8) (c : UInt8) : be (l ++ [c]) = 256 * be l + c.toNat:=by unfold be; rw [List.foldl_append]; rfl
theorem be_next {s : List UInt8} {i : Nat} (h : i < s.length) : be (s.take (i + 1)) = 256 * be (s.take i) + (s.getD i 0).toNat:=by
 rw [List.take_add_one,List.getElem?_eq_getElem h,Option.toList_some,be_snoc,List.getD,List.getElem?_eq_getElem h]
 rfl
theorem be_lt : ∀ (i : Nat) (s : List UInt8),i ≤ s.length → be (s.take i) < 256 ^ i
 | 0,s,_=>by simp [be]
 | i + 1,s,h=>by
  rw [be_next (by omega),Nat.pow_succ]
  have:=be_lt i s (by omega)
  have:=(s.getD i 0).toNat_lt
  omega
structure FoI where
 n : Nat
 i : Nat
def foSt (X : RIn) (r : RSt) (s : List UInt8) (j : FoI) : St :=
 { n:=22,slots:=[(0,.v (.one (.ptr 0 0))),(3,.v (.one (.str s))),(4,.v (.one (.int .i64 (j.n : Int)))),(5,.v (.one (.int .i64 (j.i : Int))))],gs:=[],heap:=(tnF [] X r).heap,next:=1,rows:=[],nr:=0,pers:=[],wr:=true,fx:=1 }
theorem raw4 (X : RIn) (r : RSt) (h : okIn X r) : (tkRaw X 4 r).1.length ≤ 4:=by
 unfold tkRaw
 split
 ·simp
 ·simp only [List.length_drop,List.length_take]
  omega
theorem cTFour (X : RIn) (r : RSt) (h : okIn X r) : CallsK Tryz.prog 140 [.one (.ptr 0 0)] (tnF [] X r) (fun r' : RSt=>r' = (tkFour X r).2) (fun _=>.v (.one (.int .i64 (tkFour X r).1))) (tnF [] X):=by
 have h4:=raw4 X r h
 refine CallsK.mk true Tryz.func140 kq kq (fun ρ w=>?_)
 refine V.q ?_
 refine V.callK [] (cTRaw X 4 r h) kq kq kq (fun _=>kq) (fun r1 e1=>?_)
 unfold tkFour
 generalize tkRaw X 4 r = v at h4 e1 ⊢
 obtain ⟨s,r2⟩:=v
 simp only at h4 e1 ⊢
 subst e1
 refine V.q ?_
 refine V.iter ?_
 refine V.loopTo [0,3,4,5] [0] [] [] (fun j : FoI=>s.length - j.i) (foSt X r1 s) (fun j=>j.i ≤ s.length ∧ j.n = be (s.take j.i)) ⟨0,0⟩ kq ⟨Nat.zero_le _,rfl⟩ (fun j hj ih=>?_)
 obtain ⟨n,i⟩:=j
 obtain ⟨hi,hn⟩:=hj
 simp only at hi hn
 refine V.q ?_
 refine V.branch 11 (decide ((i : Int) < (s.length : Int))) kq (fun hb=>?_) (fun hb=>?_)
 ·have hlt : i < s.length:=by simpa using hb
  have hl:=be_lt i s hi
  have hn2 : n < 16777216:=by
   rw [hn]
   have : 256 ^ i ≤ 256 ^ 3:=Nat.pow_le_pow_right (by decide) (by omega)
   omega
  have hc:=(s.getD i 0).toNat_lt
  refine V.runT [] [(0 : Int) ≤ i ∧ (i : Int) < (s.length : Int)] kq kq ⟨by omega,by omega⟩ ?_
  refine V.slotAs 4 (.one (.int .i64 (IntKind.i64.wrap (IntKind.i64.wrap (256 * (n : Int)) + IntKind.i64.wrap ((s.getD (i : Int).toNat 0).toNat : Int))))) (.one (.int .i64 ((256 * n + (s.getD i 0).toNat : Nat) : Int))) kq kq (fun _=>by
   rw [Int.toNat_natCast]
   generalize s.getD i 0 = c at hc
   have : IntKind.i64.wrap (IntKind.i64.wrap (256 * (n : Int)) + IntKind.i64.wrap (c.toNat : Int)) = ((256 * n + c.toNat : Nat) : Int):=by simp [IntKind.wrap,IntKind.bits,IntKind.signed]; omega
   rw [this]) ?_
  refine V.slotAs 5 (.one (.int .i64 (IntKind.i64.wrap ((i : Int) + 1)))) (.one (.int .i64 ((i + 1 : Nat) : Int))) kq kq (fun _=>by rw [wrap_up (by omega)]) ?_
  refine V.iter ?_
  exact V.back [0,3,4,5] [0] [] [] (ih ⟨256 * n + (s.getD i 0).toNat,i + 1⟩ ⟨hlt,by rw [be_next hlt,hn]⟩ (by simp only; omega)) kq kq
 ·have hge : i = s.length:=by simp at hb; omega
  rw [hge,List.take_length] at hn
  subst hn
  refine V.q ?_
  exact V.retK r1 [] kq kq kq rfl
def prSt (rl : List (Int × Int)) (X : RIn) (r : RSt) (v : Int) (i : Nat) : St :=
 { n:=36,slots:=[(0,.v (.one (.ptr 0 0))),(1,.v (.one (.int .i64 v))),(4,.v (.one (.int .i64 0))),(5,.v (.one (.int .i64 (i : Int))))],gs:=[],heap:=(tnF [] X r).heap,next:=1,rows:=[],nr:=0,pers:=[rowP (relRow rl X.q X.c)],wr:=true,fx:=1 }
theorem cTProc (rl : List (Int × Int)) (X : RIn) (hX : X.n = rl.length) (hl : rl.length ≤ 1000000000) (v : Int) (r : RSt) : CallsK Tryz.prog 141 [.one (.ptr 0 0),.one (.int .i64 v)] (tnF [rowP (relRow rl X.q X.c)] X r) (fun r' : RSt=>r' = (rdRel rl v r).2) (fun _=>.v (.one (.int .i64 (rdRel rl v r).1))) (tnF [] X):=by
 obtain ⟨xs,xq,xn,xc⟩:=X
 simp only at hX
 subst hX
 refine CallsK.mk true Tryz.func141 kq kq (fun ρ w=>?_)
 refine V.q ?_
 refine V.iter ?_
 refine V.loopTo [0,1,4,5] [0] [] [true] (fun i : Nat=>rl.length - i) (prSt rl ⟨xs,xq,rl.length,xc⟩ r v) (fun i=>i ≤ rl.length ∧ relAt v (rl.drop i) = relAt v rl) 0 kq ⟨Nat.zero_le _,rfl⟩ (fun i hi ih=>?_)
 obtain ⟨hi,hr⟩:=hi
 refine V.q ?_
 refine V.branch 12 (decide ((i : Int) < (rl.length : Int))) kq (fun hb=>?_) (fun hb=>?_)
 ·have hlt : i < rl.length:=by simpa using hb
  have hd:=drop_getD rl i (0,0) hlt
  rw [hd] at hr
  refine V.q ?_
  refine V.asRow 18 0 (relRow rl xq xc) kq kq kq rfl ?_
  refine V.runT [] [(0 : Int) ≤ i ∧ (i : Int) < (rl.length : Int)] kq kq ⟨by omega,by omega⟩ ?_
  refine V.branch 24 ((rl.getD (i : Int).toNat (0,0)).1 == v) kq (fun hc=>?_) (fun hc=>?_)
  ·have e : rdRel rl v r = ((rl.getD i (0,0)).2,r):=by
    unfold rdRel
    rw [← hr]
    unfold relAt
    rw [List.find?_cons_of_pos (by rw [Int.toNat_natCast] at hc; exact hc)]
    rfl
   rw [e]
   refine V.q ?_
   refine V.asRow 28 0 (relRow rl xq xc) kq kq kq rfl ?_
   refine V.runT [] [(0 : Int) ≤ i ∧ (i : Int) < (rl.length : Int)] kq kq ⟨by omega,by omega⟩ ?_
   refine V.slotAs 4 (.one (.int .i64 (rl.getD (i : Int).toNat (0,0)).2)) (.one (.int .i64 (rl.getD i (0,0)).2)) kq kq (fun _=>by rw [Int.toNat_natCast]) ?_
   exact V.retK r [] kq kq kq rfl
  ·refine V.q ?_
   refine V.slotAs 5 (.one (.int .i64 (IntKind.i64.wrap ((i : Int) + 1)))) (.one (.int .i64 ((i + 1 : Nat) : Int))) kq kq (fun _=>by rw [wrap_up (by omega)]) ?_
   refine V.iter ?_
   exact V.back [0,1,4,5] [0] [] [true] (ih (i + 1) ⟨hlt,by
    rw [← hr]
    unfold relAt
    rw [List.find?_cons_of_neg (by rw [Int.toNat_natCast] at hc; rw [hc]; simp)]⟩ (by omega)) kq kq
 ·have hge : rl.drop i = []:=List.drop_eq_nil_of_le (by simp at hb; omega)
  rw [hge] at hr
  have e : rdRel rl v r = (0,⟨r.at_,true⟩):=by
   unfold rdRel
   rw [← hr]
   rfl
  rw [e]
  refine V.q ?_
  refine V.cellAs 0 3 ⟨[.str xs,.val (.slice xq rl.length xc),.int .i64 (r.at_ : Int),.bool true],133,true⟩ (.bool true) (.sb true) kq rfl kq (fun _=>rfl) ?_
  exact V.retK (⟨r.at_,true⟩ : RSt) [] kq kq kq rfl
def tfF (ps : List Pers) (X : RIn) (r : RSt) (x : In) (A : IA) : St :=
 { n:=0,slots:=[],gs:=[],heap:=[(0,⟨[.str X.s,.val (.slice X.q X.n X.c),.int .i64 (r.at_ : Int),.sb r.bad],133,true⟩)],next:=1,rows:=inRows x A,nr:=3,pers:=ps,wr:=false }
def TfK (f : Fl) (rl : List (Int × Int)) (X : RIn) (r : RSt) (x : In) (A : IA) : Prop :=
 CallsK Tryz.prog 74 [.one (.ptr 0 0),.agg (inO x A),.one (.int .u8 (f.ch.toNat : Int))] (tfF [rowP (relRow rl X.q X.c)] X r x A) (fun y : RSt × In × IA=>y.1 = (tkFl f rl X r x).1 ∧ y.2.1 = (tkFl f rl X r x).2) (fun y=>.v (.agg (inO y.2.1 y.2.2))) (fun y=>tfF [] X y.1 y.2.1 y.2.2)
theorem tkNum_num {X : RIn} {r : RSt} (h : okIn X r) : isNum (tkNum X r).1 = true:=by
 cases hb : r.bad with
 | true=>rw [tkNum_bad hb]; rfl
 | false =>
  rcases ((sm_num X) r h).2 hb with ⟨h1,_⟩ | ⟨_,h2⟩
  ·unfold tkNum at h1 ⊢
   rw [if_neg (by rw [hb]; simp)] at h1 ⊢
   split
   ·rename_i p e; rw [e] at h1; cases h1
   ·rfl
  ·rw [h2]; exact (rdNum_ok h).2
theorem rdRel_okIn {rl : List (Int × Int)} {v : Int} {X : RIn} {r : RSt} (h : okIn X r) : okIn X (rdRel rl v r).2:=rdRel_ok rl v h
theorem tf_D (rl : List (Int × Int)) (X : RIn) (hX : X.n = rl.length) (hl : rl.length ≤ 1000000000) (r : RSt) (x : In) (A : IA) (h : okIn X r) : TfK .D rl X r x A:=by
 refine CallsK.mk false Tryz.func74 kq kq (fun ρ w=>?_)
 refine V.runC [] 30 [] kq kq trivial ?_
 refine V.callK [] (cTNum X r h) kq kq kq (fun _=>kq) (fun r1 e1=>?_)
 subst e1
 have hn:=isNum_32 (tkNum_num h)
 refine V.runT [] [inK .i64 ((tkNum X r).1 - 1)] kq kq (by obtain ⟨h1,h2⟩:=hn; simp only [allP,inK]; omega) ?_
 exact V.retK (((tkNum X r).2,Sel.set .D x ((tkNum X r).1 - 1),A) : RSt × In × IA) [] kq kq kq ⟨rfl,rfl⟩
theorem tf_A (rl : List (Int × Int)) (X : RIn) (hX : X.n = rl.length) (hl : rl.length ≤ 1000000000) (r : RSt) (x : In) (A : IA) (h : okIn X r) : TfK .A rl X r x A:=by
 refine CallsK.mk false Tryz.func74 kq kq (fun ρ w=>?_)
 refine V.runC [] 30 [] kq kq trivial ?_
 refine V.callK [] (cTNum X r h) kq kq kq (fun _=>kq) (fun r1 e1=>?_)
 subst e1
 have hn:=isNum_32 (tkNum_num h)
 refine V.runT [] [inK .i64 ((tkNum X r).1 - 1)] kq kq (by obtain ⟨h1,h2⟩:=hn; simp only [allP,inK]; omega) ?_
 exact V.retK (((tkNum X r).2,Sel.set .A x ((tkNum X r).1 - 1),A) : RSt × In × IA) [] kq kq kq ⟨rfl,rfl⟩
theorem tf_B (rl : List (Int × Int)) (X : RIn) (hX : X.n = rl.length) (hl : rl.length ≤ 1000000000) (r : RSt) (x : In) (A : IA) (h : okIn X r) : TfK .B rl X r x A:=by
 refine CallsK.mk false Tryz.func74 kq kq (fun ρ w=>?_)
 refine V.runC [] 30 [] kq kq trivial ?_
 refine V.callK [] (cTNum X r h) kq kq kq (fun _=>kq) (fun r1 e1=>?_)
 subst e1
 have hn:=isNum_32 (tkNum_num h)
 refine V.runT [] [inK .i64 ((tkNum X r).1 - 1)] kq kq (by obtain ⟨h1,h2⟩:=hn; simp only [allP,inK]; omega) ?_
 exact V.retK (((tkNum X r).2,Sel.set .B x ((tkNum X r).1 - 1),A) : RSt × In × IA) [] kq kq kq ⟨rfl,rfl⟩
theorem tf_N (rl : List (Int × Int)) (X : RIn) (hX : X.n = rl.length) (hl : rl.length ≤ 1000000000) (r : RSt) (x : In) (A : IA) (h : okIn X r) : TfK .N rl X r x A:=by
 refine CallsK.mk false Tryz.func74 kq kq (fun ρ w=>?_)
 refine V.runC [] 30 [] kq kq trivial ?_
 refine V.callK [] (cTNum X r h) kq kq kq (fun _=>kq) (fun r1 e1=>?_)
 subst e1
 refine V.q ?_
 exact V.retK (((tkNum X r).2,Sel.set .N x (tkNum X r).1,A) : RSt × In × IA) [] kq kq kq ⟨rfl,rfl⟩
theorem tf_M (rl : List (Int × Int)) (X : RIn) (hX : X.n = rl.length) (hl : rl.length ≤ 1000000000) (r : RSt) (x : In) (A : IA) (h : okIn X r) : TfK .M rl X r x A:=by
 refine CallsK.mk false Tryz.func74 kq kq (fun ρ w=>?_)
 refine V.runC [] 30 [] kq kq trivial ?_
 refine V.callK [] (cTNum X r h) kq kq kq (fun _=>kq) (fun r1 e1=>?_)
 subst e1
 refine V.q ?_
 exact V.retK (((tkNum X r).2,Sel.set .M x (tkNum X r).1,A) : RSt × In × IA) [] kq kq kq ⟨rfl,rfl⟩
theorem tf_P (rl : List (Int × Int)) (X : RIn) (hX : X.n = rl.length) (hl : rl.length ≤ 1000000000) (r : RSt) (x : In) (A : IA) (h : okIn X r) : TfK .P rl X r x A:=by
 refine CallsK.mk false Tryz.func74 kq kq (fun ρ w=>?_)
 refine V.runC [] 30 [] kq kq trivial ?_
 refine V.callK [] (cTNum X r h) kq kq kq (fun _=>kq) (fun r1 e1=>?_)
 subst e1
 refine V.q ?_
 exact V.retK (((tkNum X r).2,Sel.set .P x (tkNum X r).1,A) : RSt × In × IA) [] kq kq kq ⟨rfl,rfl⟩
theorem tf_T (rl : List (Int × Int)) (X : RIn) (hX : X.n = rl.length) (hl : rl.length ≤ 1000000000) (r : RSt) (x : In) (A : IA) (h : okIn X r) : TfK .T rl X r x A:=by
 refine CallsK.mk false Tryz.func74 kq kq (fun ρ w=>?_)
 refine V.runC [] 30 [] kq kq trivial ?_
 refine V.callK [] (cTTy X r h) kq kq kq (fun _=>kq) (fun r1 e1=>?_)
 subst e1
 refine V.q ?_
 exact V.retK (((tkTy X r).2,TSel.set .T x (tkTy X r).1,A) : RSt × In × IA) [] kq kq kq ⟨rfl,rfl⟩
theorem tf_U (rl : List (Int × Int)) (X : RIn) (hX : X.n = rl.length) (hl : rl.length ≤ 1000000000) (r : RSt) (x : In) (A : IA) (h : okIn X r) : TfK .U rl X r x A:=by
 refine CallsK.mk false Tryz.func74 kq kq (fun ρ w=>?_)
 refine V.runC [] 30 [] kq kq trivial ?_
 refine V.callK [] (cTTy X r h) kq kq kq (fun _=>kq) (fun r1 e1=>?_)
 subst e1
 refine V.q ?_
 exact V.retK (((tkTy X r).2,TSel.set .U x (tkTy X r).1,A) : RSt × In × IA) [] kq kq kq ⟨rfl,rfl⟩
theorem tf_W (rl : List (Int × Int)) (X : RIn) (hX : X.n = rl.length) (hl : rl.length ≤ 1000000000) (r : RSt) (x : In) (A : IA) (h : okIn X r) : TfK .W rl X r x A:=by
 refine CallsK.mk false Tryz.func74 kq kq (fun ρ w=>?_)
 refine V.runC [] 30 [] kq kq trivial ?_
 refine V.callK [] (cTTy X r h) kq kq kq (fun _=>kq) (fun r1 e1=>?_)
 subst e1
 refine V.q ?_
 exact V.retK (((tkTy X r).2,TSel.set .W x (tkTy X r).1,A) : RSt × In × IA) [] kq kq kq ⟨rfl,rfl⟩
theorem tf_V (rl : List (Int × Int)) (X : RIn) (hX : X.n = rl.length) (hl : rl.length ≤ 1000000000) (r : RSt) (x : In) (A : IA) (h : okIn X r) : TfK .V rl X r x A:=by
 refine CallsK.mk false Tryz.func74 kq kq (fun ρ w=>?_)
 refine V.runC [] 30 [] kq kq trivial ?_
 refine V.callK [] (cTNum X r h) kq kq kq (fun _=>kq) (fun r1 e1=>?_)
 subst e1
 refine V.q ?_
 refine V.callK [] (cTText X (tkNum X r).2 (tkNum_ok h)) kq kq kq (fun _=>kq) (fun r2 e2=>?_)
 subst e2
 refine V.q ?_
 exact V.retK (((tkText X (tkNum X r).2).2,{ x with vn:=(tkNum X r).1,vs:=(tkText X (tkNum X r).2).1 },A) : RSt × In × IA) [] kq kq kq ⟨rfl,rfl⟩
theorem tf_Sz (rl : List (Int × Int)) (X : RIn) (hX : X.n = rl.length) (hl : rl.length ≤ 1000000000) (r : RSt) (x : In) (A : IA) (h : okIn X r) : TfK .Sz rl X r x A:=by
 refine CallsK.mk false Tryz.func74 kq kq (fun ρ w=>?_)
 refine V.runC [] 30 [] kq kq trivial ?_
 refine V.callK [] (cTFlag X r h) kq kq kq (fun _=>kq) (fun r1 e1=>?_)
 subst e1
 refine V.q ?_
 exact V.retK (((tkFlag X r).2,FSel.set .S x (tkFlag X r).1,A) : RSt × In × IA) [] kq kq kq ⟨rfl,rfl⟩
theorem tf_Rg (rl : List (Int × Int)) (X : RIn) (hX : X.n = rl.length) (hl : rl.length ≤ 1000000000) (r : RSt) (x : In) (A : IA) (h : okIn X r) : TfK .Rg rl X r x A:=by
 refine CallsK.mk false Tryz.func74 kq kq (fun ρ w=>?_)
 refine V.runC [] 30 [] kq kq trivial ?_
 refine V.callK [] (cTFlag X r h) kq kq kq (fun _=>kq) (fun r1 e1=>?_)
 subst e1
 refine V.q ?_
 exact V.retK (((tkFlag X r).2,FSel.set .R x (tkFlag X r).1,A) : RSt × In × IA) [] kq kq kq ⟨rfl,rfl⟩
theorem tf_aN (rl : List (Int × Int)) (X : RIn) (hX : X.n = rl.length) (hl : rl.length ≤ 1000000000) (r : RSt) (x : In) (A : IA) (h : okIn X r) : TfK .aN rl X r x A:=by
 refine CallsK.mk false Tryz.func74 kq kq (fun ρ w=>?_)
 refine V.runC [] 30 [] kq kq trivial ?_
 refine V.callK [] (cTFour X r h) kq kq kq (fun _=>kq) (fun r1 e1=>?_)
 subst e1
 refine V.q ?_
 exact V.retK (((tkFour X r).2,Sel.set .N x (tkFour X r).1,A) : RSt × In × IA) [] kq kq kq ⟨rfl,rfl⟩
theorem tf_aM (rl : List (Int × Int)) (X : RIn) (hX : X.n = rl.length) (hl : rl.length ≤ 1000000000) (r : RSt) (x : In) (A : IA) (h : okIn X r) : TfK .aM rl X r x A:=by
 refine CallsK.mk false Tryz.func74 kq kq (fun ρ w=>?_)
 refine V.runC [] 30 [] kq kq trivial ?_
 refine V.callK [] (cTFour X r h) kq kq kq (fun _=>kq) (fun r1 e1=>?_)
 subst e1
 refine V.q ?_
 exact V.retK (((tkFour X r).2,Sel.set .M x (tkFour X r).1,A) : RSt × In × IA) [] kq kq kq ⟨rfl,rfl⟩
theorem tf_pN (rl : List (Int × Int)) (X : RIn) (hX : X.n = rl.length) (hl : rl.length ≤ 1000000000) (r : RSt) (x : In) (A : IA) (h : okIn X r) : TfK .pN rl X r x A:=by
 refine CallsK.mk false Tryz.func74 kq kq (fun ρ w=>?_)
 refine V.runC [] 30 [] kq kq trivial ?_
 refine V.callK [(0,false)] (cTProc rl X hX hl (r.at_ : Int) r) kq kq kq (fun _=>kq) (fun r1 e1=>?_)
 subst e1
 refine V.q ?_
 refine V.callK [] (cTFour X (rdRel rl (r.at_ : Int) r).2 (rdRel_okIn h)) kq kq kq (fun _=>kq) (fun r2 e2=>?_)
 subst e2
 refine V.q ?_
 exact V.retK ((⟨(tkFour X (rdRel rl (r.at_ : Int) r).2).2.at_,(!((tkFour X (rdRel rl (r.at_ : Int) r).2).1 == 0)) || (tkFour X (rdRel rl (r.at_ : Int) r).2).2.bad⟩,Sel.set .N x (rdRel rl (r.at_ : Int) r).1,A) : RSt × In × IA) [] kq kq kq ⟨rfl,rfl⟩
theorem tf_far (rl : List (Int × Int)) (X : RIn) (hX : X.n = rl.length) (hl : rl.length ≤ 1000000000) (r : RSt) (x : In) (A : IA) (h : okIn X r) : TfK .far rl X r x A:=by
 refine CallsK.mk false Tryz.func74 kq kq (fun ρ w=>?_)
 refine V.runC [] 30 [] kq kq trivial ?_
 refine V.callK [(0,false)] (cTProc rl X hX hl (r.at_ : Int) r) kq kq kq (fun _=>kq) (fun r1 e1=>?_)
 subst e1
 refine V.q ?_
 refine V.callK [] (cTFour X (rdRel rl (r.at_ : Int) r).2 (rdRel_okIn h)) kq kq kq (fun _=>kq) (fun r2 e2=>?_)
 subst e2
 refine V.q ?_
 exact V.retK (((tkFour X (rdRel rl (r.at_ : Int) r).2).2,{ x with p:=(rdRel rl (r.at_ : Int) r).1,n:=(tkFour X (rdRel rl (r.at_ : Int) r).2).1 },A) : RSt × In × IA) [] kq kq kq ⟨rfl,rfl⟩
theorem tf_pM (rl : List (Int × Int)) (X : RIn) (hX : X.n = rl.length) (hl : rl.length ≤ 1000000000) (r : RSt) (x : In) (A : IA) (h : okIn X r) : TfK .pM rl X r x A:=by
 refine CallsK.mk false Tryz.func74 kq kq (fun ρ w=>?_)
 refine V.runC [] 30 [] kq kq trivial ?_
 refine V.callK [] (cTFour X r h) kq kq kq (fun _=>kq) (fun r1 e1=>?_)
 subst e1
 refine V.q ?_
 refine V.branch 102 ((tkFour X r).1 == 4294967295) kq (fun hh=>?_) (fun hh=>?_)
 ·have e : tkFl .pM rl X r x = ((tkFour X r).2,Sel.set .M x (-1)):=by show (if _ then _ else _) = _; rw [if_pos hh]
  refine V.q ?_
  exact V.retK (((tkFour X r).2,Sel.set .M x (-1),A) : RSt × In × IA) [] kq kq kq (by rw [e]; exact ⟨rfl,rfl⟩)
 ·have e : tkFl .pM rl X r x = (⟨(rdRel rl (r.at_ : Int) (tkFour X r).2).2.at_,(!((tkFour X r).1 == 0)) || (rdRel rl (r.at_ : Int) (tkFour X r).2).2.bad⟩,Sel.set .M x (rdRel rl (r.at_ : Int) (tkFour X r).2).1):=by show (if _ then _ else _) = _; rw [if_neg (by rw [hh]; decide)]
  refine V.q ?_
  refine V.callK [(0,false)] (cTProc rl X hX hl (r.at_ : Int) (tkFour X r).2) kq kq kq (fun _=>kq) (fun r2 e2=>?_)
  subst e2
  refine V.q ?_
  exact V.retK ((⟨(rdRel rl (r.at_ : Int) (tkFour X r).2).2.at_,(!((tkFour X r).1 == 0)) || (rdRel rl (r.at_ : Int) (tkFour X r).2).2.bad⟩,Sel.set .M x (rdRel rl (r.at_ : Int) (tkFour X r).2).1,A) : RSt × In × IA) [] kq kq kq (by rw [e]; exact ⟨rfl,rfl⟩)
def tlI (X : RIn) (x : In) (A : IA) (n : Int) (j : GL Int) : St :=
 { n:=216,slots:=[(0,.v (.one (.ptr 0 0))),(4,.v (.one (.ptr 1 0))),(6,.v (.one (.ptr 2 0))),(9,.v (.one (.int .i64 n))),(10,.v (.one (.int .i64 j.i)))],gs:=[],
    heap:=[(0,⟨[.str X.s,.val (.slice X.q X.n X.c),.int .i64 (j.r.at_ : Int),.sb j.r.bad],133,true⟩),(1,⟨inO (xI x j) (aI A j),30,true⟩),(2,⟨inZ,30,true⟩)],next:=3,rows:=inRows (xI x j) (aI A j),nr:=3,pers:=[],wr:=false,fx:=1 }
set_option maxHeartbeats 400000 in
theorem tf_L (rl : List (Int × Int)) (X : RIn) (r : RSt) (x : In) (A : IA) (h : okIn X r) (hl : x.l.length ≤ 1000) : TfK .L rl X r x A:=by
 refine CallsK.mk false Tryz.func74 kq kq (fun ρ w=>?_)
 refine V.runC [] 30 [] kq kq trivial ?_
 refine V.callK [] (cTMany X r h) kq kq kq (fun _=>kq) (fun r1 e1=>?_)
 subst e1
 have h1:=tMany X r h
 have hn : 0 ≤ (tkMany X r).1 ∧ (tkMany X r).1 ≤ 16:=by
  unfold tkMany
  split
  ·exact ⟨Int.le_refl _,(by decide : (0 : Int) ≤ 16)⟩
  ·omega
 refine V.q ?_
 refine V.loopK [0,4,6,9,10] [] (fun j : GL Int=>(tkMany X r).1.toNat - j.i) (tlI X x A (tkMany X r).1)
  (fun j=>okIn X j.r ∧ j.i ≤ (tkMany X r).1.toNat ∧ j.l.length ≤ x.l.length + j.i ∧ j.l ++ (rdList (tkI X) ((tkMany X r).1.toNat - j.i) j.r).1 = (tkLst X (tkI X) x.l r).1 ∧ (rdList (tkI X) ((tkMany X r).1.toNat - j.i) j.r).2 = (tkLst X (tkI X) x.l r).2)
  ⟨(tkMany X r).2,x.l,A.ql,A.cl,0⟩ kq ⟨h1,Nat.zero_le _,Nat.le_refl _,rfl,rfl⟩ (fun j hj ih=>?_)
 obtain ⟨r2,l2,q2,c2,i⟩:=j
 obtain ⟨h2,hi,hll,e1,e2⟩:=hj
 simp only at h2 hi hll e1 e2
 refine V.iter ?_
 refine V.q ?_
 refine V.branch 160 (decide ((i : Int) < (tkMany X r).1)) kq (fun hc=>?_) (fun hc=>?_)
 ·have hlt : (i : Int) < (tkMany X r).1:=by simpa using hc
  obtain ⟨m,hm⟩ : ∃ m,(tkMany X r).1.toNat - i = m + 1:=⟨(tkMany X r).1.toNat - i - 1,by omega⟩
  have hm' : (tkMany X r).1.toNat - (i + 1) = m:=by omega
  rw [hm,rdList] at e1 e2
  have hnum:=isNum_32 (tkNum_num h2)
  refine V.q ?_
  refine V.drawX [0] [1] 8 kq ?_
  refine @VX.run _ [0] [1] 8 _ _ ([] : List (Ent Tryz.prog)) [] kq kq trivial ?_
  refine @VX.callK _ [0] [1] 8 _ _ _ _ _ _ _ _ _ [] (cTNum X r2 h2) kq kq kq (fun _=>kq) (fun r3 e3=>?_)
  subst e3
  refine @VX.run _ [0] [1] 8 _ _ ([] : List (Ent Tryz.prog)) [inK .i64 ((tkNum X r2).1 - 1)] kq kq (by obtain ⟨k1,k2⟩:=hnum; simp only [allP,inK]; omega) ?_
  refine @VX.push _ [0] [1] 8 _ _ _ intv 0 l2 (tkI X r2).1 1 q2 c2 3 1 [.int .i64 (tkI X r2).1] 8 kq kq kq (by omega) rfl (fun _ _=>kq) (fun q3 c3=>?_)
  refine @VX.run _ [0] [1] 8 _ _ ([] : List (Ent Tryz.prog)) [] kq kq trivial ?_
  refine @VX.stop _ [0] [1] 8 _ _ kq ?_
  refine V.runT [] [inK .i64 ((i : Int) + 1)] kq kq (by simp only [allP,inK]; omega) ?_
  refine V.againK [0,4,6,9,10] [] (ih ⟨(tkI X r2).2,l2 ++ [(tkI X r2).1],q3,c3,i + 1⟩ ⟨tkNum_ok h2,by simp only; omega,by simp only [List.length_append,List.length_cons,List.length_nil]; omega,?_,?_⟩ (by simp only; omega)) kq kq
  ·simp only
   rw [hm',← e1,List.append_assoc]; rfl
  ·simp only
   rw [hm']; exact e2
 ·have h0 : (tkMany X r).1.toNat - i = 0:=by simp at hc; omega
  rw [h0,rdList] at e1 e2
  simp only [List.append_nil] at e1
  simp only at e2
  refine V.q ?_
  exact V.retK ((r2,{ x with l:=l2 },{ A with ql:=q2,cl:=c2 }) : RSt × In × IA) [] kq kq kq ⟨e2,by rw [e1]; rfl⟩
def tlT (X : RIn) (x : In) (A : IA) (n : Int) (j : GL Ty) : St :=
 { n:=216,slots:=[(0,.v (.one (.ptr 0 0))),(4,.v (.one (.ptr 1 0))),(6,.v (.one (.ptr 2 0))),(11,.v (.one (.int .i64 n))),(12,.v (.one (.int .i64 j.i)))],gs:=[],
    heap:=[(0,⟨[.str X.s,.val (.slice X.q X.n X.c),.int .i64 (j.r.at_ : Int),.sb j.r.bad],133,true⟩),(1,⟨inO (xT x j) (aT A j),30,true⟩),(2,⟨inZ,30,true⟩)],next:=3,rows:=inRows (xT x j) (aT A j),nr:=3,pers:=[],wr:=false,fx:=1 }
set_option maxHeartbeats 400000 in
theorem tf_Y (rl : List (Int × Int)) (X : RIn) (r : RSt) (x : In) (A : IA) (h : okIn X r) (hl : x.y.length ≤ 1000) : TfK .Y rl X r x A:=by
 refine CallsK.mk false Tryz.func74 kq kq (fun ρ w=>?_)
 refine V.runC [] 30 [] kq kq trivial ?_
 refine V.callK [] (cTMany X r h) kq kq kq (fun _=>kq) (fun r1 e1=>?_)
 subst e1
 have h1:=tMany X r h
 have hn : 0 ≤ (tkMany X r).1 ∧ (tkMany X r).1 ≤ 16:=by
  unfold tkMany
  split
  ·exact ⟨Int.le_refl _,(by decide : (0 : Int) ≤ 16)⟩
  ·omega
 refine V.q ?_
 refine V.loopK [0,4,6,11,12] [] (fun j : GL Ty=>(tkMany X r).1.toNat - j.i) (tlT X x A (tkMany X r).1)
  (fun j=>okIn X j.r ∧ j.i ≤ (tkMany X r).1.toNat ∧ j.l.length ≤ x.y.length + j.i ∧ j.l ++ (rdList (tkTy X) ((tkMany X r).1.toNat - j.i) j.r).1 = (tkLst X (tkTy X) x.y r).1 ∧ (rdList (tkTy X) ((tkMany X r).1.toNat - j.i) j.r).2 = (tkLst X (tkTy X) x.y r).2)
  ⟨(tkMany X r).2,x.y,A.qy,A.cy,0⟩ kq ⟨h1,Nat.zero_le _,Nat.le_refl _,rfl,rfl⟩ (fun j hj ih=>?_)
 obtain ⟨r2,l2,q2,c2,i⟩:=j
 obtain ⟨h2,hi,hll,e1,e2⟩:=hj
 simp only at h2 hi hll e1 e2
 refine V.iter ?_
 refine V.q ?_
 refine V.branch 177 (decide ((i : Int) < (tkMany X r).1)) kq (fun hc=>?_) (fun hc=>?_)
 ·have hlt : (i : Int) < (tkMany X r).1:=by simpa using hc
  obtain ⟨m,hm⟩ : ∃ m,(tkMany X r).1.toNat - i = m + 1:=⟨(tkMany X r).1.toNat - i - 1,by omega⟩
  have hm' : (tkMany X r).1.toNat - (i + 1) = m:=by omega
  rw [hm,rdList] at e1 e2
  refine V.q ?_
  refine V.drawX [0] [2] 7 kq ?_
  refine @VX.run _ [0] [2] 7 _ _ ([] : List (Ent Tryz.prog)) [] kq kq trivial ?_
  refine @VX.callK _ [0] [2] 7 _ _ _ _ _ _ _ _ _ [] (cTTy X r2 h2) kq kq kq (fun _=>kq) (fun r3 e3=>?_)
  subst e3
  refine @VX.run _ [0] [2] 7 _ _ ([] : List (Ent Tryz.prog)) [] kq kq trivial ?_
  refine @VX.push _ [0] [2] 7 _ _ _ Ty.cells ty0 l2 (tkTy X r2).1 2 q2 c2 23 5 (tkTy X r2).1.cells 48 kq kq kq (by omega) rfl (fun _ _=>kq) (fun q3 c3=>?_)
  refine @VX.run _ [0] [2] 7 _ _ ([] : List (Ent Tryz.prog)) [] kq kq trivial ?_
  refine @VX.stop _ [0] [2] 7 _ _ kq ?_
  refine V.runT [] [inK .i64 ((i : Int) + 1)] kq kq (by simp only [allP,inK]; omega) ?_
  refine V.againK [0,4,6,11,12] [] (ih ⟨(tkTy X r2).2,l2 ++ [(tkTy X r2).1],q3,c3,i + 1⟩ ⟨tText X _ (tFlag X _ (tNum X _ (tNum X _ (tNum X _ h2)))),by simp only; omega,by simp only [List.length_append,List.length_cons,List.length_nil]; omega,?_,?_⟩ (by simp only; omega)) kq kq
  ·simp only
   rw [hm',← e1,List.append_assoc]; rfl
  ·simp only
   rw [hm']; exact e2
 ·have h0 : (tkMany X r).1.toNat - i = 0:=by simp at hc; omega
  rw [h0,rdList] at e1 e2
  simp only [List.append_nil] at e1
  simp only at e2
  refine V.q ?_
  exact V.retK ((r2,{ x with y:=l2 },{ A with qy:=q2,cy:=c2 }) : RSt × In × IA) [] kq kq kq ⟨e2,by rw [e1]; rfl⟩
def tlF (X : RIn) (x : In) (A : IA) (n : Int) (j : GL Fm) : St :=
 { n:=216,slots:=[(0,.v (.one (.ptr 0 0))),(4,.v (.one (.ptr 1 0))),(6,.v (.one (.ptr 2 0))),(13,.v (.one (.int .i64 n))),(14,.v (.one (.int .i64 j.i)))],gs:=[],
    heap:=[(0,⟨[.str X.s,.val (.slice X.q X.n X.c),.int .i64 (j.r.at_ : Int),.sb j.r.bad],133,true⟩),(1,⟨inO (xF x j) (aF A j),30,true⟩),(2,⟨inZ,30,true⟩)],next:=3,rows:=inRows (xF x j) (aF A j),nr:=3,pers:=[],wr:=false,fx:=1 }
set_option maxHeartbeats 400000 in
theorem tf_F (rl : List (Int × Int)) (X : RIn) (r : RSt) (x : In) (A : IA) (h : okIn X r) (hl : x.f.length ≤ 1000) : TfK .F rl X r x A:=by
 refine CallsK.mk false Tryz.func74 kq kq (fun ρ w=>?_)
 refine V.runC [] 30 [] kq kq trivial ?_
 refine V.callK [] (cTMany X r h) kq kq kq (fun _=>kq) (fun r1 e1=>?_)
 subst e1
 have h1:=tMany X r h
 have hn : 0 ≤ (tkMany X r).1 ∧ (tkMany X r).1 ≤ 16:=by
  unfold tkMany
  split
  ·exact ⟨Int.le_refl _,(by decide : (0 : Int) ≤ 16)⟩
  ·omega
 refine V.q ?_
 refine V.loopK [0,4,6,13,14] [] (fun j : GL Fm=>(tkMany X r).1.toNat - j.i) (tlF X x A (tkMany X r).1)
  (fun j=>okIn X j.r ∧ j.i ≤ (tkMany X r).1.toNat ∧ j.l.length ≤ x.f.length + j.i ∧ j.l ++ (rdList (tkFm X) ((tkMany X r).1.toNat - j.i) j.r).1 = (tkLst X (tkFm X) x.f r).1 ∧ (rdList (tkFm X) ((tkMany X r).1.toNat - j.i) j.r).2 = (tkLst X (tkFm X) x.f r).2)
  ⟨(tkMany X r).2,x.f,A.qf,A.cf,0⟩ kq ⟨h1,Nat.zero_le _,Nat.le_refl _,rfl,rfl⟩ (fun j hj ih=>?_)
 obtain ⟨r2,l2,q2,c2,i⟩:=j
 obtain ⟨h2,hi,hll,e1,e2⟩:=hj
 simp only at h2 hi hll e1 e2
 refine V.iter ?_
 refine V.q ?_
 refine V.branch 193 (decide ((i : Int) < (tkMany X r).1)) kq (fun hc=>?_) (fun hc=>?_)
 ·have hlt : (i : Int) < (tkMany X r).1:=by simpa using hc
  obtain ⟨m,hm⟩ : ∃ m,(tkMany X r).1.toNat - i = m + 1:=⟨(tkMany X r).1.toNat - i - 1,by omega⟩
  have hm' : (tkMany X r).1.toNat - (i + 1) = m:=by omega
  rw [hm,rdList] at e1 e2
  refine V.q ?_
  refine V.callK [] (cTNum X (r2) (h2)) kq kq kq (fun _=>kq) (fun r3 e3=>?_)
  subst e3
  refine V.q ?_
  refine V.callK [] (cTNum X ((tkNum X (r2)).2) (tkNum_ok (h2))) kq kq kq (fun _=>kq) (fun r3 e3=>?_)
  subst e3
  refine V.q ?_
  refine V.callK [] (cTNum X ((tkNum X ((tkNum X (r2)).2)).2) (tkNum_ok (tkNum_ok (h2)))) kq kq kq (fun _=>kq) (fun r3 e3=>?_)
  subst e3
  refine V.q ?_
  refine V.callK [] (cTText X ((tkNum X ((tkNum X ((tkNum X (r2)).2)).2)).2) (tkNum_ok (tkNum_ok (tkNum_ok (h2))))) kq kq kq (fun _=>kq) (fun r3 e3=>?_)
  subst e3
  refine V.q ?_
  refine V.push Fm.cells fm0 l2 (tkFm X r2).1 0 q2 c2 93 4 (tkFm X r2).1.cells 40 kq (by omega) rfl (fun _ _=>kq) (fun q3 c3=>?_)
  refine V.runT [] [inK .i64 ((i : Int) + 1)] kq kq (by simp only [allP,inK]; omega) ?_
  refine V.againK [0,4,6,13,14] [] (ih ⟨(tkFm X r2).2,l2 ++ [(tkFm X r2).1],q3,c3,i + 1⟩ ⟨tText X _ (tNum X _ (tNum X _ (tNum X _ h2))),by simp only; omega,by simp only [List.length_append,List.length_cons,List.length_nil]; omega,?_,?_⟩ (by simp only; omega)) kq kq
  ·simp only
   rw [hm',← e1,List.append_assoc]; rfl
  ·simp only
   rw [hm']; exact e2
 ·have h0 : (tkMany X r).1.toNat - i = 0:=by simp at hc; omega
  rw [h0,rdList] at e1 e2
  simp only [List.append_nil] at e1
  simp only at e2
  refine V.q ?_
  exact V.retK ((r2,{ x with f:=l2 },{ A with qf:=q2,cf:=c2 }) : RSt × In × IA) [] kq kq kq ⟨e2,by rw [e1]; rfl⟩
def blankB (op : Int) : List SV:=(inV (emptyI op) IA0).map fun y=>match y with
 | .sb b=>.bool b
 | y=>y
theorem cBlankR (op : Int) : CallsK Tryz.prog 66 [.one (.int .i64 op)] noF (fun _ : Unit=>True) (fun _=>.v (.agg (inV (emptyI op) IA0))) (fun _=>noF):=by
 refine CallsK.as (v:=fun _=>.v (.agg (blankB op))) ?_ _ (fun _ _ _=>rfl) (fun _ _=>?_)
 ·refine CallsK.mk true Tryz.func66 kq kq (fun ρ w=>?_)
  refine V.q ?_
  exact V.z
 ·intro y hy
  simp only [inV,inC,List.mem_cons,List.not_mem_nil,or_false] at hy
  rcases hy with rfl | rfl | rfl | rfl | rfl | rfl | rfl | rfl | rfl | rfl | rfl | rfl | rfl | rfl | rfl | rfl | rfl | rfl | rfl | rfl | rfl | rfl | rfl | rfl | rfl | rfl | rfl | rfl | rfl <;> trivial
def mvAL (A : IA) (l : List Fl) (B : IA) : IA:=l.foldl (fun B f=>f.mvA A B) B
theorem rfN_op {o : Nat} (ho : isOp o = true) : rfN (o : Int) = (opName o,opRef o):=by
 have h:=(isOp_iff o).1 ho
 unfold rfN
 rw [if_pos (by omega),Int.toNat_natCast]
 have:=all_ops (p:=fun o=>decide (rfT.getD o ([],[]) = (opName o,opRef o))) kq ho
 simpa using this
theorem cFieldsO (x : In) (o : Nat) (ho : isOp o = true) (hop : x.op = (o : Int)) : CallsK Tryz.prog 62 [.one (.int .i64 x.op)] noF (fun _ : Unit=>True) (fun _=>.tup [.one (.str (opName o)),.one (.str (opRef o))]) (fun _=>noF):=by
 have h:=cFieldsR x.op
 rw [hop,rfN_op ho] at h
 rw [hop]
 exact h
def blankZ : List SV:=(inV ⟨0,0,0,0,ty0,ty0,ty0,0,0,0,0,[],[],[],[],false,false⟩ IA0).map fun y=>match y with
 | .sb b=>.bool b
 | y=>y
structure CoI where
 y : In
 B : IA
 i : Nat
noncomputable def coSt (x : In) (A : IA) (o : Nat) (j : CoI) : St :=
 { n:=113,slots:=[(1,.v (.one (.ptr 0 0))),(2,.v (.one (.ptr 1 0))),(4,.v (.one (.str (opRef o)))),(5,.v (.one (.ptr 2 0))),(6,.v (.one (.int .i64 (j.i : Int))))],gs:=[],
    heap:=[(0,⟨inV x A,30,true⟩),(1,⟨blankZ,30,true⟩),(2,⟨inV j.y j.B,30,true⟩)],next:=3,rows:=[],nr:=0,pers:=[],wr:=true,fx:=0 }
def Fl.nc : Fl → Nat
 | .D=>1 | .A=>2 | .B=>3 | .N=>4 | .aN=>5 | .pN=>6 | .M=>7 | .aM=>8 | .pM=>9 | .P=>10 | .far=>11 | .T=>12 | .U=>13 | .W=>14 | .V=>15 | .L=>16 | .Y=>17 | .F=>18 | .Sz=>19 | .Rg=>20
set_option maxHeartbeats 2000000 in
theorem cCopied (x : In) (A : IA) (o : Nat) (ho : isOp o = true) (hop : x.op = (o : Int)) : CallsK Tryz.prog 118 [.agg (inV x A)] noF (fun _ : Unit=>True) (fun _=>.v (.agg (inV (mvL x (opFls o) (emptyI x.op)) (mvAL A (opFls o) IA0)))) (fun _=>noF):=by
 have hfl : (opFls o).length ≤ 7:=by
  have:=all_ops (p:=fun o=>decide ((opFls o).length ≤ 7)) kq ho
  simpa using this
 have hrl : (opRef o).length = (opFls o).length:=List.length_map _
 refine CallsK.mk true Tryz.func118 kq kq (fun ρ w=>?_)
 refine V.q ?_
 refine V.callK [] (cFieldsO x o ho hop) kq kq kq (fun _=>kq) (fun _ _=>?_)
 refine V.q ?_
 refine V.callK [] (cBlankR x.op) kq kq kq (fun _=>kq) (fun _ _=>?_)
 refine V.q ?_
 refine V.iter ?_
 refine V.loopTo [1,2,4,5,6] [0,1,2] [] [] (fun j : CoI=>(opFls o).length - j.i) (coSt x A o) (fun j=>j.i ≤ (opFls o).length ∧ j.y = mvL x ((opFls o).take j.i) (emptyI x.op) ∧ j.B = mvAL A ((opFls o).take j.i) IA0) ⟨emptyI x.op,IA0,0⟩ kq ⟨Nat.zero_le _,rfl,rfl⟩ (fun j hj ih=>?_)
 obtain ⟨y,B,i⟩:=j
 obtain ⟨hi,hy,hB⟩:=hj
 simp only at hi hy hB
 refine V.q ?_
 refine V.branch 19 (decide ((i : Int) < (opRef o).length)) kq (fun hb=>?_) (fun hb=>?_)
 ·have hlt : i < (opFls o).length:=by rw [← hrl]; simpa using hb
  obtain ⟨f,hf⟩ : ∃ f,(opFls o).getD i .D = f:=⟨_,rfl⟩
  have hch : (opRef o).getD i 0 = f.ch:=by
   rw [← hf,opRef,List.getD,List.getElem?_map,List.getElem?_eq_getElem hlt,List.getD,List.getElem?_eq_getElem hlt]
   rfl
  have hnext : mvL x ((opFls o).take (i + 1)) (emptyI x.op) = f.mv x y:=by
   rw [List.take_add_one,List.getElem?_eq_getElem hlt]
   rw [List.getD,List.getElem?_eq_getElem hlt] at hf
   simp only [Option.getD_some] at hf
   rw [hf,hy]
   simp [mvL,List.foldl_append]
  have hnextB : mvAL A ((opFls o).take (i + 1)) IA0 = f.mvA A B:=by
   rw [List.take_add_one,List.getElem?_eq_getElem hlt]
   rw [List.getD,List.getElem?_eq_getElem hlt] at hf
   simp only [Option.getD_some] at hf
   rw [hf,hB]
   simp [mvAL,List.foldl_append]
  have key:=ih ⟨f.mv x y,f.mvA A B,i + 1⟩ ⟨hlt,hnext.symm,hnextB.symm⟩ (by simp only; omega)
  refine V.runT [] [(0 : Int) ≤ i ∧ (i : Int) < (opRef o).length] kq kq ⟨by omega,by omega⟩ ?_
  refine V.slotAs 24 (.one (.int .u8 (((opRef o).getD i 0).toNat : Int))) (.one (.int .u8 (f.ch.toNat : Int))) kq kq (fun _=>by rw [hch]) ?_
  refine V.slotAs 25 (.one (.sb ((((opRef o).getD i 0).toNat : Int) == 68))) (.one (.sb ((f.ch.toNat : Int) == 68))) kq kq (fun _=>by rw [hch]) ?_
  clear hf hch hnext hnextB ih
  cases f
  case D =>
   refine V.runC [] (Fl.nc .D) [] kq kq trivial ?_
   refine V.q ?_
   refine V.slotAs 6 (.one (.int .i64 (IntKind.i64.wrap ((i : Int) + 1)))) (.one (.int .i64 ((i + 1 : Nat) : Int))) kq kq (fun _=>by rw [wrap_up (by omega)]) ?_
   refine V.iter ?_
   exact V.back [1,2,4,5,6] [0,1,2] [] [] key kq kq
  case A =>
   refine V.runC [] (Fl.nc .A) [] kq kq trivial ?_
   refine V.q ?_
   refine V.slotAs 6 (.one (.int .i64 (IntKind.i64.wrap ((i : Int) + 1)))) (.one (.int .i64 ((i + 1 : Nat) : Int))) kq kq (fun _=>by rw [wrap_up (by omega)]) ?_
   refine V.iter ?_
   exact V.back [1,2,4,5,6] [0,1,2] [] [] key kq kq
  case B =>
   refine V.runC [] (Fl.nc .B) [] kq kq trivial ?_
   refine V.q ?_
   refine V.slotAs 6 (.one (.int .i64 (IntKind.i64.wrap ((i : Int) + 1)))) (.one (.int .i64 ((i + 1 : Nat) : Int))) kq kq (fun _=>by rw [wrap_up (by omega)]) ?_
   refine V.iter ?_
   exact V.back [1,2,4,5,6] [0,1,2] [] [] key kq kq
  case N =>
   refine V.runC [] (Fl.nc .N) [] kq kq trivial ?_
   refine V.q ?_
   refine V.slotAs 6 (.one (.int .i64 (IntKind.i64.wrap ((i : Int) + 1)))) (.one (.int .i64 ((i + 1 : Nat) : Int))) kq kq (fun _=>by rw [wrap_up (by omega)]) ?_
   refine V.iter ?_
   exact V.back [1,2,4,5,6] [0,1,2] [] [] key kq kq
  case M =>
   refine V.runC [] (Fl.nc .M) [] kq kq trivial ?_
   refine V.q ?_
   refine V.slotAs 6 (.one (.int .i64 (IntKind.i64.wrap ((i : Int) + 1)))) (.one (.int .i64 ((i + 1 : Nat) : Int))) kq kq (fun _=>by rw [wrap_up (by omega)]) ?_
   refine V.iter ?_
   exact V.back [1,2,4,5,6] [0,1,2] [] [] key kq kq
  case P =>
   refine V.runC [] (Fl.nc .P) [] kq kq trivial ?_
   refine V.q ?_
   refine V.slotAs 6 (.one (.int .i64 (IntKind.i64.wrap ((i : Int) + 1)))) (.one (.int .i64 ((i + 1 : Nat) : Int))) kq kq (fun _=>by rw [wrap_up (by omega)]) ?_
   refine V.iter ?_
   exact V.back [1,2,4,5,6] [0,1,2] [] [] key kq kq
  case T =>
   refine V.runC [] (Fl.nc .T) [] kq kq trivial ?_
   refine V.q ?_
   refine V.slotAs 6 (.one (.int .i64 (IntKind.i64.wrap ((i : Int) + 1)))) (.one (.int .i64 ((i + 1 : Nat) : Int))) kq kq (fun _=>by rw [wrap_up (by omega)]) ?_
   refine V.iter ?_
   exact V.back [1,2,4,5,6] [0,1,2] [] [] key kq kq
  case U =>
   refine V.runC [] (Fl.nc .U) [] kq kq trivial ?_
   refine V.q ?_
   refine V.slotAs 6 (.one (.int .i64 (IntKind.i64.wrap ((i : Int) + 1)))) (.one (.int .i64 ((i + 1 : Nat) : Int))) kq kq (fun _=>by rw [wrap_up (by omega)]) ?_
   refine V.iter ?_
   exact V.back [1,2,4,5,6] [0,1,2] [] [] key kq kq
  case W =>
   refine V.runC [] (Fl.nc .W) [] kq kq trivial ?_
   refine V.q ?_
   refine V.slotAs 6 (.one (.int .i64 (IntKind.i64.wrap ((i : Int) + 1)))) (.one (.int .i64 ((i + 1 : Nat) : Int))) kq kq (fun _=>by rw [wrap_up (by omega)]) ?_
   refine V.iter ?_
   exact V.back [1,2,4,5,6] [0,1,2] [] [] key kq kq
  case V =>
   refine V.runC [] (Fl.nc .V) [] kq kq trivial ?_
   refine V.q ?_
   refine V.slotAs 6 (.one (.int .i64 (IntKind.i64.wrap ((i : Int) + 1)))) (.one (.int .i64 ((i + 1 : Nat) : Int))) kq kq (fun _=>by rw [wrap_up (by omega)]) ?_
   refine V.iter ?_
   exact V.back [1,2,4,5,6] [0,1,2] [] [] key kq kq
  case L =>
   refine V.runC [] (Fl.nc .L) [] kq kq trivial ?_
   refine V.q ?_
   refine V.slotAs 6 (.one (.int .i64 (IntKind.i64.wrap ((i : Int) + 1)))) (.one (.int .i64 ((i + 1 : Nat) : Int))) kq kq (fun _=>by rw [wrap_up (by omega)]) ?_
   refine V.iter ?_
   exact V.back [1,2,4,5,6] [0,1,2] [] [] key kq kq
  case Y =>
   refine V.runC [] (Fl.nc .Y) [] kq kq trivial ?_
   refine V.q ?_
   refine V.slotAs 6 (.one (.int .i64 (IntKind.i64.wrap ((i : Int) + 1)))) (.one (.int .i64 ((i + 1 : Nat) : Int))) kq kq (fun _=>by rw [wrap_up (by omega)]) ?_
   refine V.iter ?_
   exact V.back [1,2,4,5,6] [0,1,2] [] [] key kq kq
  case F =>
   refine V.runC [] (Fl.nc .F) [] kq kq trivial ?_
   refine V.q ?_
   refine V.slotAs 6 (.one (.int .i64 (IntKind.i64.wrap ((i : Int) + 1)))) (.one (.int .i64 ((i + 1 : Nat) : Int))) kq kq (fun _=>by rw [wrap_up (by omega)]) ?_
   refine V.iter ?_
   exact V.back [1,2,4,5,6] [0,1,2] [] [] key kq kq
  case Sz =>
   refine V.runC [] (Fl.nc .Sz) [] kq kq trivial ?_
   refine V.q ?_
   refine V.slotAs 6 (.one (.int .i64 (IntKind.i64.wrap ((i : Int) + 1)))) (.one (.int .i64 ((i + 1 : Nat) : Int))) kq kq (fun _=>by rw [wrap_up (by omega)]) ?_
   refine V.iter ?_
   exact V.back [1,2,4,5,6] [0,1,2] [] [] key kq kq
  case Rg =>
   refine V.runC [] (Fl.nc .Rg) [] kq kq trivial ?_
   refine V.q ?_
   refine V.slotAs 6 (.one (.int .i64 (IntKind.i64.wrap ((i : Int) + 1)))) (.one (.int .i64 ((i + 1 : Nat) : Int))) kq kq (fun _=>by rw [wrap_up (by omega)]) ?_
   refine V.iter ?_
   exact V.back [1,2,4,5,6] [0,1,2] [] [] key kq kq
  case aN =>
   refine V.runC [] (Fl.nc .aN) [] kq kq trivial ?_
   refine V.q ?_
   refine V.slotAs 6 (.one (.int .i64 (IntKind.i64.wrap ((i : Int) + 1)))) (.one (.int .i64 ((i + 1 : Nat) : Int))) kq kq (fun _=>by rw [wrap_up (by omega)]) ?_
   refine V.iter ?_
   exact V.back [1,2,4,5,6] [0,1,2] [] [] key kq kq
  case aM =>
   refine V.runC [] (Fl.nc .aM) [] kq kq trivial ?_
   refine V.q ?_
   refine V.slotAs 6 (.one (.int .i64 (IntKind.i64.wrap ((i : Int) + 1)))) (.one (.int .i64 ((i + 1 : Nat) : Int))) kq kq (fun _=>by rw [wrap_up (by omega)]) ?_
   refine V.iter ?_
   exact V.back [1,2,4,5,6] [0,1,2] [] [] key kq kq
  case pN =>
   refine V.runC [] (Fl.nc .pN) [] kq kq trivial ?_
   refine V.q ?_
   refine V.slotAs 6 (.one (.int .i64 (IntKind.i64.wrap ((i : Int) + 1)))) (.one (.int .i64 ((i + 1 : Nat) : Int))) kq kq (fun _=>by rw [wrap_up (by omega)]) ?_
   refine V.iter ?_
   exact V.back [1,2,4,5,6] [0,1,2] [] [] key kq kq
  case pM =>
   refine V.runC [] (Fl.nc .pM) [] kq kq trivial ?_
   refine V.q ?_
   refine V.slotAs 6 (.one (.int .i64 (IntKind.i64.wrap ((i : Int) + 1)))) (.one (.int .i64 ((i + 1 : Nat) : Int))) kq kq (fun _=>by rw [wrap_up (by omega)]) ?_
   refine V.iter ?_
   exact V.back [1,2,4,5,6] [0,1,2] [] [] key kq kq
  case far =>
   refine V.runC [] (Fl.nc .far) [] kq kq trivial ?_
   refine V.q ?_
   refine V.slotAs 6 (.one (.int .i64 (IntKind.i64.wrap ((i : Int) + 1)))) (.one (.int .i64 ((i + 1 : Nat) : Int))) kq kq (fun _=>by rw [wrap_up (by omega)]) ?_
   refine V.iter ?_
   exact V.back [1,2,4,5,6] [0,1,2] [] [] key kq kq
 ·have hle : (opFls o).length = i:=by
   have : ¬ i < (opRef o).length:=by simpa using hb
   omega
  rw [← hle,List.take_length] at hy hB
  refine V.q ?_
  subst hy hB
  exact V.z
def flsOf (x : In) : List Fl:=(opFind x.op).getD []
def yOf (x : In) : In:=mvL x (flsOf x) (emptyI x.op)
def bOf (x : In) (A : IA) : IA:=mvAL A (flsOf x) IA0
theorem fls_op {x : In} {o : Nat} (ho : isOp o = true) (hop : x.op = (o : Int)) : flsOf x = opFls o:=by
 have h:=(isOp_iff o).1 ho
 unfold flsOf opFind
 rw [if_pos (by omega),hop]
 rfl
theorem fls_no {x : In} (h : ¬ (1 ≤ x.op ∧ x.op ≤ 38)) : flsOf x = []:=by
 unfold flsOf opFind
 rw [if_neg h]
 rfl
theorem rfN_no {n : Int} (h : ¬ (1 ≤ n ∧ n ≤ 38)) : rfN n = ([],[]):=by
 unfold rfN
 rw [if_neg (by omega)]
theorem isOp_of {n : Int} (h : 1 ≤ n ∧ n ≤ 38) : ∃ o : Nat,isOp o = true ∧ n = (o : Int):=⟨n.toNat,(isOp_iff _).2 (by omega),by omega⟩
theorem rfN_fls (x : In) : (rfN x.op).2 = (flsOf x).map Fl.ch:=by
 by_cases h : 1 ≤ x.op ∧ x.op ≤ 38
 ·obtain ⟨o,ho,hop⟩:=isOp_of h
  rw [fls_op ho hop,hop,rfN_op ho]
  rfl
 ·rw [fls_no h,rfN_no h]
  rfl
theorem fls_len (x : In) : (flsOf x).length ≤ 7:=by
 by_cases h : 1 ≤ x.op ∧ x.op ≤ 38
 ·obtain ⟨o,ho,hop⟩:=isOp_of h
  rw [fls_op ho hop]
  have:=all_ops (p:=fun o=>decide ((opFls o).length ≤ 7)) kq ho
  simpa using this
 ·rw [fls_no h]
  decide
set_option maxHeartbeats 1000000 in
theorem cCopiedA (x : In) (A : IA) : CallsK Tryz.prog 118 [.agg (inV x A)] noF (fun _ : Unit=>True) (fun _=>.v (.agg (inV (yOf x) (bOf x A)))) (fun _=>noF):=by
 by_cases h : 1 ≤ x.op ∧ x.op ≤ 38
 ·obtain ⟨o,ho,hop⟩:=isOp_of h
  have:=cCopied x A o ho hop
  rw [← fls_op ho hop] at this
  exact this
 ·have hr:=cFieldsR x.op
  rw [rfN_no h] at hr
  rw [show yOf x = emptyI x.op by unfold yOf; rw [fls_no h]; rfl,show bOf x A = IA0 by unfold bOf; rw [fls_no h]; rfl]
  refine CallsK.mk true Tryz.func118 kq kq (fun ρ w=>?_)
  refine V.q ?_
  refine V.callK [] hr kq kq kq (fun _=>kq) (fun _ _=>?_)
  refine V.q ?_
  refine V.callK [] (cBlankR x.op) kq kq kq (fun _=>kq) (fun _ _=>?_)
  refine V.q ?_
  refine V.iter ?_
  refine V.q ?_
  refine V.known 19 (decide ((0 : Int) < (([] : List UInt8).length : Int))) false kq (by decide) ?_
  refine V.q ?_
  exact V.z
theorem LsOk.mvL {x : In} {A : IA} : ∀ {l : List Fl} {y : In} {B : IA},LsOk x A y B → LsOk x A (mvL x l y) (mvAL A l B)
 | [],_,_,h=>h
 | f :: l,y,B,h=>LsOk.mvL (l:=l) (h.mv f)
theorem ls_y (x : In) (A : IA) : LsOk x A (yOf x) (bOf x A):=LsOk.mvL (LsOk.zero x A x.op)
theorem okL_y {x : In} (h : x.okL) (A : IA) : (yOf x).okL:=by
 obtain ⟨h1,h2,h3⟩:=ls_y x A
 obtain ⟨k1,k2,k3⟩:=h
 refine ⟨?_,?_,?_⟩
 ·rcases h1 with ⟨e,_⟩ | ⟨e,_⟩
  ·rw [e]; decide
  ·rw [e]; exact k1
 ·rcases h2 with ⟨e,_⟩ | ⟨e,_⟩
  ·rw [e]; decide
  ·rw [e]; exact k2
 ·rcases h3 with ⟨e,_⟩ | ⟨e,_⟩
  ·rw [e]; decide
  ·rw [e]; exact k3
noncomputable def sCopied (x : In) (A : IA) : Con Tryz.prog:=Con.inst 118 [] [.agg (inV x A)] (.v (.agg (inV (yOf x) (bOf x A)))) (CallsK.gives (cCopiedA x A) ⟨rfl,rfl,rfl⟩ (fun _ _=>rfl))
noncomputable def TW (x : In) (A : IA) (hx : x.okL) : List (Ent Tryz.prog):=[⟨sCopied x A,[]⟩,⟨sSame26 (yOf x) x (bOf x A) A (okL_y hx A),[3,4,5,2,1,0]⟩,⟨aIn,[]⟩,⟨aNumR,[]⟩,⟨aTypR,[]⟩]
def rwB (x : In) : Bool:=((rfN x.op).1 == []) || !(eqIn (yOf x) x) || !(inR x.d (-1) 3999) || !(inR x.a (-1) 3999) || !(inR x.b (-1) 3999) || !(numR x.n) || !(numR x.m) || !(numR x.p) || !(tyR x.t) || !(tyR x.u) || !(tyR x.w) || !(numR x.vn) || decide ((x.vs.length : Int) > 255)
theorem fine_all {x : In} (h : cFine x = true) : ∃ o,isOp o = true ∧ x.op = (o : Int) ∧ eqIn (yOf x) x = true ∧ Good x ∧ ∀ f ∈ flsOf x,letR f x = true:=by
 by_cases hop : 1 ≤ x.op ∧ x.op ≤ 38
 ·obtain ⟨o,ho,e⟩:=isOp_of hop
  refine ⟨o,ho,e,?_⟩
  have:=(cFine_iff x o ho e).1 h
  unfold yOf
  rw [fls_op ho e]
  exact this
 ·have : cFine x = false:=by unfold cFine opFind; rw [if_neg hop]
  rw [this] at h
  cases h
theorem fine_rw {x : In} (h : cFine x = true) : rwB x = false:=by
 obtain ⟨o,ho,e,h1,g,_⟩:=fine_all h
 have h0 : ((rfN x.op).1 == []) = false:=by
  rw [e,rfN_op ho]
  have:=all_ops (p:=fun o=>!(opName o == [])) kq ho
  simpa using this
 have h2 : decide ((x.vs.length : Int) > 255) = false:=by
  have:=g.gvs
  simp only [decide_eq_true_eq] at this
  exact decide_eq_false (by omega)
 unfold rwB
 rw [h0,h1,g.gd,g.ga,g.gb,g.gn,g.gm,g.gp,g.gt,g.gu,g.gw,g.gvn,h2]
 rfl
theorem rw_op {x : In} (h : rwB x = false) : ∃ o,isOp o = true ∧ x.op = (o : Int):=by
 by_cases hop : 1 ≤ x.op ∧ x.op ≤ 38
 ·exact isOp_of hop
 ·unfold rwB at h
  rw [rfN_no hop] at h
  simp at h
theorem rw_fine {x : In} (h : rwB x = false) (h2 : (decide ((x.f.length : Int) > 16) || decide ((x.l.length : Int) > 16) || decide ((x.y.length : Int) > 16)) = false) (hf : x.f.all fmR = true) (hl : (x.l.all fun n=>inR n 0 3999) = true) (hy : x.y.all tyR = true)
  (hlt : ∀ f ∈ flsOf x,letR f x = true) : cFine x = true:=by
 obtain ⟨o,ho,e⟩:=rw_op h
 refine (cFine_iff x o ho e).2 ?_
 unfold rwB at h
 simp only [Bool.or_eq_false_iff,Bool.not_eq_false',decide_eq_false_iff_not] at h h2
 obtain ⟨⟨⟨⟨⟨⟨⟨⟨⟨⟨⟨⟨_,k1⟩,k2⟩,k3⟩,k4⟩,k5⟩,k6⟩,k7⟩,k8⟩,k9⟩,k10⟩,k11⟩,k12⟩:=h
 have hy':=fls_op ho e
 unfold yOf at k1
 rw [hy'] at k1 hlt
 exact ⟨k1,⟨k2,k3,k4,k5,k6,k7,k8,k9,k10,k11,decide_eq_true (by omega),decide_eq_true (by omega),decide_eq_true (by omega),decide_eq_true (by omega),hf,hl,hy⟩,hlt⟩
noncomputable def weT : List Item:=skipT 100 [.code (bodyOf Tryz.f60)]
noncomputable def weSt0 (x : In) (A : IA) : St :=
 { n:=220,slots:=[(1,.v (.one (.ptr 0 0))),(4,.v (.one (.str (rfN x.op).2))),(91,.v (.one (.sb (rwB x))))],gs:=[],
    heap:=[(0,⟨inV x A,30,true⟩)],next:=1,rows:=[],nr:=0,pers:=lsP x A,wr:=true,fx:=0 }
noncomputable def weSt (x : In) (A : IA) (t i : Nat) : St :=
 { n:=220,slots:=[(1,.v (.one (.ptr 0 0))),(4,.v (.one (.str (rfN x.op).2))),(t,.v (.one (.int .i64 (i : Int))))],gs:=[],
    heap:=[(0,seB x A 0)],next:=1,rows:=[(0,rowF x A),(1,rowI x A),(2,rowT x A)],nr:=3,pers:=[],wr:=true,fx:=0 }
theorem _root_.Go.SX.V.byK {C : Ctx} (t : Nat) (e : Bool) {c : Cfg} (hl : SX.look c.st.slots t = some (.v (.one (.sb e)))) (h1 : e = true → V C (c.know t true)) (h2 : e = false → V C (c.know t false)) : V C c:=by
 by_cases he : e = true
 ·exact V.known t e true hl he (h1 he)
 ·exact V.known t e false hl (by simpa using he) (h2 (by simpa using he))
set_option maxHeartbeats 1000000 in
theorem cWell_rest (x : In) (A : IA) (hx : x.okL) (r : Bool) (hr : r = cFine x) (ρ : Nat → Nat) (w : World) : V ⟨Tryz.prog,60,GivesK ρ (stP (lsP x A)) (fun _ : Unit=>True) (fun _=>.v (.one (.sb r))) (fun _=>noF) w,touch ρ (stP (lsP x A)),w,ρ,none⟩ ⟨weT,weSt0 x A⟩:=by
 have bad : (cFine x = true → False) → r = false:=fun h=>by
  rw [hr]
  cases e : cFine x with
  | false=>rfl
  | true=>exact (h e).elim
 refine V.branch 91 (rwB x) kq (fun h0=>?_) (fun h0=>?_)
 ·refine V.q ?_
  have hz : r = false:=bad fun h=>by rw [fine_rw h] at h0; cases h0
  subst hz
  refine V.slotAs 2 (.one (.bool false)) (.one (.sb false)) kq kq (fun _=>rfl) ?_
  exact V.z
 refine V.q ?_
 refine V.branch 107 (decide ((x.f.length : Int) > 16) || decide ((x.l.length : Int) > 16) || decide ((x.y.length : Int) > 16)) kq (fun h1=>?_) (fun h1=>?_)
 ·refine V.q ?_
  have hz : r = false:=bad fun h=>by
   obtain ⟨o,ho,e,_,g,_⟩:=fine_all h
   have k1:=g.nf
   have k2:=g.nl
   have k3:=g.ny
   simp only [Bool.or_eq_true,decide_eq_true_eq] at h1 k1 k2 k3
   omega
  subst hz
  refine V.slotAs 2 (.one (.bool false)) (.one (.sb false)) kq kq (fun _=>rfl) ?_
  exact V.z
 have hl16 : x.f.length ≤ 16 ∧ x.l.length ≤ 16 ∧ x.y.length ≤ 16:=by
  simp only [Bool.or_eq_false_iff,decide_eq_false_iff_not] at h1
  omega
 refine V.ungrd ?_
 refine V.factRow 0 (rowF x A) kq rfl ?_
 refine V.factRow 1 (rowI x A) kq rfl ?_
 refine V.factRow 2 (rowT x A) kq rfl ?_
 refine V.cellRow 0 24 0 ⟨inV x A,30,true⟩ (rowF x A) kq kq kq ?_
 refine V.cellRow 0 25 1 ⟨inC x (.row 0 A.qf x.f.length A.cf) (.val (.slice A.ql x.l.length A.cl)) (.val (.slice A.qy x.y.length A.cy)),30,true⟩ (rowI x A) kq kq kq ?_
 refine V.cellRow 0 26 2 ⟨inC x (.row 0 A.qf x.f.length A.cf) (.row 1 A.ql x.l.length A.cl) (.val (.slice A.qy x.y.length A.cy)),30,true⟩ (rowT x A) kq kq kq ?_
 refine V.q ?_
 refine V.iter ?_
 refine V.loopTo [1,4,5] [0] [0,1,2] [] (fun i : Nat=>x.f.length - i) (weSt x A 5) (fun i=>i ≤ x.f.length ∧ (x.f.take i).all fmR = true) 0 kq ⟨Nat.zero_le _,rfl⟩ (fun i hi ih=>?_)
 obtain ⟨hi1,hall⟩:=hi
 refine V.q ?_
 refine V.branch 112 (decide ((i : Int) < (x.f.length : Int))) kq (fun hc=>?_) (fun hc=>?_)
 ·have hlt : i < x.f.length:=by simpa using hc
  refine V.runT [⟨aFmtR,[]⟩] [(0 : Int) ≤ i ∧ (i : Int) < x.f.length] kq kq ⟨by omega,by omega⟩ ?_
  refine V.branch 121 (!(fmR (x.f.getD i fm0))) kq (fun hh=>?_) (fun hh=>?_)
  ·refine V.q ?_
   have hz : r = false:=bad fun h=>by
    obtain ⟨o,ho,e,_,g,_⟩:=fine_all h
    have:=g.gf
    rw [all_at hlt fm0 (by simpa using hh)] at this
    cases this
   subst hz
   refine V.slotAs 2 (.one (.bool false)) (.one (.sb false)) kq kq (fun _=>rfl) ?_
   exact V.z
  ·refine V.q ?_
   refine V.slotAs 5 (.one (.int .i64 (IntKind.i64.wrap ((i : Int) + 1)))) (.one (.int .i64 ((i + 1 : Nat) : Int))) kq kq (fun _=>by rw [wrap_up (by omega)]) ?_
   refine V.iter ?_
   exact V.back [1,4,5] [0] [0,1,2] [] (ih (i + 1) ⟨hlt,all_next hlt fm0 hall (by simpa using hh)⟩ (by omega)) kq kq
 have hle : x.f.length = i:=by
  have : ¬ i < x.f.length:=by simpa using hc
  omega
 have hF : x.f.all fmR = true:=by rw [← hle,List.take_length] at hall; exact hall
 refine V.q ?_
 refine V.iter ?_
 clear ih hall hc hle hi1
 refine V.loopTo [1,4,6] [0] [0,1,2] [] (fun i : Nat=>x.l.length - i) (weSt x A 6) (fun i=>i ≤ x.l.length ∧ ((x.l.take i).all fun n=>inR n 0 3999) = true) 0 kq ⟨Nat.zero_le _,rfl⟩ (fun i hi ih=>?_)
 obtain ⟨hi1,hall⟩:=hi
 refine V.q ?_
 refine V.branch 126 (decide ((i : Int) < (x.l.length : Int))) kq (fun hc=>?_) (fun hc=>?_)
 ·have hlt : i < x.l.length:=by simpa using hc
  refine V.runT [⟨aIn,[]⟩] [(0 : Int) ≤ i ∧ (i : Int) < x.l.length] kq kq ⟨by omega,by omega⟩ ?_
  refine V.branch 135 (!(inR (x.l.getD i 0) 0 3999)) kq (fun hh=>?_) (fun hh=>?_)
  ·refine V.q ?_
   have hz : r = false:=bad fun h=>by
    obtain ⟨o,ho,e,_,g,_⟩:=fine_all h
    have:=g.gl
    rw [all_at hlt 0 (by simpa using hh)] at this
    cases this
   subst hz
   refine V.slotAs 2 (.one (.bool false)) (.one (.sb false)) kq kq (fun _=>rfl) ?_
   exact V.z
  ·refine V.q ?_
   refine V.slotAs 6 (.one (.int .i64 (IntKind.i64.wrap ((i : Int) + 1)))) (.one (.int .i64 ((i + 1 : Nat) : Int))) kq kq (fun _=>by rw [wrap_up (by omega)]) ?_
   refine V.iter ?_
   exact V.back [1,4,6] [0] [0,1,2] [] (ih (i + 1) ⟨hlt,all_next hlt 0 hall (by simpa using hh)⟩ (by omega)) kq kq
 have hle : x.l.length = i:=by
  have : ¬ i < x.l.length:=by simpa using hc
  omega
 have hL : (x.l.all fun n=>inR n 0 3999) = true:=by rw [← hle,List.take_length] at hall; exact hall
 refine V.q ?_
 refine V.iter ?_
 clear ih hall hc hle hi1
 refine V.loopTo [1,4,7] [0] [0,1,2] [] (fun i : Nat=>x.y.length - i) (weSt x A 7) (fun i=>i ≤ x.y.length ∧ (x.y.take i).all tyR = true) 0 kq ⟨Nat.zero_le _,rfl⟩ (fun i hi ih=>?_)
 obtain ⟨hi1,hall⟩:=hi
 refine V.q ?_
 refine V.branch 140 (decide ((i : Int) < (x.y.length : Int))) kq (fun hc=>?_) (fun hc=>?_)
 ·have hlt : i < x.y.length:=by simpa using hc
  refine V.runT [⟨aTypR,[]⟩] [(0 : Int) ≤ i ∧ (i : Int) < x.y.length] kq kq ⟨by omega,by omega⟩ ?_
  refine V.branch 149 (!(tyR (x.y.getD i ty0))) kq (fun hh=>?_) (fun hh=>?_)
  ·refine V.q ?_
   have hz : r = false:=bad fun h=>by
    obtain ⟨o,ho,e,_,g,_⟩:=fine_all h
    have:=g.gy
    rw [all_at hlt ty0 (by simpa using hh)] at this
    cases this
   subst hz
   refine V.slotAs 2 (.one (.bool false)) (.one (.sb false)) kq kq (fun _=>rfl) ?_
   exact V.z
  ·refine V.q ?_
   refine V.slotAs 7 (.one (.int .i64 (IntKind.i64.wrap ((i : Int) + 1)))) (.one (.int .i64 ((i + 1 : Nat) : Int))) kq kq (fun _=>by rw [wrap_up (by omega)]) ?_
   refine V.iter ?_
   exact V.back [1,4,7] [0] [0,1,2] [] (ih (i + 1) ⟨hlt,all_next hlt ty0 hall (by simpa using hh)⟩ (by omega)) kq kq
 have hle : x.y.length = i:=by
  have : ¬ i < x.y.length:=by simpa using hc
  omega
 have hY : x.y.all tyR = true:=by rw [← hle,List.take_length] at hall; exact hall
 refine V.q ?_
 refine V.iter ?_
 clear ih hall hc hle hi1
 have hfl:=fls_len x
 have hch:=rfN_fls x
 have hrl : (rfN x.op).2.length = (flsOf x).length:=by rw [hch,List.length_map]
 refine V.loopTo [1,4,8] [0] [0,1,2] [] (fun i : Nat=>(flsOf x).length - i) (weSt x A 8) (fun i=>i ≤ (flsOf x).length ∧ ((flsOf x).take i).all (fun f=>letR f x) = true) 0 kq ⟨Nat.zero_le _,rfl⟩ (fun i hi ih=>?_)
 obtain ⟨hi1,hall⟩:=hi
 refine V.q ?_
 refine V.branch 153 (decide ((i : Int) < ((rfN x.op).2.length : Int))) kq (fun hc=>?_) (fun hc=>?_)
 ·have hlt : i < (flsOf x).length:=by rw [← hrl]; simpa using hc
  have hB : (0 : Int) ≤ i ∧ (i : Int) < ((rfN x.op).2.length : Int):=by rw [hrl]; omega
  obtain ⟨f,hfi⟩ : ∃ f,(flsOf x).getD i .D = f:=⟨_,rfl⟩
  have hchf : (rfN x.op).2.getD i 0 = f.ch:=by
   rw [← hfi,hch,List.getD,List.getElem?_map,List.getElem?_eq_getElem hlt,List.getD,List.getElem?_eq_getElem hlt]
   rfl
  have hlf : cFine x = true → letR f x = true:=fun h=>by
   obtain ⟨o,ho,e,_,g,hl⟩:=fine_all h
   refine hl f ?_
   rw [← hfi,List.getD,List.getElem?_eq_getElem hlt]
   exact List.getElem_mem hlt
  refine V.runT [⟨aIn,[]⟩] [(0 : Int) ≤ i ∧ (i : Int) < ((rfN x.op).2.length : Int),((((rfN x.op).2.getD i 0).toNat : Int) == 110 && !(inR x.n 0 1048576)) = false → (0 : Int) ≤ i ∧ (i : Int) < ((rfN x.op).2.length : Int)] kq kq ⟨hB,fun _=>hB⟩ ?_
  refine V.byK 166 ((((rfN x.op).2.getD i 0).toNat : Int) == 110 && !(inR x.n 0 1048576)) kq (fun e1=>?_) (fun e1=>?_)
  ·refine V.q ?_
   have hz : r = false:=bad fun h=>by
    have hg:=hlf h
    rw [hchf] at e1
    clear hchf hlf hfi
    cases f <;> simp_all [Fl.ch,letR]
   subst hz
   refine V.slotAs 2 (.one (.bool false)) (.one (.sb false)) kq kq (fun _=>rfl) ?_
   exact V.z
  refine V.runT [⟨aIn,[]⟩] [((((rfN x.op).2.getD i 0).toNat : Int) == 109 && !(inR x.m 0 1048576)) = false → (0 : Int) ≤ i ∧ (i : Int) < ((rfN x.op).2.length : Int)] kq kq (fun _=>hB) ?_
  refine V.byK 178 ((((rfN x.op).2.getD i 0).toNat : Int) == 109 && !(inR x.m 0 1048576)) kq (fun e2=>?_) (fun e2=>?_)
  ·refine V.q ?_
   have hz : r = false:=bad fun h=>by
    have hg:=hlf h
    rw [hchf] at e2
    clear hchf hlf hfi
    cases f <;> simp_all [Fl.ch,letR]
   subst hz
   refine V.slotAs 2 (.one (.bool false)) (.one (.sb false)) kq kq (fun _=>rfl) ?_
   exact V.z
  refine V.runT [⟨aIn,[]⟩] [((((rfN x.op).2.getD i 0).toNat : Int) == 99 && !(inR x.n 0 63)) = false → (0 : Int) ≤ i ∧ (i : Int) < ((rfN x.op).2.length : Int)] kq kq (fun _=>hB) ?_
  refine V.byK 190 ((((rfN x.op).2.getD i 0).toNat : Int) == 99 && !(inR x.n 0 63)) kq (fun e3=>?_) (fun e3=>?_)
  ·refine V.q ?_
   have hz : r = false:=bad fun h=>by
    have hg:=hlf h
    rw [hchf] at e3
    clear hchf hlf hfi
    cases f <;> simp_all [Fl.ch,letR]
   subst hz
   refine V.slotAs 2 (.one (.bool false)) (.one (.sb false)) kq kq (fun _=>rfl) ?_
   exact V.z
  refine V.runT [⟨aIn,[]⟩] [((((rfN x.op).2.getD i 0).toNat : Int) == 111 && !(inR x.m (-1) 63)) = false → (0 : Int) ≤ i ∧ (i : Int) < ((rfN x.op).2.length : Int)] kq kq (fun _=>hB) ?_
  refine V.byK 202 ((((rfN x.op).2.getD i 0).toNat : Int) == 111 && !(inR x.m (-1) 63)) kq (fun e4=>?_) (fun e4=>?_)
  ·refine V.q ?_
   have hz : r = false:=bad fun h=>by
    have hg:=hlf h
    rw [hchf] at e4
    clear hchf hlf hfi
    cases f <;> simp_all [Fl.ch,letR]
   subst hz
   refine V.slotAs 2 (.one (.bool false)) (.one (.sb false)) kq kq (fun _=>rfl) ?_
   exact V.z
  refine V.byK 207 ((((rfN x.op).2.getD i 0).toNat : Int) == 103) kq (fun e5=>?_) (fun e5=>?_)
  ·refine V.runT [⟨aIn,[]⟩] [] kq kq trivial ?_
   refine V.branch 219 (!(inR x.n 0 1048576) || !(inR x.p 0 63)) kq (fun e6=>?_) (fun e6=>?_)
   ·refine V.q ?_
    have hz : r = false:=bad fun h=>by
     have hg:=hlf h
     rw [hchf] at e5
     clear hchf hlf hfi
     cases f <;> simp_all [Fl.ch,letR]
    subst hz
    refine V.slotAs 2 (.one (.bool false)) (.one (.sb false)) kq kq (fun _=>rfl) ?_
    exact V.z
   refine V.q ?_
   have hok : letR f x = true:=by
    rw [hchf] at e1 e2 e3 e4 e5
    clear hchf hlf hfi ih
    cases f <;> simp_all [Fl.ch,letR]
   refine V.slotAs 8 (.one (.int .i64 (IntKind.i64.wrap ((i : Int) + 1)))) (.one (.int .i64 ((i + 1 : Nat) : Int))) kq kq (fun _=>by rw [wrap_up (by omega)]) ?_
   refine V.iter ?_
   exact V.back [1,4,8] [0] [0,1,2] [] (ih (i + 1) ⟨hlt,all_next hlt .D hall (by rw [hfi]; exact hok)⟩ (by omega)) kq kq
  ·refine V.runT [⟨aIn,[]⟩] [] kq kq trivial ?_
   have hok : letR f x = true:=by
    rw [hchf] at e1 e2 e3 e4 e5
    clear hchf hlf hfi ih
    cases f <;> simp_all [Fl.ch,letR]
   refine V.slotAs 8 (.one (.int .i64 (IntKind.i64.wrap ((i : Int) + 1)))) (.one (.int .i64 ((i + 1 : Nat) : Int))) kq kq (fun _=>by rw [wrap_up (by omega)]) ?_
   refine V.iter ?_
   exact V.back [1,4,8] [0] [0,1,2] [] (ih (i + 1) ⟨hlt,all_next hlt .D hall (by rw [hfi]; exact hok)⟩ (by omega)) kq kq
 ·have hle : (flsOf x).length = i:=by
   have : ¬ i < (rfN x.op).2.length:=by simpa using hc
   omega
  have hLt : ∀ f ∈ flsOf x,letR f x = true:=by
   rw [← hle,List.take_length] at hall
   exact fun f hf=>List.all_eq_true.1 hall f hf
  have hz : r = true:=hr.trans (rw_fine h0 h1 hF hL hY hLt)
  refine V.q ?_
  subst hz
  refine V.slotAs 2 (.one (.bool true)) (.one (.sb true)) kq kq (fun _=>rfl) ?_
  exact V.z
set_option maxHeartbeats 1000000 in
theorem cWell (x : In) (A : IA) (hx : x.okL) (r : Bool) (hr : r = cFine x) : CallsK Tryz.prog 60 [.agg (inV x A)] (stP (lsP x A)) (fun _ : Unit=>True) (fun _=>.v (.one (.sb r))) (fun _=>noF):=by
 refine CallsK.mk true Tryz.func60 kq kq (fun ρ w=>?_)
 refine V.q ?_
 refine V.callK [] (cFieldsR x.op) kq kq kq (fun _=>kq) (fun _ _=>?_)
 have hls:=ls_y x A
 obtain ⟨f1,f2⟩:=rowL_as (f:=Fm.cells) (d:=fm0) (e:=93) (sz:=4) hls.f
 obtain ⟨l1,l2⟩:=rowL_as (f:=intv) (d:=0) (e:=3) (sz:=1) hls.l
 obtain ⟨y1,y2⟩:=rowL_as (f:=Ty.cells) (d:=ty0) (e:=23) (sz:=5) hls.y
 refine V.persAs [(0,false)] [rowP (rowF x A)] (rowP (rowF (yOf x) (bOf x A))) kq f1 f2 (rowP_stab _) ?_
 refine V.persAs [(2,false)] [rowP (rowI x A)] (rowP (rowI (yOf x) (bOf x A))) kq l1 l2 (rowP_stab _) ?_
 refine V.persAs [(4,false)] [rowP (rowT x A)] (rowP (rowT (yOf x) (bOf x A))) kq y1 y2 (rowP_stab _) ?_
 refine V.runT (TW x A hx) [((rfN x.op).1 == []) = false → ([.agg (inV x A)] : List CV) = [.agg (inV x A)],((rfN x.op).1 == []) = false → ([.agg (inV (yOf x) (bOf x A)),.agg (inV x A)] : List CV) = [.agg (inV (yOf x) (bOf x A)),.agg (inV x A)]] kq kq ⟨fun _=>rfl,fun _=>rfl⟩ ?_
 exact V.back [1,4,91] [0] [] [false,false,false,true,true,true] (cWell_rest x A hx r hr ρ w) kq kq
theorem xCheckR (x : In) (A : IA) (hx : x.okL) : CallsK Tryz.prog 21 [.agg (inV x A)] (stP (lsP x A)) (fun _ : Unit=>True) (fun _=>.v (.one (.int .i64 (bif cFine x then 0 else 170)))) (fun _=>noF):=by
 have key:=cWell x A hx _ rfl
 cases h : cFine x with
 | true =>
  rw [h] at key
  refine CallsK.mk true Tryz.func21 kq kq (fun ρ w=>?_)
  refine V.q ?_
  refine V.callK [(0,false),(1,false),(2,false)] key kq kq kq (fun _=>kq) (fun _ _=>?_)
  refine V.q ?_
  refine V.known 7 (!true) false kq rfl ?_
  refine V.q ?_
  exact V.z
 | false =>
  rw [h] at key
  refine CallsK.mk true Tryz.func21 kq kq (fun ρ w=>?_)
  refine V.q ?_
  refine V.callK [(0,false),(1,false),(2,false)] key kq kq kq (fun _=>kq) (fun _ _=>?_)
  refine V.q ?_
  refine V.known 7 (!false) true kq rfl ?_
  refine V.q ?_
  exact V.z
end Go.Proofs
end
