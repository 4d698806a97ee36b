/- A symbolic run of the program that Lean checks, and what the functions of the program come to by it: part 11 of 12. -/
import Derived.Lib.CountLaws
import Derived.Test.YteinbljapojcgaaGreatDoorQAJ
set_option linter.unusedVariables false
section
namespace Go.Proofs
open Go Go.SX
set_option maxRecDepth 10000
def Fl.fr (f:Fl) (y:In):Prop:=match f with
 | .L=>y.l=[]
 | .Y=>y.y=[]
 | .F=>y.f=[]
 | _=>True
theorem isPl_nat {n:Int} (h:isPl n=true):∃ k:Nat,n=(k:Int)∧k≤1048576:=by
 unfold isPl at h;simp only [Bool.and_eq_true,decide_eq_true_eq] at h;exact ⟨n.toNat,by omega,by omega⟩
end Go.Proofs
end
section
namespace Go.Proofs
open Go Go.SX
theorem reg_sound {l:List UInt8} (h:regB l=true):regT (regN l)=l:=by
 unfold regB at h;unfold regN;cases e:(l==[45]) with
 | true=>rw [beq_iff_eq.1 e]; rfl
 | false =>
  rw [e] at h;simp only [cond_false,Bool.and_eq_true,decide_eq_true_eq,beq_iff_eq] at h ⊢;obtain ⟨⟨h1,h2⟩,h3⟩:=h;cases l with
  | nil=>simp at h3
  | cons c r =>
   have hc:c=114:=by
    apply UInt8.toNat_inj.1;simp only [List.getD_cons_zero] at h3;have:(114:UInt8).toNat=114:=rfl;omega
   subst hc;rw [trimP_cons] at h1 h2 ⊢;unfold regT;rw [if_neg (by omega),(dec_sound h1).1]
theorem beq_false {α:Type} [BEq α] [LawfulBEq α] {a b:α} (h:a≠b):(a==b)=false:=by rw [beq_eq_false_iff_ne]; exact h
theorem reg_compl {n:Int} (h:isRg n=true):regB (regT n)=true∧regN (regT n)=n:=by
 have h1:=isRg_iff h;unfold regT;by_cases hn:n<0
 ·rw [if_pos hn];have:n=-1:=by omega
  subst this;exact ⟨rfl,rfl⟩
 ·rw [if_neg hn];have hd:=dec_compl (n:=n) (isNum_iff.2 ⟨by omega,by omega⟩);unfold regB regN;rw [beq_false (show (114::Lib.itoa n:List UInt8)≠[45] by intro e; cases e),trimP_cons,hd.1,hd.2];simp only [cond_false,Bool.true_and,List.getD_cons_zero];refine ⟨?_,trivial⟩;rw [decide_eq_true (by omega)];rfl
theorem rg_eq (n:Int):rgT n=regT n:=by
 unfold rgT regT;by_cases h:n<0
 ·rw [decide_eq_true h,if_pos h]; rfl
 ·rw [decide_eq_false h,if_neg h]; rfl
theorem sm_sound {p:List UInt8} (h:smB p=true):rgT (regN p)=p:=by
 unfold smB at h;rw [Bool.and_eq_true] at h;rw [rg_eq];exact reg_sound h.1
theorem sm_compl {n:Int} (h:fineI n=true):smB (rgT n)=true∧regN (rgT n)=n:=by
 have h1:=fineI_lt h;have h2:=reg_compl (n:=n) (by unfold isRg; simp; omega);rw [rg_eq];unfold smB;rw [h2.1,h2.2];refine ⟨?_,rfl⟩;rw [decide_eq_true (by omega)];rfl
theorem psLs_G:∀ (ps:List (List UInt8)) (l:List Int),psLs l ps=psG smB regN l ps
 | [],l=>rfl
 | p::ps,l=>by rw [psLs,psG,psLs_G ps]
theorem l_sound {s:List UInt8} (h:lB s=true):[91]++lS s++[93]=s:=by
 unfold lB at h;rw [Bool.and_eq_true] at h;unfold lS;rw [List.append_assoc,← trimS_eq h.2];exact (hasP_eq h.1).symm
theorem l_compl (t:List UInt8):lB ([91]++t++[93])=true∧lS ([91]++t++[93])=t:=by
 have e:([91]++t++[93]:List UInt8)=91::(t++[93]):=rfl;unfold lB lS;rw [e,hasP_cons,trimP_cons,(trimS_app t 93).1,(trimS_app t 93).2];exact ⟨rfl,rfl⟩
theorem lst_sound {α:Type} {B:List UInt8→Bool} {N:List UInt8→α} (tx:α→List UInt8) (hB:∀ p,B p=true→tx (N p)=p) {s:List UInt8} (h:(lB s&&(psG B N [] (partsC 59 (lS s))).2)=true) :
  [91]++Lib.join ((psG B N [] (partsC 59 (lS s))).1.map tx) [59]++[93]=s:=by
 rw [Bool.and_eq_true] at h;have:=psG_sound tx hB (partsC 59 (lS s)) [] (psG B N [] (partsC 59 (lS s))).1 (by rw [← h.2]);rw [this,List.map_nil,List.nil_append,join_parts,l_sound h.1]
theorem lst_compl {α:Type} {B:List UInt8→Bool} {N:List UInt8→α} (tx:α→List UInt8) (m:List α) (hm:∀ a∈m,B (tx a)=true∧N (tx a)=a) (hl:(m.length:Int)≤16) (h59:∀ a∈m,(59:UInt8) ∉ tx a) (hne:∀ a∈m,tx a≠[]) :
  lB ([91]++Lib.join (m.map tx) [59]++[93])=true∧psG B N [] (partsC 59 (lS ([91]++Lib.join (m.map tx) [59]++[93])))=(m,true):=by
 obtain ⟨h1,h2⟩:=l_compl (Lib.join (m.map tx) [59]);refine ⟨h1,?_⟩;rw [h2,parts_join 59 (m.map tx) (fun w hw=>by obtain ⟨a,ha,rfl⟩:=List.mem_map.1 hw; exact h59 a ha) (fun w hw=>by obtain ⟨a,ha,rfl⟩:=List.mem_map.1 hw; exact hne a ha),psG_compl tx m [] hm (by simp; omega)];rfl
def fldB (b:UInt8):Prop:=plainB b∨b=33∨b=44∨b=59∨b=64∨b=91∨b=93∨b=114
theorem fld_no {b c:UInt8} (h:fldB b) (hc:c=32∨c=10):c≠b:=by
 rintro rfl;rcases hc with rfl | rfl
 ·rcases h with h | h | h | h | h | h | h | h
  ·exact plain_no h (by decide) rfl
  all_goals exact absurd h (by decide)
 ·rcases h with h | h | h | h | h | h | h | h
  ·exact plain_no h (by decide) rfl
  all_goals exact absurd h (by decide)
theorem fld_app {a b:List UInt8} (ha:∀ x∈a,fldB x) (hb:∀ x∈b,fldB x):∀ x∈a++b,fldB x:=fun x hx=>(List.mem_append.1 hx).elim (ha x) (hb x)
theorem fld_one {c:UInt8} (h:fldB c):∀ x∈[c],fldB x:=fun x hx=>by rw [List.mem_singleton.1 hx]; exact h
theorem fld_itoa (n:Int):∀ x∈Lib.itoa n,fldB x:=fun x hx=>.inl (itoa_plain n x hx)
theorem fld_hex (s:List UInt8):∀ x∈hexT s,fldB x:=fun x hx=>.inl (hexT_plain s x hx)
theorem fld_bit (v:Bool):∀ x∈bitU v,fldB x:=fun x hx=>.inl (bitU_plain v x hx)
theorem c44:fldB 44:=.inr (.inr (.inl rfl))
theorem fld_ty (t:Ty):∀ x∈tyTx t,fldB x :=
 fld_app (fld_app (fld_app (fld_app (fld_app (fld_app (fld_app (fld_app (fld_itoa _) (fld_one c44)) (fld_itoa _)) (fld_one c44)) (fld_itoa _)) (fld_one c44)) (fld_bit _)) (fld_one c44)) (fld_hex _)
theorem fld_fm (t:Fm):∀ x∈fmTx t,fldB x :=
 fld_app (fld_app (fld_app (fld_app (fld_app (fld_app (fld_itoa _) (fld_one c44)) (fld_itoa _)) (fld_one c44)) (fld_itoa _)) (fld_one c44)) (fld_hex _)
theorem fld_reg (n:Int):∀ x∈regT n,fldB x:=by
 unfold regT;split
 ·exact fld_one (.inl (.inl rfl))
 ·exact fld_app (a:=[114]) (fld_one (.inr (.inr (.inr (.inr (.inr (.inr (.inr rfl)))))))) (fld_itoa _)
theorem fld_pr (n:Int):∀ x∈prT n,fldB x:=by
 unfold prT;split
 ·exact fld_app (a:=[33]) (fld_one (.inr (.inl rfl))) (fld_one (.inl (.inl rfl)))
 ·exact fld_app (a:=[33]) (fld_one (.inr (.inl rfl))) (fld_itoa _)
theorem fld_join {l:List (List UInt8)} (h:∀ w∈l,∀ x∈w,fldB x):∀ x∈Lib.join l [59],fldB x:=by
 induction l with
 | nil=>intro x hx; cases hx
 | cons w l ih =>
  cases l with
  | nil=>rw [Lib.join_one]; exact h w (List.mem_cons_self ..)
  | cons v l =>
   rw [join_two];exact fld_app (h w (List.mem_cons_self ..)) (fld_app (a:=[59]) (fld_one (.inr (.inr (.inr (.inl rfl))))) (ih (fun w hw=>h w (List.mem_cons_of_mem _ hw))))
theorem fld_lst {α:Type} (tx:α→List UInt8) (h:∀ a,∀ x∈tx a,fldB x) (m:List α):∀ x∈[91]++Lib.join (m.map tx) [59]++[93],fldB x :=
 fld_app (fld_app (fld_one (.inr (.inr (.inr (.inr (.inr (.inl rfl))))))) (fld_join fun w hw=>by obtain ⟨a,_,rfl⟩:=List.mem_map.1 hw; exact h a)) (fld_one (.inr (.inr (.inr (.inr (.inr (.inr (.inl rfl))))))))
theorem fld_txt (f:Fl) (x:In):∀ b∈f.txt x,fldB b:=by
 have h64:∀ n:Int,∀ b∈64::Lib.itoa n,fldB b:=fun n=>fld_app (a:=[64]) (fld_one (.inr (.inr (.inr (.inr (.inl rfl)))))) (fld_itoa _);cases f
 case D=>exact fld_reg _
 case A=>exact fld_reg _
 case B=>exact fld_reg _
 case N=>exact fld_itoa _
 case M=>exact fld_itoa _
 case P=>exact fld_itoa _
 case T=>exact fld_ty _
 case U=>exact fld_ty _
 case W=>exact fld_ty _
 case V=>exact fld_app (fld_app (fld_itoa _) (fld_one c44)) (fld_hex _)
 case L=>exact fld_lst rgT (fun a=>by rw [rg_eq]; exact fld_reg a) x.l
 case Y=>exact fld_lst tyTx fld_ty x.y
 case F=>exact fld_lst fmTx fld_fm x.f
 case Sz=>show ∀ b∈bitT _,fldB b; cases FSel.get .S x<;>exact fld_one (.inl (.inr (.inr (.inl (by decide)))))
 case Rg=>show ∀ b∈bitT _,fldB b; cases FSel.get .R x<;>exact fld_one (.inl (.inr (.inr (.inl (by decide)))))
 case aN=>exact h64 _
 case aM=>exact h64 _
 case pN=>exact fld_pr _
 case pM=>exact fld_pr _
 case far=>exact fld_app (fld_app (fld_app (fld_one (.inr (.inl rfl))) (fld_itoa _)) (fld_one (.inr (.inr (.inr (.inr (.inl rfl))))))) (fld_itoa _)
theorem pl_sound {l:List UInt8} (h:(decB (Lib.trimPrefix l [64])&&Lib.hasPrefix l [64])=true):64::Lib.itoa (decN (Lib.trimPrefix l [64]))=l:=by
 rw [Bool.and_eq_true] at h;rw [(dec_sound h.1).1];exact (hasP_eq h.2).symm
theorem pl_compl {n:Int} (h:isPl n=true):(decB (Lib.trimPrefix (64::Lib.itoa n) [64])&&Lib.hasPrefix (64::Lib.itoa n) [64])=true∧decN (Lib.trimPrefix (64::Lib.itoa n) [64])=n:=by
 obtain ⟨k,e,hk⟩:=isPl_nat h;have hd:=dec_compl (n:=n) (isNum_iff.2 ⟨by omega,by omega⟩);rw [trimP_cons,hasP_cons,hd.1,hd.2];exact ⟨rfl,rfl⟩
theorem pr_sound {l:List UInt8} (h:prB l=true):prT (prN l)=l:=by
 unfold prB at h;unfold prN;cases e:(Lib.trimPrefix l [33]==[45]) with
 | true =>
  rw [e] at h;simp only [cond_true] at h ⊢;have e2:=hasP_eq h;rw [beq_iff_eq.1 e] at e2;rw [e2]; rfl
 | false =>
  rw [e] at h;simp only [cond_false,Bool.and_eq_true,decide_eq_true_eq] at h ⊢;unfold prT;rw [if_neg (by omega),(dec_sound h.1.1).1];exact (hasP_eq h.1.2).symm
theorem itoa_ne45 {n:Int} (h:0≤n):(Lib.itoa n==[45])=false:=by
 refine beq_false (fun e=>?_);have e2:Lib.itoa n=Lib.decDigits n.toNat:=by unfold Lib.itoa; rw [if_neg (by omega)]
 have:=digits_dig n.toNat 45 (by rw [← e2,e]; exact List.mem_singleton.2 rfl);simp at this
theorem pr_compl {n:Int} (h:0≤n∧n≤100000∨n=-1):prB (prT n)=true∧prN (prT n)=n:=by
 rcases h with h | rfl
 ·have hd:=dec_compl (n:=n) (isNum_iff.2 ⟨by omega,by omega⟩);unfold prT;rw [if_neg (by omega)];unfold prB prN;rw [trimP_cons,hasP_cons,itoa_ne45 h.1,hd.1,hd.2];simp only [cond_false,Bool.true_and,decide_eq_true_eq];exact ⟨h.1,trivial⟩
 ·exact ⟨rfl,rfl⟩
theorem isPr_lt {no:Bool} {n:Int} (h:isPr no n=true):0≤n∧n≤100000∨n=-1:=by
 unfold isPr at h;simp only [Bool.and_eq_true,Bool.or_eq_true,decide_eq_true_eq,beq_iff_eq] at h;omega
theorem cut_split {s a b:List UInt8} {c:UInt8} (h:Lib.cut s [c]=(a,b,true)):s=a++c::b:=by
 rw [cut_one] at h
 induction s generalizing a with
 | nil=>simp [cutC] at h
 | cons x l ih =>
  unfold cutC at h;by_cases hx:(x==c)=true
  ·rw [if_pos hx] at h;simp only [Prod.mk.injEq,and_true] at h;rw [← h.1,← h.2,beq_iff_eq.1 hx]; rfl
  ·rw [if_neg hx] at h;simp only [Prod.mk.injEq] at h;obtain ⟨h1,h2,h3⟩:=h;rw [← h1];rw [List.cons_append,← ih (a:=(cutC c l).1) (by rw [← h2,← h3])]
theorem cut_app {b:List UInt8} {c:UInt8}:∀ {a:List UInt8},c ∉ a→Lib.cut (a++c::b) [c]=(a,b,true):=by
 intro a h;rw [cut_one]
 induction a with
 | nil=>simp [cutC]
 | cons x l ih =>
  rw [List.cons_append,cutC,beq_false (fun e=>h (by rw [e]; exact List.mem_cons_self ..)),if_neg (by decide),ih (fun hm=>h (List.mem_cons_of_mem _ hm))]
theorem far_sound {l:List UInt8} (h:frB l=true):farTx { (zeroI:In) with p:=decN (farC l).1,n:=decN (farC l).2.1 }=l:=by
 unfold frB at h;simp only [Bool.and_eq_true] at h;obtain ⟨⟨⟨h1,h2⟩,h3⟩,h4⟩:=h;unfold farTx;simp only;rw [(dec_sound h3).1,(dec_sound h4).1];have e:=cut_split (s:=Lib.trimPrefix l [33]) (a:=(farC l).1) (b:=(farC l).2.1) (c:=64) (by rw [← h2]; rfl);have e2:=hasP_eq h1;rw [e] at e2;refine Eq.trans ?_ e2.symm;simp
theorem far_compl {x:In} (h:isFar x=true):frB (farTx x)=true∧decN (farC (farTx x)).1=x.p∧decN (farC (farTx x)).2.1=x.n:=by
 unfold isFar at h;simp only [Bool.and_eq_true,decide_eq_true_eq] at h;have hp:=dec_compl (n:=x.p) (isNum_iff.2 ⟨by omega,by omega⟩);have hn:=dec_compl (n:=x.n) (isNum_iff.2 ⟨by omega,by omega⟩);have e:farTx x=33::(Lib.itoa x.p++64::Lib.itoa x.n):=by unfold farTx; simp
 have hc:farC (farTx x)=(Lib.itoa x.p,Lib.itoa x.n,true):=by
  unfold farC;rw [e,trimP_cons,cut_app (fun hm=>plain_no (itoa_plain _ _ hm) (by decide) rfl)]
 unfold frB;rw [hc,e,hasP_cons];simp only;rw [hp.1,hn.1];exact ⟨rfl,hp.2,hn.2⟩
theorem vl_sound {l:List UInt8} (h:vlB l=true):Lib.itoa (decN (pC l 0))++[44]++hexT (unN (pC l 1))=l:=by
 unfold vlB at h;simp only [Bool.and_eq_true,beq_iff_eq] at h;obtain ⟨⟨h0,h2⟩,h5⟩:=h;have e:Lib.itoa (decN (pC l 0))++[44]++hexT (unN (pC l 1))=Lib.join [Lib.itoa (decN (pC l 0)),hexT (unN (pC l 1))] [44]:=by simp [Lib.join_cons,Lib.joinTail]
 rw [e,(dec_sound h2).1,un_sound h5,← parts2 h0,join_parts]
theorem vl_compl {x:In} (h:isNum x.vn=true):vlB (vlTx x)=true∧decN (pC (vlTx x) 0)=x.vn∧unN (pC (vlTx x) 1)=x.vs:=by
 have e:=vl_parts x;have p0:pC (vlTx x) 0=Lib.itoa x.vn:=by unfold pC; rw [e]; rfl
 have p1:pC (vlTx x) 1=hexT x.vs:=by unfold pC; rw [e]; rfl
 unfold vlB;rw [p0,p1,(dec_compl h).1,(dec_compl h).2,(un_compl _).1,(un_compl _).2,e];exact ⟨rfl,rfl,rfl⟩
theorem prs_sound (f:Fl) (l:List UInt8) (x:In) (h:(f.prs l x).1=true) (hy:f.fr x):f.txt (f.prs l x).2=l:=by
 have ht:∀ s,tyB s=true→tyTx (tyV s)=s:=fun s h=>ty_sound h;have hb:((l==[48])||(l==[49]))=true→bitT (l==[49])=l:=by
  intro h;rw [Bool.or_eq_true,beq_iff_eq,beq_iff_eq] at h;rcases h with rfl | rfl<;>rfl
 cases f
 case D=>exact reg_sound h
 case A=>exact reg_sound h
 case B=>exact reg_sound h
 case N=>exact (dec_sound h).1
 case M=>exact (dec_sound h).1
 case P=>exact (dec_sound h).1
 case T=>exact ht _ h
 case U=>exact ht _ h
 case W=>exact ht _ h
 case V=>exact vl_sound h
 case L =>
  have hy:x.l=[]:=hy;have h:(lB l&&(psLs x.l (partsC 59 (lS l))).2)=true:=h;show [91]++Lib.join ((psLs x.l (partsC 59 (lS l))).1.map rgT) [59]++[93]=l;rw [hy,psLs_G] at h ⊢;exact lst_sound rgT (fun p hp=>sm_sound hp) h
 case Y =>
  have hy:x.y=[]:=hy;have h:(lB l&&(psG tyB tyV x.y (partsC 59 (lS l))).2)=true:=h;show [91]++Lib.join ((psG tyB tyV x.y (partsC 59 (lS l))).1.map tyTx) [59]++[93]=l;rw [hy] at h ⊢;exact lst_sound tyTx (fun p hp=>ty_sound hp) h
 case F =>
  have hy:x.f=[]:=hy;have h:(lB l&&(psG fmB fmV x.f (partsC 59 (lS l))).2)=true:=h;show [91]++Lib.join ((psG fmB fmV x.f (partsC 59 (lS l))).1.map fmTx) [59]++[93]=l;rw [hy] at h ⊢;exact lst_sound fmTx (fun p hp=>fm_sound hp) h
 case Sz=>exact hb h
 case Rg=>exact hb h
 case aN=>exact pl_sound h
 case aM=>exact pl_sound h
 case pN=>exact pr_sound h
 case pM=>exact pr_sound h
 case far=>exact far_sound h
theorem prs_compl (f:Fl) (x y:In) (h:f.fineB x=true) (hy:f.fr y):f.prs (f.txt x) y=(true,f.mv x y):=by
 have hr:∀ n:Int,isRg n=true→regB (regT n)=true∧regN (regT n)=n:=fun n h=>reg_compl h;have hd:∀ n:Int,isNum n=true→decB (Lib.itoa n)=true∧decN (Lib.itoa n)=n:=fun n h=>dec_compl h;have ht:∀ t:Ty,isTy t=true→tyB (tyTx t)=true∧tyV (tyTx t)=t:=fun t h=>by
  unfold isTy at h;simp only [Bool.and_eq_true] at h;exact ty_compl h.1.1.1 h.1.1.2 h.1.2
 have hb:∀ v:Bool,((bitT v==[48])||(bitT v==[49]))=true∧(bitT v==[49])=v:=by intro v; cases v<;>decide
 cases f
 case D =>
  show (regB (regT (Sel.get .D x)),Sel.set .D y (regN (regT (Sel.get .D x))))=_;rw [(hr _ h).1,(hr _ h).2]; rfl
 case A =>
  show (regB (regT (Sel.get .A x)),Sel.set .A y (regN (regT (Sel.get .A x))))=_;rw [(hr _ h).1,(hr _ h).2]; rfl
 case B =>
  show (regB (regT (Sel.get .B x)),Sel.set .B y (regN (regT (Sel.get .B x))))=_;rw [(hr _ h).1,(hr _ h).2]; rfl
 case N =>
  show (decB (Lib.itoa (Sel.get .N x)),Sel.set .N y (decN (Lib.itoa (Sel.get .N x))))=_;rw [(hd _ h).1,(hd _ h).2]; rfl
 case M =>
  show (decB (Lib.itoa (Sel.get .M x)),Sel.set .M y (decN (Lib.itoa (Sel.get .M x))))=_;rw [(hd _ h).1,(hd _ h).2]; rfl
 case P =>
  show (decB (Lib.itoa (Sel.get .P x)),Sel.set .P y (decN (Lib.itoa (Sel.get .P x))))=_;rw [(hd _ h).1,(hd _ h).2]; rfl
 case T =>
  show (tyB (tyTx (TSel.get .T x)),TSel.set .T y (tyV (tyTx (TSel.get .T x))))=_;rw [(ht _ h).1,(ht _ h).2]; rfl
 case U =>
  show (tyB (tyTx (TSel.get .U x)),TSel.set .U y (tyV (tyTx (TSel.get .U x))))=_;rw [(ht _ h).1,(ht _ h).2]; rfl
 case W =>
  show (tyB (tyTx (TSel.get .W x)),TSel.set .W y (tyV (tyTx (TSel.get .W x))))=_;rw [(ht _ h).1,(ht _ h).2]; rfl
 case V =>
  obtain ⟨v1,v2,v3⟩:=vl_compl (x:=x) (and_l h);show (vlB (vlTx x),({ y with vn:=decN (pC (vlTx x) 0),vs:=unN (pC (vlTx x) 1) }:In))=_;rw [v1,v2,v3]; rfl
 case L =>
  have hy:y.l=[]:=hy;have h1:∀ n∈x.l,fineI n=true:=List.all_eq_true.1 (and_l h);obtain ⟨e1,e2⟩:=lst_compl (B:=smB) (N:=regN) rgT x.l (fun a ha=>sm_compl (h1 a ha)) (of_decide_eq_true (and_r h)) (fun a ha hm=>by
   rw [rg_eq] at hm;unfold regT at hm;split at hm
   ·exact absurd (List.mem_singleton.1 hm) (by decide)
   ·rcases List.mem_cons.1 hm with hm | hm
    ·exact absurd hm (by decide)
    ·exact plain_no (itoa_plain _ _ hm) (by decide) rfl) (fun a ha=>by
   rw [rg_eq];unfold regT;split<;>exact List.cons_ne_nil _ _)
  show (lB _&&(psLs y.l (partsC 59 (lS _))).2,({ y with l:=(psLs y.l (partsC 59 (lS _))).1 }:In))=_;rw [hy,psLs_G];show (lB ([91]++Lib.join (x.l.map rgT) [59]++[93])&&(psG smB regN [] (partsC 59 (lS ([91]++Lib.join (x.l.map rgT) [59]++[93])))).2,({ y with l:=(psG smB regN [] (partsC 59 (lS ([91]++Lib.join (x.l.map rgT) [59]++[93])))).1 }:In))=_;rw [e1,e2]; rfl
 case Y =>
  have hy:y.y=[]:=hy;have h1:∀ n∈x.y,isTy n=true:=List.all_eq_true.1 (and_l h);obtain ⟨e1,e2⟩:=lst_compl (B:=tyB) (N:=tyV) tyTx x.y (fun a ha=>ht a (h1 a ha)) (of_decide_eq_true (and_r h)) (fun a ha hm=>no59_ty a hm) (fun a ha=>ty_ne a);show (lB ([91]++Lib.join (x.y.map tyTx) [59]++[93])&&(psG tyB tyV y.y (partsC 59 (lS ([91]++Lib.join (x.y.map tyTx) [59]++[93])))).2,({ y with y:=(psG tyB tyV y.y (partsC 59 (lS ([91]++Lib.join (x.y.map tyTx) [59]++[93])))).1 }:In))=_;rw [hy,e1,e2]; rfl
 case F =>
  have hy:y.f=[]:=hy;have h1:∀ n∈x.f,isFm n=true:=List.all_eq_true.1 (and_l h);obtain ⟨e1,e2⟩:=lst_compl (B:=fmB) (N:=fmV) fmTx x.f (fun a ha=>by
   have h:=h1 a ha;unfold isFm at h;simp only [Bool.and_eq_true] at h;exact fm_compl h.1.1.1 h.1.1.2 h.1.2) (of_decide_eq_true (and_r h)) (fun a ha hm=>no59_fm a hm) (fun a ha=>fm_ne a)
  show (lB ([91]++Lib.join (x.f.map fmTx) [59]++[93])&&(psG fmB fmV y.f (partsC 59 (lS ([91]++Lib.join (x.f.map fmTx) [59]++[93])))).2,({ y with f:=(psG fmB fmV y.f (partsC 59 (lS ([91]++Lib.join (x.f.map fmTx) [59]++[93])))).1 }:In))=_;rw [hy,e1,e2]; rfl
 case Sz =>
  show ((bitT (FSel.get .S x)==[48])||(bitT (FSel.get .S x)==[49]),FSel.set .S y (bitT (FSel.get .S x)==[49]))=_;rw [(hb _).1,(hb _).2]; rfl
 case Rg =>
  show ((bitT (FSel.get .R x)==[48])||(bitT (FSel.get .R x)==[49]),FSel.set .R y (bitT (FSel.get .R x)==[49]))=_;rw [(hb _).1,(hb _).2]; rfl
 case aN =>
  have hp:=pl_compl (n:=Sel.get .N x) h;show (decB (Lib.trimPrefix (64::Lib.itoa (Sel.get .N x)) [64])&&Lib.hasPrefix (64::Lib.itoa (Sel.get .N x)) [64],Sel.set .N y (decN (Lib.trimPrefix (64::Lib.itoa (Sel.get .N x)) [64])))=_;rw [hp.1,hp.2]; rfl
 case aM =>
  have hp:=pl_compl (n:=Sel.get .M x) h;show (decB (Lib.trimPrefix (64::Lib.itoa (Sel.get .M x)) [64])&&Lib.hasPrefix (64::Lib.itoa (Sel.get .M x)) [64],Sel.set .M y (decN (Lib.trimPrefix (64::Lib.itoa (Sel.get .M x)) [64])))=_;rw [hp.1,hp.2]; rfl
 case pN =>
  have hp:=pr_compl (n:=Sel.get .N x) (isPr_lt (no:=false) h);show (prB (prT (Sel.get .N x)),Sel.set .N y (prN (prT (Sel.get .N x))))=_;rw [hp.1,hp.2]; rfl
 case pM =>
  have hp:=pr_compl (n:=Sel.get .M x) (isPr_lt (no:=true) h);show (prB (prT (Sel.get .M x)),Sel.set .M y (prN (prT (Sel.get .M x))))=_;rw [hp.1,hp.2]; rfl
 case far =>
  obtain ⟨v1,v2,v3⟩:=far_compl (x:=x) h;show (frB (farTx x),({ y with p:=decN (farC (farTx x)).1,n:=decN (farC (farTx x)).2.1 }:In))=_;rw [v1,v2,v3]; rfl
end Go.Proofs
end
section
namespace Go.Proofs
open Go Go.SX
def Fl.key:Fl→List Nat
 | .D=>[1] | .A=>[2] | .B=>[3] | .N=>[19] | .M=>[20] | .P=>[21] | .T=>[4] | .U=>[9] | .W=>[14] | .V=>[22] | .L=>[25] | .Y=>[26] | .F=>[24]
 | .Sz=>[27] | .Rg=>[28] | .aN=>[19] | .aM=>[20] | .pN=>[19] | .pM=>[20] | .far=>[19,21]
def Fl.ind (f g:Fl):Bool:=f.key.all fun k=>!g.key.contains k
theorem txt_ind (f g:Fl) (l:List UInt8) (y:In) (h:f.ind g=true):f.txt (g.prs l y).2=f.txt y:=by
 cases f<;>cases g<;>first | exact absurd h (by decide) | rfl
theorem fr_ind (f g:Fl) (l:List UInt8) (y:In) (h:f.ind g=true) (hy:f.fr y):f.fr (g.prs l y).2:=by
 cases f<;>cases g<;>first | exact absurd h (by decide) | exact hy
theorem op_prs (g:Fl) (l:List UInt8) (y:In):(g.prs l y).2.op=y.op:=by cases g<;>rfl
theorem prsL_op:∀ (l:List Fl) (ws:List (List UInt8)) (y z:In),prsL l ws y=some z→z.op=y.op
 | [],ws,y,z,h=>by cases h; rfl
 | f::l,ws,y,z,h=>by
  rw [prsL_cons] at h;split at h
  ·rw [prsL_op l _ _ z h,op_prs]
  ·cases h
theorem prsL_keep (f:Fl):∀ (l:List Fl) (ws:List (List UInt8)) (y z:In),(∀ g∈l,f.ind g=true)→prsL l ws y=some z→f.txt z=f.txt y
 | [],ws,y,z,_,h=>by cases h; rfl
 | g::l,ws,y,z,hi,h=>by
  rw [prsL_cons] at h;split at h
  ·rw [prsL_keep f l _ _ z (fun g hg=>hi g (List.mem_cons_of_mem _ hg)) h,txt_ind f g _ _ (hi g (List.mem_cons_self ..))]
  ·cases h
def indL:List Fl→Bool
 | []=>true
 | f::l=>l.all (fun g=>f.ind g&&g.ind f)&&indL l
theorem prsL_sound:∀ (l:List Fl) (ws:List (List UInt8)) (y z:In),indL l=true→(∀ f∈l,f.fr y)→ws.length=l.length→prsL l ws y=some z→lineW z l=ws
 | [],[],y,z,_,_,_,_=>rfl
 | [],_::_,y,z,_,_,hl,_=>by simp at hl
 | f::l,[],y,z,_,_,hl,_=>by simp at hl
 | f::l,w::ws,y,z,hi,hy,hl,h=>by
  rw [prsL_cons] at h;simp only [List.getD_cons_zero,List.drop_succ_cons,List.drop_zero] at h;unfold indL at hi;rw [Bool.and_eq_true,List.all_eq_true] at hi;split at h
  ·rename_i ho;have h1:=prsL_keep f l ws _ z (fun g hg=>and_l (hi.1 g hg)) h;rw [prs_sound f w y ho (hy f (List.mem_cons_self ..))] at h1;have h2:=prsL_sound l ws _ z hi.2 (fun g hg=>fr_ind g f w y (and_r (hi.1 g hg)) (hy g (List.mem_cons_of_mem _ hg))) (by simpa using hl) h;show f.txt z::lineW z l=_;rw [h1,h2]
  ·cases h
theorem fr_mv2 (f g:Fl) (x y:In) (h:f.ind g=true) (hy:f.fr y):f.fr (g.mv x y):=by
 cases f<;>cases g<;>first | exact absurd h (by decide) | exact hy
theorem prsL_compl (x:In):∀ (l:List Fl) (y:In),indL l=true→(∀ f∈l,f.fineB x=true)→(∀ f∈l,f.fr y)→prsL l (lineW x l) y=some (mvL x l y)
 | [],y,_,_,_=>rfl
 | f::l,y,hi,hf,hy=>by
  unfold indL at hi;rw [Bool.and_eq_true,List.all_eq_true] at hi;have e:lineW x (f::l)=f.txt x::lineW x l:=rfl;rw [prsL_cons,e,List.getD_cons_zero,prs_compl f x y (hf f (List.mem_cons_self ..)) (hy f (List.mem_cons_self ..)),if_pos rfl,List.drop_succ_cons,List.drop_zero];exact prsL_compl x l (f.mv x y) hi.2 (fun g hg=>hf g (List.mem_cons_of_mem _ hg)) (fun g hg=>fr_mv2 g f x y (and_r (hi.1 g hg)) (hy g (List.mem_cons_of_mem _ hg)))
theorem ops_ind {o:Nat} (ho:isOp o=true):indL (opFls o)=true:=all_ops (p:=fun o=>indL (opFls o)) kq ho
theorem fr_empty (f:Fl) (n:Int):f.fr (emptyI n):=by cases f<;>first | rfl | trivial
theorem name_no (o:Nat) (ho:isOp o=true) (c:UInt8) (hc:c=32∨c=10):c ∉ opName o:=by
 have:=all_ops (p:=fun o=>!(opName o).contains 32&&!(opName o).contains 10) kq ho;simp only [Bool.and_eq_true,Bool.not_eq_true',List.contains_eq_mem,decide_eq_false_iff_not] at this;rcases hc with rfl | rfl
 ·exact this.1
 ·exact this.2
theorem fine_op {x:In} (h:cFine x=true):∃ o,isOp o=true∧x.op=(o:Int):=by
 by_cases hop:1≤x.op∧x.op≤38
 ·exact ⟨x.op.toNat,(isOp_iff _).2 (by omega),by omega⟩
 ·have:cFine x=false:=by unfold cFine opFind; rw [if_neg hop]
  rw [this] at h; cases h
theorem fnAll {x:In} {o:Nat} (ho:isOp o=true) (e:x.op=(o:Int)) (h:cFine x=true):(∀ f∈opFls o,f.fineB x=true)∧mvL x (opFls o) (emptyI (o:Int))=x:=by
 have h1:=(isOp_iff o).1 ho;have hfind:opFind x.op=some (opFls o):=by unfold opFind; rw [if_pos (by omega),e]; rfl
 have hc:cFine x=((opFls o).all (fun f=>f.fineB x)&&eqIn x (mvL x (opFls o) (emptyI x.op))):=by unfold cFine; rw [hfind]
 rw [hc] at h;refine ⟨List.all_eq_true.1 (and_l h),?_⟩;rw [← e];exact (eqIn_eq (and_r h)).symm
theorem line_words (x:In) (o:Nat) (ho:isOp o=true):splitC 32 (lineT x o)=opName o::lineW x (opFls o):=by
 refine split_join 32 _ (List.cons_ne_nil _ _) (fun w hw hm=>?_);rcases List.mem_cons.1 hw with rfl | hw
 ·exact name_no o ho 32 (.inl rfl) hm
 ·obtain ⟨f,_,rfl⟩:=List.mem_map.1 hw;exact fld_no (fld_txt f x _ hm) (.inl rfl) rfl
theorem read_some {s:List UInt8} {x:In} (h:cReadS (splitC 32 s)=some x):∃ o,isOp o=true∧x.op=(o:Int)∧cFine x=true∧lineT x o=s:=by
 unfold cReadS at h;cases hf:rdFind ((splitC 32 s).getD 0 []) with
 | none=>rw [hf] at h; cases h
 | some o =>
  rw [hf] at h;simp only at h;have hm:=List.mem_of_find?_eq_some hf;obtain ⟨i,hi,rfl⟩:=List.mem_map.1 hm;have hir:=List.mem_range.1 hi;have ho:isOp (i+1)=true:=(isOp_iff _).2 (by omega);have hnm:opName (i+1)=(splitC 32 s).getD 0 []:=by simpa using List.find?_some hf
  split at h
  ·rename_i hlen;cases hp:prsL (opFls (i+1)) ((splitC 32 s).drop 1) (emptyI ((i+1:Nat):Int)) with
   | none=>rw [hp] at h; cases h
   | some y =>
    rw [hp] at h;simp only at h;split at h
    ·rename_i hfine;cases h;refine ⟨i+1,ho,prsL_op _ _ _ _ hp,hfine,?_⟩;have hs:=prsL_sound _ _ _ _ (ops_ind ho) (fun f _=>fr_empty f _) (by rw [List.length_drop]; omega) hp;unfold lineT;rw [hs,hnm];have e:(splitC 32 s).getD 0 []::(splitC 32 s).drop 1=splitC 32 s:=by
      cases hc:splitC 32 s with
      | nil=>exact absurd hc (split_ne 32 s)
      | cons a l=>rfl
     rw [e,join_split]
    ·cases h
  ·cases h
theorem read_line {x:In} {o:Nat} (ho:isOp o=true) (e:x.op=(o:Int)) (h:cFine x=true):cReadS (splitC 32 (lineT x o))=some x:=by
 obtain ⟨h1,h2⟩:=fnAll ho e h;rw [line_words x o ho];unfold cReadS;rw [List.getD_cons_zero,rdFind_some ho];simp only;rw [if_pos (by simp [lineW]),List.drop_succ_cons,List.drop_zero,prsL_compl x (opFls o) _ (ops_ind ho) h1 (fun f _=>fr_empty f _),h2];simp only;rw [if_pos h]
theorem count_split (c:UInt8):∀ (k:Nat) (s:List UInt8),s.length<k→Lib.countFrom [c] k s+1=(splitC c s).length∧Lib.splitK [c] 0 (Lib.countFrom [c] k s) s=splitC c s
 | 0,s,h=>absurd h (Nat.not_lt_zero _)
 | k+1,s,h=>by
  have hge:=Lib.index_ge s [c];have hcut:=splitC_cut c s;rw [← cut_one] at hcut;unfold Lib.countFrom;by_cases hi:(Lib.index s [c]==-1)=true
  ·have hi':Lib.index s [c]=-1:=by simpa using hi
   rw [if_pos hi];have e:Lib.cut s [c]=(s,[],false):=by unfold Lib.cut; rw [hi']; rfl
   rw [hcut,e];exact ⟨rfl,rfl⟩
  ·have hi':0≤Lib.index s [c]:=by
    have:Lib.index s [c]≠-1:=by simpa using hi
    omega
   have e:Lib.cut s [c]=(s.take (Lib.index s [c]).toNat,s.drop ((Lib.index s [c]).toNat+1),true):=by unfold Lib.cut; rw [if_pos hi']; rfl
   have hne:s≠[]:=by
    rintro rfl;simp [Lib.index] at hi
   have hl:(s.drop ((Lib.index s [c]).toNat+1)).length<k:=by
    rw [List.length_drop];have:0<s.length:=List.length_pos_iff.2 hne;omega
   obtain ⟨h1,h2⟩:=count_split c k (s.drop ((Lib.index s [c]).toNat+1)) hl;rw [if_neg hi,hcut,e];simp only [if_true,List.length_cons,List.length_nil,Nat.zero_add];refine ⟨by omega,?_⟩;rw [Nat.add_comm 1,Lib.splitK,if_neg hi];simp only [Nat.add_zero,List.length_cons,List.length_nil,Nat.zero_add];rw [h2]
theorem splS_eq (c:UInt8) (s:List UInt8):splS s [c]=splitC c s∧(splitC c s).length=Lib.countB ⟨s.toArray⟩ ⟨[c].toArray⟩+1:=by
 obtain ⟨h1,h2⟩:=count_split c (s.length+1) s (Nat.lt_succ_self _);have e:Lib.countB ⟨s.toArray⟩ ⟨[c].toArray⟩=Lib.countFrom [c] (s.length+1) s:=by
  unfold Lib.countB Lib.count;simp
 refine ⟨?_,by rw [e]; exact h1.symm⟩;unfold splS;rw [Lib.splitB_data,e];simpa using h2
end Go.Proofs
end
section
namespace Go.Proofs
open Go Go.SX
def rRegN (s:List UInt8):Int:=if (s==[45])=true then -1 else rInt (s.drop 1)
def rAt (c:UInt8) (s:List UInt8) (i:Nat):List UInt8:=(splitC c s).getD i []
def rTyV (s:List UInt8):Ty:=⟨rInt (rAt 44 s 0),rInt (rAt 44 s 1),rInt (rAt 44 s 2),rAt 44 s 3==[49],unhR ((rAt 44 s 4).drop 1)⟩
def rFmV (s:List UInt8):Fm:=⟨rInt (rAt 44 s 0),rInt (rAt 44 s 1),rInt (rAt 44 s 2),unhR ((rAt 44 s 3).drop 1)⟩
def rMid (s:List UInt8):List UInt8:=(s.take (s.length - 1)).drop 1
def rLst {α:Type} (N:List UInt8→α) (l:List α) (s:List UInt8):List α:=if s.length≤2 then l else l++(splitC 59 (rMid s)).map N
def Fl.tkn (f:Fl) (s:List UInt8) (y:In):In:=match f with
 | .D=>Sel.set .D y (rRegN s)
 | .A=>Sel.set .A y (rRegN s)
 | .B=>Sel.set .B y (rRegN s)
 | .N=>Sel.set .N y (rInt s)
 | .M=>Sel.set .M y (rInt s)
 | .P=>Sel.set .P y (rInt s)
 | .T=>TSel.set .T y (rTyV s)
 | .U=>TSel.set .U y (rTyV s)
 | .W=>TSel.set .W y (rTyV s)
 | .V=>{ y with vn:=rInt (rAt 44 s 0),vs:=unhR ((rAt 44 s 1).drop 1) }
 | .L=>{ y with l:=rLst rRegN y.l s }
 | .Y=>{ y with y:=rLst rTyV y.y s }
 | .F=>{ y with f:=rLst rFmV y.f s }
 | .Sz=>FSel.set .S y (s==[49])
 | .Rg=>FSel.set .R y (s==[49])
 | .aN=>Sel.set .N y (rInt (s.drop 1))
 | .aM=>Sel.set .M y (rInt (s.drop 1))
 | .pN=>Sel.set .N y (rInt (s.drop 1))
 | .pM=>Sel.set .M y (if (s==[33,45])=true then -1 else rInt (s.drop 1))
 | .far=>{ y with p:=rInt (rAt 64 (s.drop 1) 0),n:=rInt (rAt 64 (s.drop 1) 1) }
def tknL:List Fl→List (List UInt8)→In→In
 | [],_,x=>x
 | f::l,ws,x=>tknL l (ws.drop 1) (f.tkn (ws.getD 0 []) x)
def rReadS (s:List UInt8):Option In:=match rdFind ((splitC 32 s).getD 0 []) with
 | none=>none
 | some o=>if (splitC 32 s).length=(opFls o).length+1 then
   (if (cFine (tknL (opFls o) ((splitC 32 s).drop 1) (emptyI (o:Int)))&&(lineT (tknL (opFls o) ((splitC 32 s).drop 1) (emptyI (o:Int))) o==s))=true then some (tknL (opFls o) ((splitC 32 s).drop 1) (emptyI (o:Int))) else none)
  else none
theorem num_b {n:Int} (h:isNum n=true):-4294967296≤n∧n≤4294967296:=by have:=isNum_iff.1 h; omega
theorem rReg_T {n:Int} (h:isRg n=true):rRegN (regT n)=n:=by
 have h1:=isRg_iff h;unfold regT rRegN;by_cases hn:n<0
 ·have:n=-1:=by omega
  subst this; rfl
 ·rw [if_neg hn,beq_false (show (114::Lib.itoa n:List UInt8)≠[45] by intro e; cases e),if_neg (by decide)];exact rInt_itoa (by omega)
theorem rTy_T {t:Ty} (h:isTy t=true):rTyV (tyTx t)=t:=by
 unfold isTy at h;simp only [Bool.and_eq_true] at h;have e:splitC 44 (tyTx t)=_:=(partsC_ne (ty_ne t)).symm.trans (ty_parts t);unfold rTyV rAt;rw [e];show (⟨rInt (Lib.itoa t.k),rInt (Lib.itoa t.p),rInt (Lib.itoa t.q),bitU t.v==[49],unhR ((hexT t.s).drop 1)⟩:Ty)=t;rw [rInt_itoa (num_b h.1.1.1),rInt_itoa (num_b h.1.1.2),rInt_itoa (num_b h.1.2),(bit_compl t.v).2];show (⟨t.k,t.p,t.q,t.v,unhR (hexL t.s)⟩:Ty)=t;rw [unhR_hex]
theorem rFm_T {t:Fm} (h:isFm t=true):rFmV (fmTx t)=t:=by
 unfold isFm at h;simp only [Bool.and_eq_true] at h;have e:splitC 44 (fmTx t)=_:=(partsC_ne (fm_ne t)).symm.trans (fm_parts t);unfold rFmV rAt;rw [e];show (⟨rInt (Lib.itoa t.k),rInt (Lib.itoa t.w),rInt (Lib.itoa t.d),unhR ((hexT t.s).drop 1)⟩:Fm)=t;rw [rInt_itoa (num_b h.1.1.1),rInt_itoa (num_b h.1.1.2),rInt_itoa (num_b h.1.2)];show (⟨t.k,t.w,t.d,unhR (hexL t.s)⟩:Fm)=t;rw [unhR_hex]
theorem rLst_T {α:Type} {N:List UInt8→α} (tx:α→List UInt8) (m:List α) (hm:∀ a∈m,N (tx a)=a) (h59:∀ a∈m,(59:UInt8) ∉ tx a) (hne:∀ a∈m,tx a≠[]) :
  rLst N [] ([91]++Lib.join (m.map tx) [59]++[93])=m:=by
 cases m with
 | nil=>rfl
 | cons a m =>
  have hp:=parts_join 59 ((a::m).map tx) (fun w hw=>by obtain ⟨a,ha,rfl⟩:=List.mem_map.1 hw; exact h59 a ha) (fun w hw=>by obtain ⟨a,ha,rfl⟩:=List.mem_map.1 hw; exact hne a ha);have hj:Lib.join ((a::m).map tx) [59]≠[]:=by
   intro e;rw [e] at hp;cases hp
  have hj2:0<(Lib.join ((a::m).map tx) [59]).length:=List.length_pos_iff.2 hj;rw [partsC_ne hj] at hp;have hmid:rMid ([91]++Lib.join ((a::m).map tx) [59]++[93])=Lib.join ((a::m).map tx) [59]:=by
   unfold rMid;rw [List.length_append,List.length_singleton,Nat.add_sub_cancel,List.take_left];rfl
  unfold rLst;rw [if_neg (by simp only [List.length_append,List.length_cons,List.length_nil]; omega),hmid,hp,List.nil_append,List.map_map];refine (List.map_congr_left fun b hb=>?_).trans (List.map_id _);exact hm b hb
theorem no59_rg (n:Int):(59:UInt8) ∉ rgT n:=by
 intro hm;rw [rg_eq] at hm;unfold regT at hm;split at hm
 ·exact absurd (List.mem_singleton.1 hm) (by decide)
 ·rcases List.mem_cons.1 hm with hm | hm
  ·exact absurd hm (by decide)
  ·exact plain_no (itoa_plain _ _ hm) (by decide) rfl
theorem rg_ne (n:Int):rgT n≠[]:=by
 rw [rg_eq];unfold regT;split<;>exact List.cons_ne_nil _ _
theorem tkn_compl (f:Fl) (x y:In) (h:f.fineB x=true) (hy:f.fr y):f.tkn (f.txt x) y=f.mv x y:=by
 have hp:∀ c n,((c::Lib.itoa n:List UInt8).drop 1)=Lib.itoa n:=fun c n=>rfl;cases f
 case D=>exact congrArg (Sel.set .D y) (rReg_T (n:=Sel.get .D x) h)
 case A=>exact congrArg (Sel.set .A y) (rReg_T (n:=Sel.get .A x) h)
 case B=>exact congrArg (Sel.set .B y) (rReg_T (n:=Sel.get .B x) h)
 case N=>exact congrArg (Sel.set .N y) (rInt_itoa (num_b (n:=Sel.get .N x) h))
 case M=>exact congrArg (Sel.set .M y) (rInt_itoa (num_b (n:=Sel.get .M x) h))
 case P=>exact congrArg (Sel.set .P y) (rInt_itoa (num_b (n:=Sel.get .P x) h))
 case T=>exact congrArg (TSel.set .T y) (rTy_T (t:=TSel.get .T x) h)
 case U=>exact congrArg (TSel.set .U y) (rTy_T (t:=TSel.get .U x) h)
 case W=>exact congrArg (TSel.set .W y) (rTy_T (t:=TSel.get .W x) h)
 case V =>
  have e:splitC 44 (vlTx x)=_:=(partsC_ne (show vlTx x≠[] from List.append_ne_nil_of_right_ne_nil _ (List.cons_ne_nil _ _))).symm.trans (vl_parts x);show ({ y with vn:=rInt (rAt 44 (vlTx x) 0),vs:=unhR ((rAt 44 (vlTx x) 1).drop 1) }:In)=_;unfold rAt;rw [e];show ({ y with vn:=rInt (Lib.itoa x.vn),vs:=unhR (hexL x.vs) }:In)=_;rw [rInt_itoa (num_b (and_l h)),unhR_hex];rfl
 case L =>
  have hy:y.l=[]:=hy;have h1:∀ n∈x.l,fineI n=true:=List.all_eq_true.1 (and_l h);show ({ y with l:=rLst rRegN y.l ([91]++Lib.join (x.l.map rgT) [59]++[93]) }:In)={ y with l:=x.l };rw [hy,rLst_T rgT x.l (fun a ha=>by rw [rg_eq]; exact rReg_T (and_r (h1 a ha))) (fun a _=>no59_rg a) (fun a _=>rg_ne a)]
 case Y =>
  have hy:y.y=[]:=hy;have h1:∀ n∈x.y,isTy n=true:=List.all_eq_true.1 (and_l h);show ({ y with y:=rLst rTyV y.y ([91]++Lib.join (x.y.map tyTx) [59]++[93]) }:In)={ y with y:=x.y };rw [hy,rLst_T tyTx x.y (fun a ha=>rTy_T (h1 a ha)) (fun a _=>no59_ty a) (fun a _=>ty_ne a)]
 case F =>
  have hy:y.f=[]:=hy;have h1:∀ n∈x.f,isFm n=true:=List.all_eq_true.1 (and_l h);show ({ y with f:=rLst rFmV y.f ([91]++Lib.join (x.f.map fmTx) [59]++[93]) }:In)={ y with f:=x.f };rw [hy,rLst_T fmTx x.f (fun a ha=>rFm_T (h1 a ha)) (fun a _=>no59_fm a) (fun a _=>fm_ne a)]
 case Sz =>
  show FSel.set .S y (bitT (FSel.get .S x)==[49])=FSel.set .S y (FSel.get .S x);cases FSel.get .S x<;>rfl
 case Rg =>
  show FSel.set .R y (bitT (FSel.get .R x)==[49])=FSel.set .R y (FSel.get .R x);cases FSel.get .R x<;>rfl
 case aN =>
  obtain ⟨k,e,hk⟩:=isPl_nat (n:=Sel.get .N x) h;exact congrArg (Sel.set .N y) (rInt_itoa (n:=Sel.get .N x) (by omega))
 case aM =>
  obtain ⟨k,e,hk⟩:=isPl_nat (n:=Sel.get .M x) h;exact congrArg (Sel.set .M y) (rInt_itoa (n:=Sel.get .M x) (by omega))
 case pN =>
  have h':isPr false (Sel.get .N x)=true:=h;have hn:0≤Sel.get .N x:=by
   unfold isPr at h';simp at h';omega
  show Sel.set .N y (rInt ((prT (Sel.get .N x)).drop 1))=Sel.set .N y (Sel.get .N x);unfold prT;rw [if_neg (by omega),hp,rInt_itoa (by have:=isPr_lt h'; omega)]
 case pM =>
  have h':isPr true (Sel.get .M x)=true:=h;show Sel.set .M y (if (prT (Sel.get .M x)==[33,45])=true then -1 else rInt ((prT (Sel.get .M x)).drop 1))=Sel.set .M y (Sel.get .M x);rcases isPr_lt h' with hn | hn
  ·have e:prT (Sel.get .M x)=33::Lib.itoa (Sel.get .M x):=by unfold prT; rw [if_neg (by omega)]
   rw [e,if_neg (fun e2=>by
    have e3:Lib.itoa (Sel.get .M x)=[45]:=by simpa using e2
    have e4:=itoa_ne45 hn.1;rw [e3] at e4;cases e4),hp,rInt_itoa (by omega)]
  ·rw [hn]; rfl
 case far =>
  have h':=h;change isFar x=true at h';unfold isFar at h';simp only [Bool.and_eq_true,decide_eq_true_eq] at h';have no64:∀ n:Int,(64:UInt8) ∉ Lib.itoa n:=fun n hm=>plain_no (itoa_plain _ _ hm) (by decide) rfl;have e:(farTx x).drop 1=Lib.itoa x.p++64::Lib.itoa x.n:=by unfold farTx; simp
  have e2:splitC 64 ((farTx x).drop 1)=[Lib.itoa x.p,Lib.itoa x.n]:=by rw [e,split_app 64 _ _ (no64 _),split_one 64 _ (no64 _)]
  show ({ y with p:=rInt (rAt 64 ((farTx x).drop 1) 0),n:=rInt (rAt 64 ((farTx x).drop 1) 1) }:In)=_;unfold rAt;rw [e2];show ({ y with p:=rInt (Lib.itoa x.p),n:=rInt (Lib.itoa x.n) }:In)=_;rw [rInt_itoa (by omega),rInt_itoa (by omega)];rfl
theorem tknL_compl (x:In):∀ (l:List Fl) (y:In),indL l=true→(∀ f∈l,f.fineB x=true)→(∀ f∈l,f.fr y)→tknL l (lineW x l) y=mvL x l y
 | [],y,_,_,_=>rfl
 | f::l,y,hi,hf,hy=>by
  unfold indL at hi;rw [Bool.and_eq_true,List.all_eq_true] at hi;have e:lineW x (f::l)=f.txt x::lineW x l:=rfl;rw [e,tknL,List.getD_cons_zero,tkn_compl f x y (hf f (List.mem_cons_self ..)) (hy f (List.mem_cons_self ..)),List.drop_succ_cons,List.drop_zero];exact tknL_compl x l (f.mv x y) hi.2 (fun g hg=>hf g (List.mem_cons_of_mem _ hg)) (fun g hg=>fr_mv2 g f x y (and_r (hi.1 g hg)) (hy g (List.mem_cons_of_mem _ hg)))
theorem op_tkn (g:Fl) (l:List UInt8) (y:In):(g.tkn l y).op=y.op:=by cases g<;>rfl
theorem tknL_op:∀ (l:List Fl) (ws:List (List UInt8)) (y:In),(tknL l ws y).op=y.op
 | [],_,_=>rfl
 | f::l,ws,y=>by rw [tknL,tknL_op l,op_tkn]
theorem rRead_eq (s:List UInt8):rReadS s=cReadS (splitC 32 s):=by
 cases h:cReadS (splitC 32 s) with
 | some x =>
  obtain ⟨o,ho,e,hf,rfl⟩:=read_some h;obtain ⟨h1,h2⟩:=fnAll ho e hf;have hw:=line_words x o ho;have ht:tknL (opFls o) ((splitC 32 (lineT x o)).drop 1) (emptyI (o:Int))=x:=by
   rw [hw,List.drop_succ_cons,List.drop_zero,tknL_compl x (opFls o) _ (ops_ind ho) h1 (fun f _=>fr_empty f _),h2]
  unfold rReadS;rw [show (splitC 32 (lineT x o)).getD 0 []=opName o by rw [hw]; rfl,rdFind_some ho];simp only;rw [if_pos (by rw [hw]; simp [lineW]),ht,if_pos (by rw [hf]; simp)]
 | none =>
  unfold rReadS;cases hf:rdFind ((splitC 32 s).getD 0 []) with
  | none=>rfl
  | some o =>
   simp only;have hm:=List.mem_of_find?_eq_some hf;obtain ⟨i,hi,rfl⟩:=List.mem_map.1 hm;have hir:=List.mem_range.1 hi;have ho:isOp (i+1)=true:=(isOp_iff _).2 (by omega);split
   ·split
    ·rename_i hc;rw [Bool.and_eq_true,beq_iff_eq] at hc;have:=read_line (x:=tknL (opFls (i+1)) ((splitC 32 s).drop 1) (emptyI ((i+1:Nat):Int))) ho (tknL_op _ _ _) hc.1;rw [hc.2,h] at this;cases this
    ·rfl
   ·rfl
end Go.Proofs
end
section
namespace Go.Proofs
open Go Go.SX
set_option maxRecDepth 10000
def Ext (X Y:RIn):Prop:=∃ t,Y.s=X.s++t
def Keeps {α:Type} (g h:RSt→α×RSt):Prop:=∀ r,(g r).2.bad=false→r.bad=false∧h r=g r
section
variable {X Y:RIn} (hE:Ext X Y)
include hE
omit hE in
theorem ext_list {α:Type} {g h:RSt→α×RSt} (hk:Keeps g h):∀ k,Keeps (rdList g k) (rdList h k)
 | 0=>fun r hr=>⟨hr,rfl⟩
 | k+1=>fun r hr=>by
  have hr':(rdList g k (g r).2).2.bad=false:=hr;obtain ⟨h2,e2⟩:=ext_list hk k _ hr';obtain ⟨h1,e1⟩:=hk r h2;refine ⟨h1,?_⟩;show ((h r).1::(rdList h k (h r).2).1,(rdList h k (h r).2).2)=((g r).1::(rdList g k (g r).2).1,(rdList g k (g r).2).2);rw [e1,e2]
omit hE in
theorem rel_bad {rl:List (Int×Int)} {v:Int} {r:RSt} (h:(rdRel rl v r).2.bad=false):r.bad=false:=by
 unfold rdRel at h;split at h
 ·exact h
 ·cases h
omit hE in
theorem rdL_bad {rl:List (Int×Int)} {X:RIn}:∀ (l:List Fl) (s:RSt×In),s.1.bad=true→rdL rl X l s=s
 | [],s,_=>rfl
 | f::l,s,h=>by
  show rdL rl X l (if s.1.bad=true then s else f.rd rl X s.1 s.2)=s;rw [if_pos h];exact rdL_bad l s h
end
def be (l:List UInt8):Nat:=l.foldl (fun n c=>256*n+c.toNat) 0
theorem keep {α:Type} {h:RSt→α×RSt} (k:Keeps h h) {r:RSt} (hb:r.bad=true):(h r).2.bad=true:=by
 cases e:(h r).2.bad with
 | true=>rfl
 | false=>have:=(k r e).1; rw [hb] at this; cases this
end Go.Proofs
end
section
namespace Go.Proofs
open Go Go.SX
end Go.Proofs
end
section
namespace Go.Proofs
open Go Go.SX
def lnT (x:In):List UInt8:=lineT x x.op.toNat
theorem lnT_of {x:In} {o:Nat} (e:x.op=(o:Int)):lnT x=lineT x o:=by unfold lnT; rw [e]; rfl
end Go.Proofs
end
section
namespace Go.Proofs
open Go Go.SX
set_option maxRecDepth 10000
theorem wd_len (s:List UInt8) (i:Nat):((splitC 32 s).getD i []).length≤s.length:=by
 rw [List.getD];cases e:(splitC 32 s)[i]? with
 | none=>simp
 | some p=>exact splitC_elm 32 s p (List.mem_of_getElem? e)
theorem cReadA (K:Kc) (hK:K.ok) (s:List UInt8) (hs:s.length<1900000) :
  CallsK Tryz.prog 64 [.agg [.val (.map (some K.gF)),.val (.map (some K.gO))],.one (.str s)] (stP [cdP K,glbP]) (rdP (splitC 32 s)) rdV (fun y=>psOf (lsP y.1 y.2.1)) :=
 cRead K hK s (splitC 32 s) (splS_eq 32 s).1 (by omega) (splS_eq 32 s).2 (by have:=splitC_len 32 s; omega) (fun o _ _ i _=>by
  unfold Fl.pok;have:=wd_len s (i+1);exact decide_eq_true (by omega))
theorem tokAll {x:In} {o:Nat} (ho:isOp o=true) (e:x.op=(o:Int)) (h:cFine x=true):(opFls o).all (fun f=>f.tok x)=true :=
 List.all_eq_true.2 fun f hf=>(fnAll ho e h).1 f hf
theorem cLineA (K:Kc) (hK:K.ok) (x:In) (A:IA) (hx:x.okL) (h:cFine x=true) :
  CallsK Tryz.prog 61 [.agg [.val (.map (some K.gF)),.val (.map (some K.gO))],.agg (inV x A)] (stP (cdP K::glbP::lsP x A)) (fun _:Unit=>True) (fun _=>.v (.one (.str (lnT x)))) (fun _=>stP []):=by
 obtain ⟨o,ho,e⟩:=fine_op h;rw [lnT_of e];exact cLine K hK x A hx o ho e (tokAll ho e h)
def txA (x:In):List UInt8×Int:=bif cFine x then (lnT x,0) else ([],170)
def prO:Option In→In×Int
 | some x=>(x,0)
 | none=>(zeroI,222)
def prA (s:List UInt8):In×Int:=prO (cReadS (splitC 32 s))
theorem xTextA (x:In) (A:IA) (hx:x.okL):CallsK Tryz.prog 22 [.agg (inV x A)] (stP (glbP::lsP x A)) (fun _:Unit=>True) (fun _=>.tup [.one (.str (txA x).1),.one (.int .i64 (txA x).2)]) (fun _=>noF):=by
 obtain ⟨b,hb⟩:∃ b,cFine x=b:=⟨_,rfl⟩;have e:txA x=bif b then (lnT x,0) else ([],170):=by unfold txA; rw [hb]
 rw [e];refine CallsK.m true Tryz.func22 (fun ρ w=>?_);refine V.q ?_;refine V.c [(0,false)] cNew0 (fun K hK=>?_);refine V.q ?_;refine V.c [(0,true),(2,false),(3,false),(4,false)] (cFineK K hK x A hx) (fun _ _=>?_);refine V.q ?_;cases b with
 | true =>
  refine V.kn 9 (!(cFine x)) false (by rw [hb]; rfl) ?_;refine V.q ?_;refine V.c [(0,true),(1,false),(2,false),(3,false),(4,false)] (cLineA K hK x A hx hb) (fun _ _=>?_);refine V.q ?_;exact V.z
 | false =>
  refine V.kn 9 (!(cFine x)) true (by rw [hb]; rfl) ?_;refine V.q ?_;exact V.z
theorem xParseA (s:List UInt8) (hs:s.length<1900000) :
  CallsK Tryz.prog 24 [.one (.str s)] glbF (fun y:In×IA=>y.1=(prA s).1) (fun y=>.tup [.agg (inV y.1 y.2),.one (.int .i64 (prA s).2)]) (fun y=>psOf (lsP y.1 y.2)):=by
 obtain ⟨r,hr⟩:∃ r,cReadS (splitC 32 s)=r:=⟨_,rfl⟩;have e:prA s=prO r:=by unfold prA; rw [hr]
 rw [e];refine CallsK.m true Tryz.func24 (fun ρ w=>?_);refine V.q ?_;refine V.c [(0,false)] cNew0 (fun K hK=>?_);refine V.q ?_;refine V.c [(0,true),(1,false)] (cReadA K hK s hs) (fun y hy=>?_);unfold rdP at hy;rw [hr] at hy;refine V.q ?_;cases r with
 | some x =>
  refine V.kn 13 (!y.2.2) false (by rw [hy.2]; rfl) ?_;refine V.q ?_;exact V.e ((y.1,y.2.1):In×IA) [(0,true),(1,true),(2,true)] hy.1
 | none =>
  refine V.kn 13 (!y.2.2) true (by rw [show y.2.2=false from hy]; rfl) ?_;refine V.q ?_;refine V.soft 0 ?_;refine V.persNew [] [] (rowP (rowF zeroI IA0)) kq kq (fun k hk=>absurd hk ((row_none (R:=rowF zeroI IA0) rfl rfl rfl).1 k)) (fun w _=>(row_none (R:=rowF zeroI IA0) rfl rfl rfl).2 w) (rowP_stab _) ?_;refine V.persNew [] [] (rowP (rowI zeroI IA0)) kq kq (fun k hk=>absurd hk ((row_none (R:=rowI zeroI IA0) rfl rfl rfl).1 k)) (fun w _=>(row_none (R:=rowI zeroI IA0) rfl rfl rfl).2 w) (rowP_stab _) ?_;refine V.persNew [] [] (rowP (rowT zeroI IA0)) kq kq (fun k hk=>absurd hk ((row_none (R:=rowT zeroI IA0) rfl rfl rfl).1 k)) (fun w _=>(row_none (R:=rowT zeroI IA0) rfl rfl rfl).2 w) (rowP_stab _) ?_;exact V.e ((zeroI,IA0):In×IA) [(2,true),(1,true),(0,true)] rfl
end Go.Proofs
end
section
namespace Go.SX
def setl (g:Nat) (b:Bool):RV→RV
 | .grd g' pol c x=>match Nat.beq g' g with
  | true=>match pol,b with
   | true,true | false,false=>.v x
   | _,_=>.v (.one (.val undef))
  | false=>.grd g' pol c x
 | v=>v
def settleS (g:Nat) (b:Bool):List (Nat×RV)→List (Nat×RV)
 | []=>[]
 | (k,v)::l=>(k,setl g b v)::settleS g b l
theorem look_settleS {g:Nat} {b:Bool}:∀ {l:List (Nat×RV)} {i:Nat},look (settleS g b l) i=(look l i).map (setl g b)
 | [],i=>rfl
 | (k,v)::l,i=>by
  simp only [settleS,look];cases Nat.beq k i with
  | true=>rfl
  | false=>exact look_settleS
def lessNat (g:Nat):List Nat→List Nat
 | []=>[]
 | k::l=>match Nat.beq k g with
  | true=>lessNat g l
  | false=>k::lessNat g l
theorem hasNat_less {g i:Nat}:∀ {l:List Nat},hasNat l i=true→g≠i→hasNat (lessNat g l) i=true
 | [],h,_=>h
 | k::l,h,hn=>by
  simp only [lessNat];simp only [hasNat] at h;cases e:Nat.beq k g with
  | true =>
   have:=Nat.eq_of_beq_eq_true e;subst this;cases e2:Nat.beq k i with
   | true=>exact absurd (Nat.eq_of_beq_eq_true e2) hn
   | false=>rw [e2] at h; exact hasNat_less h hn
  | false =>
   simp only [hasNat];cases e2:Nat.beq k i with
   | true=>rfl
   | false=>rw [e2] at h; exact hasNat_less h hn
variable {C:Ctx}
theorem V.settle (g:Nat) (b e:Bool) {c:Cfg} (hl:look c.st.slots g=some (.v (.one (.sb e)))) (he:e=b)
  (h:V C ⟨c.todo,{ c.st with slots:=upd (settleS g b c.st.slots) g (.v (.one (.bool b))),gs:=lessNat g c.st.gs }⟩):V C c:=by
 subst he;intro ρ a w hS;refine h ρ a w ⟨hS.n,fun i v hv=>?_,fun i g' pol c' x hv=>?_,hS.heap,hS.inj,hS.lt,hS.defers,hS.chg,hS.rows,hS.rowsD,hS.pers,hS.fix⟩
 ·simp only [look_upd] at hv;by_cases ei:g=i
  ·rw [if_pos ei] at hv;cases hv;subst ei;exact ⟨(hS.slots g _ hl).1,trivial⟩
  ·rw [if_neg ei,look_settleS] at hv;cases h0:look c.st.slots i with
   | none=>rw [h0] at hv; cases hv
   | some v0 =>
    rw [h0] at hv;cases hv;obtain ⟨k1,k2⟩:=hS.slots i v0 h0;cases v0 with
    | grd g' pol c' x =>
     simp only [setl];cases eg:Nat.beq g' g with
     | false=>exact ⟨k1,k2⟩
     | true =>
      have:=Nat.eq_of_beq_eq_true eg;subst this;have k3:=(hS.grds i g' pol c' x h0).2;rw [hl] at k3;cases k3;cases pol<;>cases e
      ·exact ⟨k1,k2 rfl⟩
      ·exact ⟨k1,trivial⟩
      ·exact ⟨k1,trivial⟩
      ·exact ⟨k1,k2 rfl⟩
    | v x=>exact ⟨k1,k2⟩
    | _=>exact ⟨k1,k2⟩
 ·simp only [look_upd] at hv ⊢;by_cases ei:g=i
  ·rw [if_pos ei] at hv; cases hv
  ·rw [if_neg ei,look_settleS] at hv;cases h0:look c.st.slots i with
   | none=>rw [h0] at hv; cases hv
   | some v0 =>
    rw [h0] at hv;cases v0 with
    | grd g2 pol2 c2 x2 =>
     simp only [Option.map_some,setl] at hv;cases eg:Nat.beq g2 g with
     | true=>rw [eg] at hv; cases pol2<;>cases e<;>cases hv
     | false =>
      rw [eg] at hv;cases hv;obtain ⟨k1,k2⟩:=hS.grds i g' pol c' x h0;have hne:g≠g':=fun e'=>by subst e'; rw [Nat.beq_refl] at eg; cases eg
      refine ⟨hasNat_less k1 hne,?_⟩;rw [if_neg hne,look_settleS,k2];rfl
    | v x=>cases hv
    | _=>cases hv
end Go.SX
end
section
namespace Go.Proofs
open Go Go.SX
set_option maxRecDepth 10000
noncomputable def aIn:Con Tryz.prog:=Con.auto Tryz.func81 false [] [] kq kq
noncomputable def aNumR:Con Tryz.prog:=Con.auto Tryz.func55 false [⟨aIn,[]⟩] [] kq kq
noncomputable def aTypR:Con Tryz.prog:=Con.auto Tryz.func119 true [⟨aNumR,[]⟩] [] kq kq
noncomputable def aFmtR:Con Tryz.prog:=Con.auto Tryz.func120 true [⟨aNumR,[]⟩] [] kq kq
def Fl.ch:Fl→UInt8
 | .D=>68 | .A=>65 | .B=>66 | .N=>78 | .M=>77 | .P=>80 | .T=>84 | .U=>85 | .W=>87 | .V=>86 | .L=>76 | .Y=>89 | .F=>70 | .Sz=>83 | .Rg=>82
 | .aN=>110 | .aM=>109 | .pN=>99 | .pM=>111 | .far=>103
def opRef (o:Nat):List UInt8:=(opFls o).map Fl.ch
def rfT:List (List UInt8×List UInt8):=(List.range 39).map fun o=>if o=0 then ([],[]) else (opName o,opRef o)
def rfN (n:Int):List UInt8×List UInt8:=if 1≤n∧n<39 then rfT.getD n.toNat ([],[]) else ([],[])
noncomputable def frC (k:Nat):Cfg:=⟨[.code (bodyOf Tryz.f62)],stF Tryz.f62.ntmps [.one (.int .i64 (k:Int))] noF true⟩
noncomputable def frD (k:Nat):Cfg:=(SX.runC Tryz.prog [] 100 (frC k)).1
def frO (k:Nat):List Prop:=[(0:Int)≤(k:Int)∧(k:Int)<((39:Nat):Int),(0:Int)≤0∧(0:Int)<((2:Nat):Int),(0:Int)≤(k:Int)∧(k:Int)<((39:Nat):Int),(0:Int)≤1∧(1:Int)<((2:Nat):Int)]
theorem cFieldsR0 (k:Nat) (hk:k<39) (h1:(SX.runC Tryz.prog [] 100 (frC k)).2=frO k) (h2:endOf Tryz.prog 62 noF.next (frD k)=some (.tup [.one (.str (rfN k).1),.one (.str (rfN k).2)],fragOf noF))
  (h3:(isEnd (frD k).todo&&(Nat.beq (frD k).st.fx noF.next&&(rwOld noF.next noF.heap noF.heap&&(rwNew noF.next noF.heap&&(ownAll noF.rows&&told noF.next noF.heap)))))=true) :
  CallsK Tryz.prog 62 [.one (.int .i64 (k:Int))] noF (fun _:Unit=>True) (fun _=>.tup [.one (.str (rfN k).1),.one (.str (rfN k).2)]) (fun _=>noF):=by
 refine CallsK.m true Tryz.func62 (fun ρ w=>?_);have key:V ⟨Tryz.prog,62,GivesK ρ noF (fun _:Unit=>True) (fun _=>.tup [.one (.str (rfN k).1),.one (.str (rfN k).2)]) (fun _=>noF) w,touch ρ noF,w,ρ,none⟩ (frD k):=V.retK () [] h2 h3 rfl trivial;exact V.runC (c:=frC k) [] 100 (frO k) h1 rfl ⟨⟨by omega,by omega⟩,⟨by decide,by decide⟩,⟨by omega,by omega⟩,⟨by decide,by decide⟩⟩ key
set_option maxHeartbeats 4000000 in
theorem cFieldsR1 (k:Nat) (h:1≤k∧k<39):CallsK Tryz.prog 62 [.one (.int .i64 (k:Int))] noF (fun _:Unit=>True) (fun _=>.tup [.one (.str (rfN k).1),.one (.str (rfN k).2)]) (fun _=>noF):=by
 rcases (show k=1∨k=2∨k=3∨k=4∨k=5∨k=6∨k=7∨k=8∨k=9∨k=10∨k=11∨k=12∨k=13∨k=14∨k=15∨k=16∨k=17∨k=18∨k=19∨k=20∨k=21∨k=22∨k=23∨k=24∨k=25∨k=26∨k=27∨k=28∨k=29∨k=30∨k=31∨k=32∨k=33∨k=34∨k=35∨k=36∨k=37∨k=38 by omega) with rfl | rfl | rfl | rfl | rfl | rfl | rfl | rfl | rfl | rfl | rfl | rfl | rfl | rfl | rfl | rfl | rfl | rfl | rfl | rfl | rfl | rfl | rfl | rfl | rfl | rfl | rfl | rfl | rfl | rfl | rfl | rfl | rfl | rfl | rfl | rfl | rfl | rfl
 all_goals exact cFieldsR0 _ (by decide) kq kq kq
theorem cFieldsR (n:Int):CallsK Tryz.prog 62 [.one (.int .i64 n)] noF (fun _:Unit=>True) (fun _=>.tup [.one (.str (rfN n).1),.one (.str (rfN n).2)]) (fun _=>noF):=by
 by_cases hn:1≤n∧n<39
 ·obtain ⟨k,rfl⟩:∃ k:Nat,n=(k:Int):=⟨n.toNat,by omega⟩;exact cFieldsR1 k (by omega)
 ·have e:rfN n=([],[]):=by
   unfold rfN;rw [if_neg hn]
  rw [e];refine CallsK.m true Tryz.func62 (fun ρ w=>?_);refine V.q ?_;refine V.kn 52 (decide (n<1)||decide (n≥39)) true (by simp; omega) ?_;refine V.q ?_;exact V.z
def blankB (op:Int):List SV:=(inV (emptyI op) IA0).map fun y=>match y with
 | .sb b=>.bool b
 | y=>y
theorem cBlankR (op:Int):CallsK Tryz.prog 66 [.one (.int .i64 op)] noF (fun _:Unit=>True) (fun _=>.v (.agg (inV (emptyI op) IA0))) (fun _=>noF):=by
 refine CallsK.as (v:=fun _=>.v (.agg (blankB op))) ?_ _ (fun _ _ _=>rfl) (fun _ _=>?_)
 ·refine CallsK.m true Tryz.func66 (fun ρ w=>?_);refine V.q ?_;exact V.z
 ·intro y hy;simp only [inV,inC,List.mem_cons,List.not_mem_nil,or_false] at hy;rcases hy with rfl | rfl | rfl | rfl | rfl | rfl | rfl | rfl | rfl | rfl | rfl | rfl | rfl | rfl | rfl | rfl | rfl | rfl | rfl | rfl | rfl | rfl | rfl | rfl | rfl | rfl | rfl | rfl | rfl<;>trivial
def mvAL (A:IA) (l:List Fl) (B:IA):IA:=l.foldl (fun B f=>f.mvA A B) B
theorem rfN_op {o:Nat} (ho:isOp o=true):rfN (o:Int)=(opName o,opRef o):=by
 have h:=(isOp_iff o).1 ho;unfold rfN;rw [if_pos (by omega),Int.toNat_natCast];have:=all_ops (p:=fun o=>decide (rfT.getD o ([],[])=(opName o,opRef o))) kq ho;simpa using this
theorem cFieldsO (x:In) (o:Nat) (ho:isOp o=true) (hop:x.op=(o:Int)):CallsK Tryz.prog 62 [.one (.int .i64 x.op)] noF (fun _:Unit=>True) (fun _=>.tup [.one (.str (opName o)),.one (.str (opRef o))]) (fun _=>noF):=by
 have h:=cFieldsR x.op;rw [hop,rfN_op ho] at h;rw [hop];exact h
def blankZ:List SV:=(inV ⟨0,0,0,0,ty0,ty0,ty0,0,0,0,0,[],[],[],[],false,false⟩ IA0).map fun y=>match y with
 | .sb b=>.bool b
 | y=>y
structure CoI where
 y:In
 B:IA
 i:Nat
noncomputable def coSt (x:In) (A:IA) (o:Nat) (j:CoI):St :=
 { n:=113,slots:=[(1,.v (.one (.ptr 0 0))),(2,.v (.one (.ptr 1 0))),(4,.v (.one (.str (opRef o)))),(5,.v (.one (.ptr 2 0))),(6,.v (.one (.int .i64 (j.i:Int))))],gs:=[],
    heap:=[(0,⟨inV x A,30,true⟩),(1,⟨blankZ,30,true⟩),(2,⟨inV j.y j.B,30,true⟩)],next:=3,rows:=[],nr:=0,pers:=[],wr:=true,fx:=0 }
def Fl.nc:Fl→Nat
 | .D=>1 | .A=>2 | .B=>3 | .N=>4 | .aN=>5 | .pN=>6 | .M=>7 | .aM=>8 | .pM=>9 | .P=>10 | .far=>11 | .T=>12 | .U=>13 | .W=>14 | .V=>15 | .L=>16 | .Y=>17 | .F=>18 | .Sz=>19 | .Rg=>20
set_option maxHeartbeats 2000000 in
theorem cCopied (x:In) (A:IA) (o:Nat) (ho:isOp o=true) (hop:x.op=(o:Int)):CallsK Tryz.prog 118 [.agg (inV x A)] noF (fun _:Unit=>True) (fun _=>.v (.agg (inV (mvL x (opFls o) (emptyI x.op)) (mvAL A (opFls o) IA0)))) (fun _=>noF):=by
 have hfl:(opFls o).length≤7:=by
  have:=all_ops (p:=fun o=>decide ((opFls o).length≤7)) kq ho;simpa using this
 have hrl:(opRef o).length=(opFls o).length:=List.length_map _;refine CallsK.m true Tryz.func118 (fun ρ w=>?_);refine V.q ?_;refine V.c [] (cFieldsO x o ho hop) (fun _ _=>?_);refine V.q ?_;refine V.c [] (cBlankR x.op) (fun _ _=>?_);refine V.q ?_;refine V.iter ?_;refine V.loopTo [1,2,4,5,6] [0,1,2] [] [] (fun j:CoI=>(opFls o).length - j.i) (coSt x A o) (fun j=>j.i≤(opFls o).length∧j.y=mvL x ((opFls o).take j.i) (emptyI x.op)∧j.B=mvAL A ((opFls o).take j.i) IA0) ⟨emptyI x.op,IA0,0⟩ kq ⟨Nat.zero_le _,rfl,rfl⟩ (fun j hj ih=>?_);obtain ⟨y,B,i⟩:=j;obtain ⟨hi,hy,hB⟩:=hj;simp only at hi hy hB;refine V.q ?_;refine V.bn 19 (decide ((i:Int)<(opRef o).length)) (fun hb=>?_) (fun hb=>?_)
 ·have hlt:i<(opFls o).length:=by rw [← hrl]; simpa using hb
  obtain ⟨f,hf⟩:∃ f,(opFls o).getD i .D=f:=⟨_,rfl⟩;have hch:(opRef o).getD i 0=f.ch:=by
   rw [← hf,opRef,List.getD,List.getElem?_map,List.getElem?_eq_getElem hlt,List.getD,List.getElem?_eq_getElem hlt];rfl
  have hnext:mvL x ((opFls o).take (i+1)) (emptyI x.op)=f.mv x y:=by
   rw [List.take_add_one,List.getElem?_eq_getElem hlt];rw [List.getD,List.getElem?_eq_getElem hlt] at hf;simp only [Option.getD_some] at hf;rw [hf,hy];simp [mvL,List.foldl_append]
  have hnextB:mvAL A ((opFls o).take (i+1)) IA0=f.mvA A B:=by
   rw [List.take_add_one,List.getElem?_eq_getElem hlt];rw [List.getD,List.getElem?_eq_getElem hlt] at hf;simp only [Option.getD_some] at hf;rw [hf,hB];simp [mvAL,List.foldl_append]
  have key:=ih ⟨f.mv x y,f.mvA A B,i+1⟩ ⟨hlt,hnext.symm,hnextB.symm⟩ (by simp only; omega);refine V.t [] [(0:Int)≤i∧(i:Int)<(opRef o).length] ⟨by omega,by omega⟩ ?_;refine V.s 24 (.one (.int .u8 (((opRef o).getD i 0).toNat:Int))) (.one (.int .u8 (f.ch.toNat:Int))) (fun _=>by rw [hch]) ?_;refine V.s 25 (.one (.sb ((((opRef o).getD i 0).toNat:Int)==68))) (.one (.sb ((f.ch.toNat:Int)==68))) (fun _=>by rw [hch]) ?_;clear hf hch hnext hnextB ih;cases f
  case D =>
   refine V.rc [] (Fl.nc .D) [] trivial ?_;refine V.q ?_;refine V.up 6 i (by omega) ?_;refine V.iter ?_;exact V.back [1,2,4,5,6] [0,1,2] [] [] key kq kq
  case A =>
   refine V.rc [] (Fl.nc .A) [] trivial ?_;refine V.q ?_;refine V.up 6 i (by omega) ?_;refine V.iter ?_;exact V.back [1,2,4,5,6] [0,1,2] [] [] key kq kq
  case B =>
   refine V.rc [] (Fl.nc .B) [] trivial ?_;refine V.q ?_;refine V.up 6 i (by omega) ?_;refine V.iter ?_;exact V.back [1,2,4,5,6] [0,1,2] [] [] key kq kq
  case N =>
   refine V.rc [] (Fl.nc .N) [] trivial ?_;refine V.q ?_;refine V.up 6 i (by omega) ?_;refine V.iter ?_;exact V.back [1,2,4,5,6] [0,1,2] [] [] key kq kq
  case M =>
   refine V.rc [] (Fl.nc .M) [] trivial ?_;refine V.q ?_;refine V.up 6 i (by omega) ?_;refine V.iter ?_;exact V.back [1,2,4,5,6] [0,1,2] [] [] key kq kq
  case P =>
   refine V.rc [] (Fl.nc .P) [] trivial ?_;refine V.q ?_;refine V.up 6 i (by omega) ?_;refine V.iter ?_;exact V.back [1,2,4,5,6] [0,1,2] [] [] key kq kq
  case T =>
   refine V.rc [] (Fl.nc .T) [] trivial ?_;refine V.q ?_;refine V.up 6 i (by omega) ?_;refine V.iter ?_;exact V.back [1,2,4,5,6] [0,1,2] [] [] key kq kq
  case U =>
   refine V.rc [] (Fl.nc .U) [] trivial ?_;refine V.q ?_;refine V.up 6 i (by omega) ?_;refine V.iter ?_;exact V.back [1,2,4,5,6] [0,1,2] [] [] key kq kq
  case W =>
   refine V.rc [] (Fl.nc .W) [] trivial ?_;refine V.q ?_;refine V.up 6 i (by omega) ?_;refine V.iter ?_;exact V.back [1,2,4,5,6] [0,1,2] [] [] key kq kq
  case V =>
   refine V.rc [] (Fl.nc .V) [] trivial ?_;refine V.q ?_;refine V.up 6 i (by omega) ?_;refine V.iter ?_;exact V.back [1,2,4,5,6] [0,1,2] [] [] key kq kq
  case L =>
   refine V.rc [] (Fl.nc .L) [] trivial ?_;refine V.q ?_;refine V.up 6 i (by omega) ?_;refine V.iter ?_;exact V.back [1,2,4,5,6] [0,1,2] [] [] key kq kq
  case Y =>
   refine V.rc [] (Fl.nc .Y) [] trivial ?_;refine V.q ?_;refine V.up 6 i (by omega) ?_;refine V.iter ?_;exact V.back [1,2,4,5,6] [0,1,2] [] [] key kq kq
  case F =>
   refine V.rc [] (Fl.nc .F) [] trivial ?_;refine V.q ?_;refine V.up 6 i (by omega) ?_;refine V.iter ?_;exact V.back [1,2,4,5,6] [0,1,2] [] [] key kq kq
  case Sz =>
   refine V.rc [] (Fl.nc .Sz) [] trivial ?_;refine V.q ?_;refine V.up 6 i (by omega) ?_;refine V.iter ?_;exact V.back [1,2,4,5,6] [0,1,2] [] [] key kq kq
  case Rg =>
   refine V.rc [] (Fl.nc .Rg) [] trivial ?_;refine V.q ?_;refine V.up 6 i (by omega) ?_;refine V.iter ?_;exact V.back [1,2,4,5,6] [0,1,2] [] [] key kq kq
  case aN =>
   refine V.rc [] (Fl.nc .aN) [] trivial ?_;refine V.q ?_;refine V.up 6 i (by omega) ?_;refine V.iter ?_;exact V.back [1,2,4,5,6] [0,1,2] [] [] key kq kq
  case aM =>
   refine V.rc [] (Fl.nc .aM) [] trivial ?_;refine V.q ?_;refine V.up 6 i (by omega) ?_;refine V.iter ?_;exact V.back [1,2,4,5,6] [0,1,2] [] [] key kq kq
  case pN =>
   refine V.rc [] (Fl.nc .pN) [] trivial ?_;refine V.q ?_;refine V.up 6 i (by omega) ?_;refine V.iter ?_;exact V.back [1,2,4,5,6] [0,1,2] [] [] key kq kq
  case pM =>
   refine V.rc [] (Fl.nc .pM) [] trivial ?_;refine V.q ?_;refine V.up 6 i (by omega) ?_;refine V.iter ?_;exact V.back [1,2,4,5,6] [0,1,2] [] [] key kq kq
  case far =>
   refine V.rc [] (Fl.nc .far) [] trivial ?_;refine V.q ?_;refine V.up 6 i (by omega) ?_;refine V.iter ?_;exact V.back [1,2,4,5,6] [0,1,2] [] [] key kq kq
 ·have hle:(opFls o).length=i:=by
   have:¬ i<(opRef o).length:=by simpa using hb
   omega
  rw [← hle,List.take_length] at hy hB;refine V.q ?_;subst hy hB;exact V.z
def flsOf (x:In):List Fl:=(opFind x.op).getD []
def yOf (x:In):In:=mvL x (flsOf x) (emptyI x.op)
def bOf (x:In) (A:IA):IA:=mvAL A (flsOf x) IA0
theorem fls_op {x:In} {o:Nat} (ho:isOp o=true) (hop:x.op=(o:Int)):flsOf x=opFls o:=by
 have h:=(isOp_iff o).1 ho;unfold flsOf opFind;rw [if_pos (by omega),hop];rfl
theorem fls_no {x:In} (h:¬ (1≤x.op∧x.op≤38)):flsOf x=[]:=by
 unfold flsOf opFind;rw [if_neg h];rfl
theorem rfN_no {n:Int} (h:¬ (1≤n∧n≤38)):rfN n=([],[]):=by
 unfold rfN;rw [if_neg (by omega)]
theorem isOp_of {n:Int} (h:1≤n∧n≤38):∃ o:Nat,isOp o=true∧n=(o:Int):=⟨n.toNat,(isOp_iff _).2 (by omega),by omega⟩
theorem rfN_fls (x:In):(rfN x.op).2=(flsOf x).map Fl.ch:=by
 by_cases h:1≤x.op∧x.op≤38
 ·obtain ⟨o,ho,hop⟩:=isOp_of h;rw [fls_op ho hop,hop,rfN_op ho];rfl
 ·rw [fls_no h,rfN_no h];rfl
theorem fls_len (x:In):(flsOf x).length≤7:=by
 by_cases h:1≤x.op∧x.op≤38
 ·obtain ⟨o,ho,hop⟩:=isOp_of h;rw [fls_op ho hop];have:=all_ops (p:=fun o=>decide ((opFls o).length≤7)) kq ho;simpa using this
 ·rw [fls_no h];decide
set_option maxHeartbeats 1000000 in
theorem cCopiedA (x:In) (A:IA):CallsK Tryz.prog 118 [.agg (inV x A)] noF (fun _:Unit=>True) (fun _=>.v (.agg (inV (yOf x) (bOf x A)))) (fun _=>noF):=by
 by_cases h:1≤x.op∧x.op≤38
 ·obtain ⟨o,ho,hop⟩:=isOp_of h;have:=cCopied x A o ho hop;rw [← fls_op ho hop] at this;exact this
 ·have hr:=cFieldsR x.op;rw [rfN_no h] at hr;rw [show yOf x=emptyI x.op by unfold yOf; rw [fls_no h]; rfl,show bOf x A=IA0 by unfold bOf; rw [fls_no h]; rfl];refine CallsK.m true Tryz.func118 (fun ρ w=>?_);refine V.q ?_;refine V.c [] hr (fun _ _=>?_);refine V.q ?_;refine V.c [] (cBlankR x.op) (fun _ _=>?_);refine V.q ?_;refine V.iter ?_;refine V.q ?_;refine V.kn 19 (decide ((0:Int)<(([]:List UInt8).length:Int))) false (by decide) ?_;refine V.q ?_;exact V.z
theorem LsOk.mvL {x:In} {A:IA}:∀ {l:List Fl} {y:In} {B:IA},LsOk x A y B→LsOk x A (mvL x l y) (mvAL A l B)
 | [],_,_,h=>h
 | f::l,y,B,h=>LsOk.mvL (l:=l) (h.mv f)
theorem ls_y (x:In) (A:IA):LsOk x A (yOf x) (bOf x A):=LsOk.mvL (LsOk.zero x A x.op)
theorem okL_y {x:In} (h:x.okM) (A:IA):(yOf x).okM:=by
 obtain ⟨h1,h2,h3⟩:=ls_y x A;obtain ⟨k1,k2,k3⟩:=h;refine ⟨?_,?_,?_⟩
 ·rcases h1 with ⟨e,_⟩ | ⟨e,_⟩
  ·rw [e]; decide
  ·rw [e]; exact k1
 ·rcases h2 with ⟨e,_⟩ | ⟨e,_⟩
  ·rw [e]; decide
  ·rw [e]; exact k2
 ·rcases h3 with ⟨e,_⟩ | ⟨e,_⟩
  ·rw [e]; decide
  ·rw [e]; exact k3
noncomputable def sCopied (x:In) (A:IA):Con Tryz.prog:=Con.inst 118 [] [.agg (inV x A)] (.v (.agg (inV (yOf x) (bOf x A)))) (CallsK.gives (cCopiedA x A) ⟨rfl,rfl,rfl⟩ (fun _ _=>rfl))
noncomputable def TW (x:In) (A:IA) (hx:x.okM):List (Ent Tryz.prog):=[⟨sCopied x A,[]⟩,⟨sSame26 (yOf x) x (bOf x A) A (okL_y hx A),[3,4,5,2,1,0]⟩,⟨aIn,[]⟩,⟨aNumR,[]⟩,⟨aTypR,[]⟩]
def rwB (x:In):Bool:=((rfN x.op).1==[])||!(eqIn (yOf x) x)||!(inR x.d (-1) 3999)||!(inR x.a (-1) 3999)||!(inR x.b (-1) 3999)||!(numR x.n)||!(numR x.m)||!(numR x.p)||!(tyR x.t)||!(tyR x.u)||!(tyR x.w)||!(numR x.vn)||decide ((x.vs.length:Int)>255)
theorem fine_all {x:In} (h:cFine x=true):∃ o,isOp o=true∧x.op=(o:Int)∧eqIn (yOf x) x=true∧Good x∧∀ f∈flsOf x,letR f x=true:=by
 by_cases hop:1≤x.op∧x.op≤38
 ·obtain ⟨o,ho,e⟩:=isOp_of hop;refine ⟨o,ho,e,?_⟩;have:=(cFine_iff x o ho e).1 h;unfold yOf;rw [fls_op ho e];exact this
 ·have:cFine x=false:=by unfold cFine opFind; rw [if_neg hop]
  rw [this] at h;cases h
theorem fine_rw {x:In} (h:cFine x=true):rwB x=false:=by
 obtain ⟨o,ho,e,h1,g,_⟩:=fine_all h;have h0:((rfN x.op).1==[])=false:=by
  rw [e,rfN_op ho];have:=all_ops (p:=fun o=>!(opName o==[])) kq ho;simpa using this
 have h2:decide ((x.vs.length:Int)>255)=false:=by
  have:=g.gvs;simp only [decide_eq_true_eq] at this;exact decide_eq_false (by omega)
 unfold rwB;rw [h0,h1,g.gd,g.ga,g.gb,g.gn,g.gm,g.gp,g.gt,g.gu,g.gw,g.gvn,h2];rfl
theorem rw_op {x:In} (h:rwB x=false):∃ o,isOp o=true∧x.op=(o:Int):=by
 by_cases hop:1≤x.op∧x.op≤38
 ·exact isOp_of hop
 ·unfold rwB at h;rw [rfN_no hop] at h;simp at h
theorem rw_fine {x:In} (h:rwB x=false) (h2:(decide ((x.f.length:Int)>16)||decide ((x.l.length:Int)>16)||decide ((x.y.length:Int)>16))=false) (hf:x.f.all fmR=true) (hl:(x.l.all fun n=>inR n 0 3999)=true) (hy:x.y.all tyR=true)
  (hlt:∀ f∈flsOf x,letR f x=true):cFine x=true:=by
 obtain ⟨o,ho,e⟩:=rw_op h;refine (cFine_iff x o ho e).2 ?_;unfold rwB at h;simp only [Bool.or_eq_false_iff,Bool.not_eq_false',decide_eq_false_iff_not] at h h2;obtain ⟨⟨⟨⟨⟨⟨⟨⟨⟨⟨⟨⟨_,k1⟩,k2⟩,k3⟩,k4⟩,k5⟩,k6⟩,k7⟩,k8⟩,k9⟩,k10⟩,k11⟩,k12⟩:=h;have hy':=fls_op ho e;unfold yOf at k1;rw [hy'] at k1 hlt;exact ⟨k1,⟨k2,k3,k4,k5,k6,k7,k8,k9,k10,k11,decide_eq_true (by omega),decide_eq_true (by omega),decide_eq_true (by omega),decide_eq_true (by omega),hf,hl,hy⟩,hlt⟩
noncomputable def weT:List Item:=skipT 100 [.code (bodyOf Tryz.f60)]
noncomputable def weSt0 (x:In) (A:IA):St :=
 { n:=220,slots:=[(1,.v (.one (.ptr 0 0))),(4,.v (.one (.str (rfN x.op).2))),(91,.v (.one (.sb (rwB x))))],gs:=[],
    heap:=[(0,⟨inV x A,30,true⟩)],next:=1,rows:=[],nr:=0,pers:=lsP x A,wr:=true,fx:=0 }
noncomputable def weSt (x:In) (A:IA) (t i:Nat):St :=
 { n:=220,slots:=[(1,.v (.one (.ptr 0 0))),(4,.v (.one (.str (rfN x.op).2))),(t,.v (.one (.int .i64 (i:Int))))],gs:=[],
    heap:=[(0,seB x A 0)],next:=1,rows:=[(0,rowF x A),(1,rowI x A),(2,rowT x A)],nr:=3,pers:=[],wr:=true,fx:=0 }
theorem _root_.Go.SX.V.byK {C:Ctx} (t:Nat) (e:Bool) {c:Cfg} (hl:SX.look c.st.slots t=some (.v (.one (.sb e)))) (h1:e=true→V C (c.know t true)) (h2:e=false→V C (c.know t false)):V C c:=by
 by_cases he:e=true
 ·exact V.known t e true hl he (h1 he)
 ·exact V.known t e false hl (by simpa using he) (h2 (by simpa using he))
set_option maxHeartbeats 1000000 in
theorem cWell_rest (x:In) (A:IA) (hx:x.okM) (r:Bool) (hr:r=cFine x) (ρ:Nat→Nat) (w:World):V ⟨Tryz.prog,60,GivesK ρ (stP (lsP x A)) (fun _:Unit=>True) (fun _=>.v (.one (.sb r))) (fun _=>noF) w,touch ρ (stP (lsP x A)),w,ρ,none⟩ ⟨weT,weSt0 x A⟩:=by
 have bad:(cFine x=true→False)→r=false:=fun h=>by
  rw [hr];cases e:cFine x with
  | false=>rfl
  | true=>exact (h e).elim
 refine V.bn 91 (rwB x) (fun h0=>?_) (fun h0=>?_)
 ·refine V.q ?_;have hz:r=false:=bad fun h=>by rw [fine_rw h] at h0; cases h0
  subst hz;refine V.sb 2 false ?_;exact V.z
 refine V.q ?_;refine V.bn 107 (decide ((x.f.length:Int)>16)||decide ((x.l.length:Int)>16)||decide ((x.y.length:Int)>16)) (fun h1=>?_) (fun h1=>?_)
 ·refine V.q ?_;have hz:r=false:=bad fun h=>by
   obtain ⟨o,ho,e,_,g,_⟩:=fine_all h;have k1:=g.nf;have k2:=g.nl;have k3:=g.ny;simp only [Bool.or_eq_true,decide_eq_true_eq] at h1 k1 k2 k3;omega
  subst hz;refine V.sb 2 false ?_;exact V.z
 have hl16:x.f.length≤16∧x.l.length≤16∧x.y.length≤16:=by
  simp only [Bool.or_eq_false_iff,decide_eq_false_iff_not] at h1;omega
 refine V.ungrd ?_;refine V.factRow 0 (rowF x A) kq rfl ?_;refine V.factRow 1 (rowI x A) kq rfl ?_;refine V.factRow 2 (rowT x A) kq rfl ?_;refine V.cellRow 0 24 0 ⟨inV x A,30,true⟩ (rowF x A) kq kq kq ?_;refine V.cellRow 0 25 1 ⟨inC x (.row 0 A.qf x.f.length A.cf) (.val (.slice A.ql x.l.length A.cl)) (.val (.slice A.qy x.y.length A.cy)),30,true⟩ (rowI x A) kq kq kq ?_;refine V.cellRow 0 26 2 ⟨inC x (.row 0 A.qf x.f.length A.cf) (.row 1 A.ql x.l.length A.cl) (.val (.slice A.qy x.y.length A.cy)),30,true⟩ (rowT x A) kq kq kq ?_;refine V.q ?_;refine V.iter ?_;refine V.loopTo [1,4,5] [0] [0,1,2] [] (fun i:Nat=>x.f.length - i) (weSt x A 5) (fun i=>i≤x.f.length∧(x.f.take i).all fmR=true) 0 kq ⟨Nat.zero_le _,rfl⟩ (fun i hi ih=>?_);obtain ⟨hi1,hall⟩:=hi;refine V.q ?_;refine V.bn 112 (decide ((i:Int)<(x.f.length:Int))) (fun hc=>?_) (fun hc=>?_)
 ·have hlt:i<x.f.length:=by simpa using hc
  refine V.t [⟨aFmtR,[]⟩] [(0:Int)≤i∧(i:Int)<x.f.length] ⟨by omega,by omega⟩ ?_;refine V.bn 121 (!(fmR (x.f.getD i fm0))) (fun hh=>?_) (fun hh=>?_)
  ·refine V.q ?_;have hz:r=false:=bad fun h=>by
    obtain ⟨o,ho,e,_,g,_⟩:=fine_all h;have:=g.gf;rw [all_at hlt fm0 (by simpa using hh)] at this;cases this
   subst hz;refine V.sb 2 false ?_;exact V.z
  ·refine V.q ?_;refine V.up 5 i (by omega) ?_;refine V.iter ?_;exact V.back [1,4,5] [0] [0,1,2] [] (ih (i+1) ⟨hlt,all_next hlt fm0 hall (by simpa using hh)⟩ (by omega)) kq kq
 have hle:x.f.length=i:=by
  have:¬ i<x.f.length:=by simpa using hc
  omega
 have hF:x.f.all fmR=true:=by rw [← hle,List.take_length] at hall; exact hall
 refine V.q ?_;refine V.iter ?_;clear ih hall hc hle hi1;refine V.loopTo [1,4,6] [0] [0,1,2] [] (fun i:Nat=>x.l.length - i) (weSt x A 6) (fun i=>i≤x.l.length∧((x.l.take i).all fun n=>inR n 0 3999)=true) 0 kq ⟨Nat.zero_le _,rfl⟩ (fun i hi ih=>?_);obtain ⟨hi1,hall⟩:=hi;refine V.q ?_;refine V.bn 126 (decide ((i:Int)<(x.l.length:Int))) (fun hc=>?_) (fun hc=>?_)
 ·have hlt:i<x.l.length:=by simpa using hc
  refine V.t [⟨aIn,[]⟩] [(0:Int)≤i∧(i:Int)<x.l.length] ⟨by omega,by omega⟩ ?_;refine V.bn 135 (!(inR (x.l.getD i 0) 0 3999)) (fun hh=>?_) (fun hh=>?_)
  ·refine V.q ?_;have hz:r=false:=bad fun h=>by
    obtain ⟨o,ho,e,_,g,_⟩:=fine_all h;have:=g.gl;rw [all_at hlt 0 (by simpa using hh)] at this;cases this
   subst hz;refine V.sb 2 false ?_;exact V.z
  ·refine V.q ?_;refine V.up 6 i (by omega) ?_;refine V.iter ?_;exact V.back [1,4,6] [0] [0,1,2] [] (ih (i+1) ⟨hlt,all_next hlt 0 hall (by simpa using hh)⟩ (by omega)) kq kq
 have hle:x.l.length=i:=by
  have:¬ i<x.l.length:=by simpa using hc
  omega
 have hL:(x.l.all fun n=>inR n 0 3999)=true:=by rw [← hle,List.take_length] at hall; exact hall
 refine V.q ?_;refine V.iter ?_;clear ih hall hc hle hi1;refine V.loopTo [1,4,7] [0] [0,1,2] [] (fun i:Nat=>x.y.length - i) (weSt x A 7) (fun i=>i≤x.y.length∧(x.y.take i).all tyR=true) 0 kq ⟨Nat.zero_le _,rfl⟩ (fun i hi ih=>?_);obtain ⟨hi1,hall⟩:=hi;refine V.q ?_;refine V.bn 140 (decide ((i:Int)<(x.y.length:Int))) (fun hc=>?_) (fun hc=>?_)
 ·have hlt:i<x.y.length:=by simpa using hc
  refine V.t [⟨aTypR,[]⟩] [(0:Int)≤i∧(i:Int)<x.y.length] ⟨by omega,by omega⟩ ?_;refine V.bn 149 (!(tyR (x.y.getD i ty0))) (fun hh=>?_) (fun hh=>?_)
  ·refine V.q ?_;have hz:r=false:=bad fun h=>by
    obtain ⟨o,ho,e,_,g,_⟩:=fine_all h;have:=g.gy;rw [all_at hlt ty0 (by simpa using hh)] at this;cases this
   subst hz;refine V.sb 2 false ?_;exact V.z
  ·refine V.q ?_;refine V.up 7 i (by omega) ?_;refine V.iter ?_;exact V.back [1,4,7] [0] [0,1,2] [] (ih (i+1) ⟨hlt,all_next hlt ty0 hall (by simpa using hh)⟩ (by omega)) kq kq
 have hle:x.y.length=i:=by
  have:¬ i<x.y.length:=by simpa using hc
  omega
 have hY:x.y.all tyR=true:=by rw [← hle,List.take_length] at hall; exact hall
 refine V.q ?_;refine V.iter ?_;clear ih hall hc hle hi1;have hfl:=fls_len x;have hch:=rfN_fls x;have hrl:(rfN x.op).2.length=(flsOf x).length:=by rw [hch,List.length_map]
 refine V.loopTo [1,4,8] [0] [0,1,2] [] (fun i:Nat=>(flsOf x).length - i) (weSt x A 8) (fun i=>i≤(flsOf x).length∧((flsOf x).take i).all (fun f=>letR f x)=true) 0 kq ⟨Nat.zero_le _,rfl⟩ (fun i hi ih=>?_);obtain ⟨hi1,hall⟩:=hi;refine V.q ?_;refine V.bn 153 (decide ((i:Int)<((rfN x.op).2.length:Int))) (fun hc=>?_) (fun hc=>?_)
 ·have hlt:i<(flsOf x).length:=by rw [← hrl]; simpa using hc
  have hB:(0:Int)≤i∧(i:Int)<((rfN x.op).2.length:Int):=by rw [hrl]; omega
  obtain ⟨f,hfi⟩:∃ f,(flsOf x).getD i .D=f:=⟨_,rfl⟩;have hchf:(rfN x.op).2.getD i 0=f.ch:=by
   rw [← hfi,hch,List.getD,List.getElem?_map,List.getElem?_eq_getElem hlt,List.getD,List.getElem?_eq_getElem hlt];rfl
  have hlf:cFine x=true→letR f x=true:=fun h=>by
   obtain ⟨o,ho,e,_,g,hl⟩:=fine_all h;refine hl f ?_;rw [← hfi,List.getD,List.getElem?_eq_getElem hlt];exact List.getElem_mem hlt
  refine V.t [⟨aIn,[]⟩] [(0:Int)≤i∧(i:Int)<((rfN x.op).2.length:Int),((((rfN x.op).2.getD i 0).toNat:Int)==110&&!(inR x.n 0 1048576))=false→(0:Int)≤i∧(i:Int)<((rfN x.op).2.length:Int)] ⟨hB,fun _=>hB⟩ ?_;refine V.byK 166 ((((rfN x.op).2.getD i 0).toNat:Int)==110&&!(inR x.n 0 1048576)) kq (fun e1=>?_) (fun e1=>?_)
  ·refine V.q ?_;have hz:r=false:=bad fun h=>by
    have hg:=hlf h;rw [hchf] at e1;clear hchf hlf hfi;cases f<;>simp_all [Fl.ch,letR]
   subst hz;refine V.sb 2 false ?_;exact V.z
  refine V.t [⟨aIn,[]⟩] [((((rfN x.op).2.getD i 0).toNat:Int)==109&&!(inR x.m 0 1048576))=false→(0:Int)≤i∧(i:Int)<((rfN x.op).2.length:Int)] (fun _=>hB) ?_;refine V.byK 178 ((((rfN x.op).2.getD i 0).toNat:Int)==109&&!(inR x.m 0 1048576)) kq (fun e2=>?_) (fun e2=>?_)
  ·refine V.q ?_;have hz:r=false:=bad fun h=>by
    have hg:=hlf h;rw [hchf] at e2;clear hchf hlf hfi;cases f<;>simp_all [Fl.ch,letR]
   subst hz;refine V.sb 2 false ?_;exact V.z
  refine V.t [⟨aIn,[]⟩] [((((rfN x.op).2.getD i 0).toNat:Int)==99&&!(inR x.n 0 63))=false→(0:Int)≤i∧(i:Int)<((rfN x.op).2.length:Int)] (fun _=>hB) ?_;refine V.byK 190 ((((rfN x.op).2.getD i 0).toNat:Int)==99&&!(inR x.n 0 63)) kq (fun e3=>?_) (fun e3=>?_)
  ·refine V.q ?_;have hz:r=false:=bad fun h=>by
    have hg:=hlf h;rw [hchf] at e3;clear hchf hlf hfi;cases f<;>simp_all [Fl.ch,letR]
   subst hz;refine V.sb 2 false ?_;exact V.z
  refine V.t [⟨aIn,[]⟩] [((((rfN x.op).2.getD i 0).toNat:Int)==111&&!(inR x.m (-1) 63))=false→(0:Int)≤i∧(i:Int)<((rfN x.op).2.length:Int)] (fun _=>hB) ?_;refine V.byK 202 ((((rfN x.op).2.getD i 0).toNat:Int)==111&&!(inR x.m (-1) 63)) kq (fun e4=>?_) (fun e4=>?_)
  ·refine V.q ?_;have hz:r=false:=bad fun h=>by
    have hg:=hlf h;rw [hchf] at e4;clear hchf hlf hfi;cases f<;>simp_all [Fl.ch,letR]
   subst hz;refine V.sb 2 false ?_;exact V.z
  refine V.byK 207 ((((rfN x.op).2.getD i 0).toNat:Int)==103) kq (fun e5=>?_) (fun e5=>?_)
  ·refine V.t [⟨aIn,[]⟩] [] trivial ?_;refine V.bn 219 (!(inR x.n 0 1048576)||!(inR x.p 0 63)) (fun e6=>?_) (fun e6=>?_)
   ·refine V.q ?_;have hz:r=false:=bad fun h=>by
     have hg:=hlf h;rw [hchf] at e5;clear hchf hlf hfi;cases f<;>simp_all [Fl.ch,letR]
    subst hz;refine V.sb 2 false ?_;exact V.z
   refine V.q ?_;have hok:letR f x=true:=by
    rw [hchf] at e1 e2 e3 e4 e5;clear hchf hlf hfi ih;cases f<;>simp_all [Fl.ch,letR]
   refine V.up 8 i (by omega) ?_;refine V.iter ?_;exact V.back [1,4,8] [0] [0,1,2] [] (ih (i+1) ⟨hlt,all_next hlt .D hall (by rw [hfi]; exact hok)⟩ (by omega)) kq kq
  ·refine V.t [⟨aIn,[]⟩] [] trivial ?_;have hok:letR f x=true:=by
    rw [hchf] at e1 e2 e3 e4 e5;clear hchf hlf hfi ih;cases f<;>simp_all [Fl.ch,letR]
   refine V.up 8 i (by omega) ?_;refine V.iter ?_;exact V.back [1,4,8] [0] [0,1,2] [] (ih (i+1) ⟨hlt,all_next hlt .D hall (by rw [hfi]; exact hok)⟩ (by omega)) kq kq
 ·have hle:(flsOf x).length=i:=by
   have:¬ i<(rfN x.op).2.length:=by simpa using hc
   omega
  have hLt:∀ f∈flsOf x,letR f x=true:=by
   rw [← hle,List.take_length] at hall;exact fun f hf=>List.all_eq_true.1 hall f hf
  have hz:r=true:=hr.trans (rw_fine h0 h1 hF hL hY hLt);refine V.q ?_;subst hz;refine V.sb 2 true ?_;exact V.z
set_option maxHeartbeats 1000000 in
theorem cWell (x:In) (A:IA) (hx:x.okM) (r:Bool) (hr:r=cFine x):CallsK Tryz.prog 60 [.agg (inV x A)] (stP (lsP x A)) (fun _:Unit=>True) (fun _=>.v (.one (.sb r))) (fun _=>noF):=by
 refine CallsK.m true Tryz.func60 (fun ρ w=>?_);refine V.q ?_;refine V.c [] (cFieldsR x.op) (fun _ _=>?_);have hls:=ls_y x A;obtain ⟨f1,f2⟩:=rowL_as (f:=Fm.cells) (d:=fm0) (e:=93) (sz:=4) hls.f;obtain ⟨l1,l2⟩:=rowL_as (f:=intv) (d:=0) (e:=3) (sz:=1) hls.l;obtain ⟨y1,y2⟩:=rowL_as (f:=Ty.cells) (d:=ty0) (e:=23) (sz:=5) hls.y;refine V.persAs [(0,false)] [rowP (rowF x A)] (rowP (rowF (yOf x) (bOf x A))) kq f1 f2 (rowP_stab _) ?_;refine V.persAs [(2,false)] [rowP (rowI x A)] (rowP (rowI (yOf x) (bOf x A))) kq l1 l2 (rowP_stab _) ?_;refine V.persAs [(4,false)] [rowP (rowT x A)] (rowP (rowT (yOf x) (bOf x A))) kq y1 y2 (rowP_stab _) ?_;refine V.t (TW x A hx) [((rfN x.op).1==[])=false→([.agg (inV x A)]:List CV)=[.agg (inV x A)],((rfN x.op).1==[])=false→([.agg (inV (yOf x) (bOf x A)),.agg (inV x A)]:List CV)=[.agg (inV (yOf x) (bOf x A)),.agg (inV x A)]] ⟨fun _=>rfl,fun _=>rfl⟩ ?_;exact V.back [1,4,91] [0] [] [false,false,false,true,true,true] (cWell_rest x A hx r hr ρ w) kq kq
theorem xCheckM (x:In) (A:IA) (hx:x.okM):CallsK Tryz.prog 21 [.agg (inV x A)] (stP (lsP x A)) (fun _:Unit=>True) (fun _=>.v (.one (.int .i64 (bif cFine x then 0 else 170)))) (fun _=>noF):=by
 have key:=cWell x A hx _ rfl;cases h:cFine x with
 | true =>
  rw [h] at key;refine CallsK.m true Tryz.func21 (fun ρ w=>?_);refine V.q ?_;refine V.c [(0,false),(1,false),(2,false)] key (fun _ _=>?_);refine V.q ?_;refine V.kn 7 (!true) false rfl ?_;refine V.q ?_;exact V.z
 | false =>
  rw [h] at key;refine CallsK.m true Tryz.func21 (fun ρ w=>?_);refine V.q ?_;refine V.c [(0,false),(1,false),(2,false)] key (fun _ _=>?_);refine V.q ?_;refine V.kn 7 (!false) true rfl ?_;refine V.q ?_;exact V.z
end Go.Proofs
end
section
namespace Go.SX
open Go
section
variable {C:Ctx} {T TR:List Nat} {L:Nat} {c0:Cfg} {d:DCfg}
theorem VX.pushes {α:Type} (f:α→List SV) (dl:α) (l ys:List α) (r:Nat) (q:Option Addr) (cap:Nat) (e:TypeId) (sz:Nat) (m:Nat) (get:Nat→List SV) (bytes:Nat)
  (hA:(appX C.P c0 d).map (fun A=>(A.r,A.R,A.m,A.get,A.bytes))=some (r,rowL f dl l q cap e sz true,m,get,bytes)) (hm:m=ys.length) (hr:hasNat TR r=true) (hlk:look c0.st.rows r=some (rowL f dl l q cap e sz true)) (hb:(l.length+m)*bytes≤140737488355328) (hx:∀ i,i<m→f (ys.getD i dl)=get i)
  (haf:∀ q cap,(pushD c0 d r (rowL f dl (l++ys) q cap e sz true)).isSome=true)
  (k:∀ q cap,VX C T TR L c0 (pushX c0 d r (rowL f dl (l++ys) q cap e sz true))):VX C T TR L c0 d:=by
 intro D hD a1 a2 a3 a4 a5 a6 hL hsel aT aTR hlt hrw;cases hA':appX C.P c0 d with
 | none=>rw [hA'] at hA; cases hA
 | some A =>
  rw [hA'] at hA;simp only [Option.map_some,Option.some.injEq,Prod.mk.injEq] at hA;obtain ⟨e1,e2,e3,e4,e5⟩:=hA;have hlen:(l++ys).length=l.length+m:=by simp [hm]
  have hrow:∀ q cap,A.R.next q A.m cap (fun i=>f ((l++ys).getD i dl))=rowL f dl (l++ys) q cap e sz true:=by
   intro q cap;rw [e2,e3];simp only [Row.next,rowL,hlen]
  have hn:A.R.n+A.m=(l++ys).length:=by rw [e2,e3,hlen]; rfl
  unfold appX at hA';split at hA'
  case h_2=>cases hA'
  rename_i i o hone;split at hA'
  case h_2=>cases hA'
  rename_i cl hg hcl;obtain ⟨hready,⟨n,hf⟩,ho⟩:=oneX_ok hone;have tail:∀ q cap,∃ s',(d.st.rowTo r (rowL f dl (l++ys) q cap e sz true)).put o.dst (.v (.one (.row d.st.nr q (l++ys).length cap)))=some s' ∧
    pushX c0 d r (rowL f dl (l++ys) q cap e sz true)=⟨n,d.listed.setIfInBounds i true,s'⟩:=by
   intro q cap;have h1:=haf q cap;unfold pushX;unfold pushD at h1 ⊢;rw [hone] at h1 ⊢;simp only at h1 ⊢;split at h1
   ·rename_i s' hs';refine ⟨s',hs',?_⟩;simp only [Option.getD_some,hf,Nat.add_sub_cancel]
   ·cases h1
  refine VD.append i A (fun i=>f ((l++ys).getD i dl)) hready hf ho hg hcl hA' (by rw [hn,e5,hlen]; exact hb) ?_ ?_ (fun k hk=>aTR r ((hasNat_mem _ _).1 hr) _ hlk k (by rw [e2] at hk; exact hk)) (fun q cap=>?_) (fun q cap s' hs'=>?_)
  ·intro i hi;rw [e2] at hi ⊢;have hi':i<l.length:=hi;show f ((l++ys).getD i dl)=f (l.getD i dl);rw [getD_left _ _ _ _ hi']
  ·intro i hi;rw [e3] at hi;rw [e4,← hx i hi,e2];show f ((l++ys).getD (l.length+i) dl)=f (ys.getD i dl);rw [getD_right]
  ·obtain ⟨s',hs',_⟩:=tail q cap;rw [e1,hrow,hn,hs']; rfl
  ·obtain ⟨s2,hs2,hpx⟩:=tail q cap;rw [e1,hrow,hn,hs2] at hs';cases hs';have hW:=put_W hs2;have hrw2:D.rows (d.st.rowTo r (rowL f dl (l++ys) q cap e sz true)):=by
    refine ⟨fun q' Q hQ=>?_,hrw.2.trans' (rowTo_le _ r _)⟩;have h1:=hrw.1 q' Q hQ;rw [a3] at hQ;obtain ⟨hne,hw⟩:=look_heldOf' hQ;have hlt':q'<d.st.nr:=Nat.lt_of_lt_of_le (hlt q' Q hw) (by rw [← a5]; exact hrw.2.nr);show look ((d.st.nr,_)::eraseK r d.st.rows) q'=some Q;simp only [look];have hb':Nat.beq d.st.nr q'=false:=by
     cases hb:Nat.beq d.st.nr q' with
     | true=>have:=(beq_iff _ _).1 hb; omega
     | false=>rfl
    rw [hb'];simp only;rw [look_eraseK_ne (fun e=>hne (by rw [e]; exact (hasNat_mem _ _).1 hr))];exact h1
   have hrw3:D.rows s':=⟨fun r R hR=>by rw [show s'.rows=_ from congrArg WF.rows hW]; exact hrw2.1 r R hR,by rw [hW]; exact hrw2.2⟩;have:=k q cap;rw [hpx] at this;exact this D hD a1 a2 a3 a4 a5 a6 hL hsel aT aTR hlt hrw3
end
end Go.SX
end
section
namespace Go.SX
open Go
section
variable {C:Ctx} {ρ:Nat→Nat} {s:St} {a:Act} {w w':World}
theorem next_ok {R:Row} (hlen:∀ i,i<R.n→(R.get i).length=R.size∧∀ x∈R.get i,x.plain) {q:Option Addr} {m cap:Nat} {news:List Value}
  (hown:w'.ownsRow 0 R.elem R.size (.slice q (R.n+m) cap) (R.n+m) (R.flat++news)) (get:Nat→List SV) (h1:∀ i,i<R.n→get i=R.get i)
  (h2:(List.range m).flatMap (fun i=>(get (R.n+i)).map SV.den0)=news) (h3:∀ i,i<m→(get (R.n+i)).length=R.size∧∀ x∈get (R.n+i),x.plain) :
  (R.next q m cap get).ok w':=by
 have hflat:(R.next q m cap get).flat=R.flat++news:=by
  simp only [Row.flat,Row.next];rw [List.range_add,List.flatMap_append,← h2];congr 1
  ·have:∀ (l:List Nat),(∀ i∈l,i<R.n)→l.flatMap (fun i=>(get i).map SV.den0)=l.flatMap (fun i=>(R.get i).map SV.den0):=by
    intro l
    induction l with
    | nil=>intro _; rfl
    | cons c l ih=>intro hl; simp only [List.flatMap_cons]; rw [h1 c (hl c (List.mem_cons_self ..)),ih (fun i hi=>hl i (List.mem_cons_of_mem _ hi))]
   exact this _ (fun i hi=>List.mem_range.1 hi)
  ·rw [List.flatMap_map]
 have hlens:∀ i,i<R.n+m→(get i).length=R.size∧∀ x∈get i,x.plain:=by
  intro i hi;by_cases hin:i<R.n
  ·rw [h1 i hin]; exact hlen i hin
  ·have:=h3 (i - R.n) (by omega)
   rwa [show R.n+(i - R.n)=i by omega] at this
 refine ⟨hlens,fun hpos=>?_,fun _ _=>(by rw [hflat]; exact hown),fun o ho=>(by cases ho)⟩;have hpos':0<R.n+m:=hpos;rcases hown.2 with ⟨hv,hz⟩ | ⟨g,cap0,cur,hv,_⟩
 ·omega
 ·injection hv with e1 e2 e3;refine ⟨g,0,e1,fun i j x hi hx=>?_⟩;have hcell:=World.ownsRow.cells (w:=w') hown (g:=g) (by rw [e1]; rfl);have hf:=flat_get (fun i=>(get i).map SV.den0) R.size (R.n+m) (fun i hi=>by rw [List.length_map]; exact (hlens i hi).1) i j x.den0 hi (by
   have hx':(get i)[j]?=some x:=hx;simp [hx'])
  have hf':(R.flat++news)[i*R.size+j]?=some x.den0:=by rw [← hflat]; exact hf
  have:=hcell _ _ hf';rw [Addr_add_lit] at this;exact this
theorem Sat.reRow (h:Sat C ρ s a w) {r:Nat} {R:Row} (hR:look s.rows r=some R) (ho:R.own=true) (N:Row) (hokN:N.ok w')
  (hg:Chg (fun k=>R.uses k) w w') (huseN:∀ k,N.uses k→R.uses k∨k=w.heap.size∧k<w'.heap.size):Sat C ρ (s.rowTo r N) a w':=by
 obtain ⟨hr0,hok,huse⟩:=h.rows r R hR;have hle:=rowTo_le s r N;refine ⟨h.n,fun i v hv=>⟨(h.slots i v hv).1,RV.wf_mono hle v (h.slots i v hv).2⟩,h.grds,?_,h.inj,fun b hb=>Nat.lt_of_lt_of_le (h.lt b hb) hg.size,h.defers,?_,?_,?_,?_,h.fix⟩
 ·intro b blk hb;obtain ⟨k1,k2,k3,k4⟩:=h.heap b blk hb;refine ⟨k1,?_,fun x hx=>SV.wf_mono hle x (k3 x hx),k4⟩;rw [hg.block _ (h.lt b k1) (fun hu=>(huse _ hu).2.1 b k1 rfl)];exact k2
 ·refine ⟨hg.os.trans h.chg.os,hg.tape.trans h.chg.tape,hg.output.trans h.chg.output,Nat.le_trans h.chg.size hg.size,fun k hk hS=>?_⟩;rw [hg.block k (Nat.lt_of_lt_of_le hk h.chg.size) (fun hu=>?_)]
  ·exact h.chg.block k hk hS
  ·rcases (huse k hu).2.2 ho with e | e
   ·omega
   ·exact hS e
 ·intro r' R' hR';simp only [St.rowTo,look] at hR';split at hR'
  ·rename_i e;cases hR';have:=(beq_iff _ _).1 e;refine ⟨by show r'<s.nr+1; omega,hokN,fun k hk=>?_⟩;rcases huseN k hk with hu | ⟨rfl,hlt⟩
   ·obtain ⟨u1,u2,u3⟩:=huse k hu;exact ⟨Nat.lt_of_lt_of_le u1 hg.size,u2,fun _=>u3 ho⟩
   ·exact ⟨hlt,fun b hb=>by have:=h.lt b hb; omega,fun _=>.inl h.chg.size⟩
  ·obtain ⟨hne,hl⟩:=look_eraseK hR';obtain ⟨k0,k1,k2⟩:=h.rows r' R' hl;refine ⟨by show r'<s.nr+1; omega,k1.congr (fun k hk=>hg.block k (k2 k hk).1 (fun hu=>h.rowsD r r' R R' hR hl (fun e=>hne e.symm) ho k hu hk)),fun k hk=>?_⟩;obtain ⟨u1,u2,u3⟩:=k2 k hk;exact ⟨Nat.lt_of_lt_of_le u1 hg.size,u2,u3⟩
 ·intro r1 r2 R1 R2 hR1 hR2 hne ho1 k hk1 hk2;simp only [St.rowTo,look] at hR1 hR2;split at hR1
  ·rename_i e1;cases hR1;split at hR2
   ·rename_i e2; have:=(beq_iff _ _).1 e1; have:=(beq_iff _ _).1 e2; omega
   ·obtain ⟨hne2,hl2⟩:=look_eraseK hR2;rcases huseN k hk1 with hu | ⟨rfl,_⟩
    ·exact h.rowsD r r2 R R2 hR hl2 (fun e=>hne2 e.symm) ho k hu hk2
    ·have:=((h.rows r2 R2 hl2).2.2 _ hk2).1; omega
  ·obtain ⟨hne1,hl1⟩:=look_eraseK hR1;split at hR2
   ·cases hR2;rcases huseN k hk2 with hu | ⟨rfl,_⟩
    ·exact h.rowsD r1 r R1 R hl1 hR hne1 ho1 k hk1 hu
    ·have:=((h.rows r1 R1 hl1).2.2 _ hk1).1; omega
   ·obtain ⟨hne2,hl2⟩:=look_eraseK hR2;exact h.rowsD r1 r2 R1 R2 hl1 hl2 hne ho1 k hk1 hk2
 ·intro p hp;obtain ⟨p1,p2,p3⟩:=h.pers p hp;have hk:∀ k,p.D k→w'.heap[k]?=w.heap[k]?:=fun k hD=>hg.block k (p3 k hD).1 ((p3 k hD).2.2 r R hR ho);refine ⟨p2 _ hk,fun w2 hw2=>p2 w2 (fun k hD=>(hw2 k hD).trans (hk k hD)),fun k hD=>?_⟩;obtain ⟨u1,u2,u3⟩:=p3 k hD;refine ⟨Nat.lt_of_lt_of_le u1 hg.size,u2,fun r' R' hR' ho' hu'=>?_⟩;simp only [St.rowTo,look] at hR';split at hR'
  ·cases hR';rcases huseN k hu' with hu | ⟨rfl,_⟩
   ·exact u3 r R hR ho hu
   ·omega
  ·exact u3 r' R' (look_eraseK hR').2 ho' hu'
def frzOf (P:Program) (c:Cfg):Option Value :=
 match headOp c with
 | some (.convert src dst x)=>match Nat.beq src dst,P.underlying src,ev c.st none x with
  | true,some (.slice e),some (.one (.val v))=>match P.underlying e with
   | some (.int .u8)=>some v
   | _=>none
  | _,_,_=>none
 | _=>none
def Row.ro (R:Row):Row:=⟨R.s,R.n,R.cap,R.elem,R.size,R.get,false,none⟩
theorem frz_run {P:Program} {t e:TypeId} (ht:P.underlying t=some (.slice e)) (he:P.underlying e=some (.int .u8)) {g:Nat} {cur:Array Value} {el:TypeId} (hg:w.heap[g]?=some (.cells cur el (0,0))) (n cap:Nat) :
  (convert t t (.slice (some ⟨g,0,none⟩) n cap)).run P w=.ok (.slice (some ⟨g,0,none⟩) n cap) (w.freeze ⟨g,cur.size,none⟩ 1):=by
 have hsh:w.shape? g=some (el,cur.size):=by
  unfold World.shape?;rw [hg]
 simp [convert,run_underlying ht,run_underlying he,markStringish,hsh]
theorem freeze_at {g k:Nat} {cur:Array Value} {el:TypeId} (hg:w.heap[g]?=some (.cells cur el (0,0))) :
  (w.freeze ⟨g,k,none⟩ 1).heap[g]?=some (.cells cur el (k,k+1))∧Chg (fun j=>j=g) w (w.freeze ⟨g,k,none⟩ 1):=by
 unfold World.freeze;rw [if_neg (by decide)];refine ⟨?_,rfl,rfl,rfl,by simp,fun j _ hj=>?_⟩
 ·simp [Array.getElem?_modify,hg]
 ·simp [Array.getElem?_modify,Ne.symm hj]
theorem V.frz (r:Nat) (R:Row) {c:Cfg} (hc:frzOf C.P c=some (.slice R.s R.n R.cap)) (hR:look c.st.rows r=some R) (hr:(R.own&&R.obj.isNone&&Nat.blt 0 R.n)=true)
  (haf:(afterOp c (c.st.rowTo r R.ro) (.v (.one (.row c.st.nr R.s R.n R.cap)))).isSome=true)
  (k:V C (afterD c (c.st.rowTo r R.ro) (.v (.one (.row c.st.nr R.s R.n R.cap))))):V C c:=by
 unfold frzOf at hc;split at hc
 case h_2=>cases hc
 rename_i src dst x hop;split at hc
 case h_2=>cases hc
 rename_i e v hsd hs hx;split at hc
 case h_2=>cases hc
 rename_i he;injection hc with hc;subst hc;rw [Bool.and_eq_true,Bool.and_eq_true] at hr;obtain ⟨⟨hown,hobj⟩,hn⟩:=hr;rw [Option.isNone_iff_eq_none] at hobj;have hsd':=(beq_iff _ _).1 hsd;subst hsd';refine V.opM hop (fun ρ a w o ho hS=>?_);obtain ⟨e1,e2⟩:=ev_sound hS.toP (GcOk.none c.st) hx;obtain ⟨_,hok,_⟩:=hS.rows r R hR;have hpos:0<R.n:=by rw [Nat.blt_eq] at hn; exact hn
 have how:=hok.own hown hobj;rcases how.2 with ⟨_,hz⟩ | ⟨g,cap,cur,hv,_,hg,_⟩
 ·omega
 injection hv with h1 h2 h3;have hrun:=frz_run (w:=w) hs he hg R.n R.cap;obtain ⟨hg',hch⟩:=freeze_at (k:=cur.size) hg;have huse:R.uses g:=⟨_,h1,rfl,.inl hown⟩;have hokN:R.ro.ok (w.freeze ⟨g,cur.size,none⟩ 1):=by
  refine ⟨hok.len,fun _=>?_,fun h=>(by cases h),fun o h=>(by cases h)⟩;obtain ⟨b,off,q1,q2⟩:=hok.addr hpos;refine ⟨b,off,q1,fun i j x hi hx=>?_⟩;have:=q2 i j x hi hx;have hb:b=g:=by rw [h1] at q1; injection q1 with q1; injection q1 with q1; exact q1.symm
  subst hb;simp only [World.cell?,hg,hg'] at this ⊢;exact this
 refine ⟨ρ,.v (.one (.row c.st.nr R.s R.n R.cap)),_,c.st.rowTo r R.ro,?_,hS.reRow hR hown R.ro hokN (hch.mono fun j hj=>hj▸huse) (fun k hk=>.inl ?_),?_,by simp,_,afterD_some haf,k⟩
 ·unfold execOp;rw [ho];refine execVal2 ?_;rw [e1,show CV.den ρ (.one (.val (.slice R.s R.n R.cap)))=.slice R.s R.n R.cap from rfl,show RV.den ρ (.v (.one (.row c.st.nr R.s R.n R.cap)))=.slice R.s R.n R.cap from rfl,h1];exact hrun
 ·obtain ⟨ad,q1,q2,_⟩:=hk;exact ⟨ad,q1,q2,.inl hown⟩
 ·refine ⟨Nat.lt_succ_self _,fun R' hR'=>?_⟩;simp only [St.rowTo,St.W,look,Nat.beq_refl] at hR';cases hR';exact ⟨rfl,rfl,rfl⟩
theorem own_grown (z:Value) (size e:Nat) (hzs:z.cells.size=size) (n m old:Nat) (xs news:List Value) (hlen:(xs++news).length=(n+m)*size) (ho:old<n+m) (hmax:n+m≤maxLen) :
  (w.drew.alloc (.cells (xs.toArray++news.toArray++Builtin.zeroCells z.cells (grownCap w (n+m) old e - (n+m))) e)).ownsRow 0 e size
   (.slice (some ⟨w.heap.size,0,none⟩) (n+m) (grownCap w (n+m) old e)) (n+m) (xs++news) ∧
  Chg (fun _=>False) w (w.drew.alloc (.cells (xs.toArray++news.toArray++Builtin.zeroCells z.cells (grownCap w (n+m) old e - (n+m))) e)):=by
 have hge:=grownCap_ge w (n+m) old e;have hcm:grownCap w (n+m) old e≤maxLen:=grownCap_le_maxLen w (n+m) old e hmax;refine ⟨⟨hlen,.inr ⟨w.heap.size,_,_,rfl,Nat.zero_le _,heap_alloc_new w.drew _,hge,hcm,?_,?_⟩⟩,⟨rfl,rfl,rfl,by simp,fun k hk _=>Go.RowKit.Below.heap_alloc w.drew _ k hk⟩⟩
 ·simp only [Array.size_append,List.size_toArray,size_zeroCells,hzs];rw [← List.length_append,hlen,← Nat.add_mul];congr 1; omega
 ·simp only [Array.toList_append,List.append_assoc];rw [← List.append_assoc,← hlen];exact List.take_left
def appN (P:Program) (s:St) (cl:Call):Option App :=
 match cl.callee with
 | .builtin .append=>match cl.args.toList,cl.argTypes.toList with
  | [x,y],[t,u]=>match ev s none x,ev s none y with
   | some (.one (.row r _ _ _)),some src=>match look s.rows r,P.underlying t with
    | some R,some (.slice e)=>match Nat.beq R.n R.cap&&Nat.blt 0 R.n&&(R.s.map (fun a=>Nat.beq a.off 0)).getD false,Nat.beq R.elem e,P.info? e with
     | true,true,some i=>match Nat.beq i.size R.size,Nat.blt 0 i.bytes,i.zero with
      | true,true,some z=>match Nat.beq z.cells.size i.size,srcS P s u R.size src with
       | true,some (m,get)=>match Nat.blt 0 m with
        | true=>some ⟨t,u,e,i.bytes,r,R,m,get⟩
        | false=>none
       | _,_=>none
      | _,_,_=>none
     | _,_,_=>none
    | _,_=>none
   | _,_=>none
  | _,_=>none
 | _=>none
theorem appN_run (h:Sat C ρ s a w) {cl:Call} {ty:TypeId} {A:App} (hA:appN C.P s cl=some A) (hb:(A.R.n+A.m)*A.bytes≤140737488355328)
  (get:Nat→List SV) (h1:∀ i,i<A.R.n→get i=A.R.get i) (h2:∀ i,i<A.m→get (A.R.n+i)=A.get i) :
  ∃ q cap w',(do let d ← resolve a.eval cl ty; invoke d.target d.args:Sem Next).run C.P w=.ok (.value (.slice q (A.R.n+A.m) cap)) w' ∧
   Sat C ρ (s.more [A.R.next q A.m cap get] []) a w'∧Chg (fun _=>False) w w':=by
 obtain ⟨callee,args,argTypes⟩:=cl;unfold appN at hA;simp only at hA;split at hA
 case h_2=>cases hA
 split at hA
 case h_2=>cases hA
 rename_i x y t u hargs htys;have ha:args=#[x,y]:=by apply Array.ext'; simpa using hargs
 have htt:argTypes=#[t,u]:=by apply Array.ext'; simpa using htys
 subst ha; subst htt;split at hA
 case h_2=>cases hA
 rename_i r q0 n0 cap0 src hx hy;split at hA
 case h_2=>cases hA
 rename_i R e hR hu;split at hA
 case h_2=>cases hA
 rename_i i hful he hi;split at hA
 case h_2=>cases hA
 rename_i z hsz hby hz;split at hA
 case h_2=>cases hA
 rename_i m g hzs hsrc;split at hA
 case h_2=>cases hA
 rename_i hm;cases hA;simp only at hb h1 h2 ⊢;obtain ⟨e1,e1w⟩:=ev_sound h.toP (GcOk.none s) hx;obtain ⟨e2,e2w⟩:=ev_sound h.toP (GcOk.none s) hy;obtain ⟨hS,hgl⟩:=srcS_sound h.toP e2w hsrc;have hsz':=(beq_iff _ _).1 hsz;have hzs':=(beq_iff _ _).1 hzs;have he':=(beq_iff _ _).1 he;have hby':0<i.bytes:=by rw [Nat.blt_eq] at hby; exact hby
 have hm':0<m:=by rw [Nat.blt_eq] at hm; exact hm
 rw [Bool.and_eq_true,Bool.and_eq_true] at hful;obtain ⟨⟨hf1,hf2⟩,hf3⟩:=hful;have hnc:=(beq_iff _ _).1 hf1;have hpos:0<R.n:=by rw [Nat.blt_eq] at hf2; exact hf2
 obtain ⟨_,hwf⟩:=e1w;obtain ⟨rfl,rfl,rfl⟩:=hwf R hR;have hok:=(h.rows r R hR).2.1;obtain ⟨b,off,q1,q2⟩:=hok.addr hpos;have ho0:off=0:=by rw [q1] at hf3; exact (beq_iff _ _).1 hf3
 subst ho0;rw [← hsz'] at hS;have hlen:=hok.len;have hfl:R.flat.length=R.n*R.size:=flat_length (fun i=>(R.get i).map SV.den0) R.size R.n (fun i hi=>by rw [List.length_map]; exact (hlen i hi).1);have hcells:∀ j v,R.flat[j]?=some v→w.cell? ((⟨b,0,none⟩:Addr).add j)=some v:=by
  intro j v hj;obtain ⟨i,m,x,h1,h2,rfl,h4,rfl⟩:=flatAtN R.n (fun i hi=>(hlen i hi).1) j v hj;have:=q2 i m x h1 h4;rw [Addr_add_lit];exact this
 have hr:=app_grow (P:=C.P) (w:=w) t u ty e i z hu hi hz (src.den ρ) R.n m R.cap b R.flat _ hS (by omega) (by rw [hfl,hsz']) hcells hb hby';have hnm:R.n+m≤140737488355328:=Nat.le_trans (Nat.le_mul_of_pos_right _ hby') hb;have hfl2:(R.flat++(List.range m).flatMap fun j=>(g j).map SV.den0).length=(R.n+m)*i.size:=by rw [List.length_append,hfl,hS.size,hsz',← Nat.add_mul]
 obtain ⟨hown,hch⟩:=own_grown (w:=w) z i.size e hzs' R.n m R.cap R.flat _ hfl2 (by omega) (by simp only [maxLen]; omega);refine ⟨some ⟨w.heap.size,0,none⟩,grownCap w (R.n+m) R.cap e,_,?_,h.more hch ?_,hch⟩
 ·simp only [resolve,Sem.run_bind,Sem.run_pure,Result.andThen_ok,invoke,builtin,List.map_toArray,List.map_cons,List.map_nil,e1,e2];have:CV.den ρ (.one (.row r R.s R.n R.cap))=.slice R.s R.n R.cap:=rfl;rw [this,q1,hr];rfl
 ·have hN:(R.next (some ⟨w.heap.size,0,none⟩) m (grownCap w (R.n+m) R.cap e) get).ok _:=next_ok hlen (news:=(List.range m).flatMap fun i=>(g i).map SV.den0) (by rw [he',← hsz']; exact hown) get h1 (by
    have:∀ (l:List Nat),(∀ j∈l,j<m)→l.flatMap (fun j=>(get (R.n+j)).map SV.den0)=l.flatMap (fun j=>(g j).map SV.den0):=by
     intro l
     induction l with
     | nil=>intro _; rfl
     | cons c l ih=>intro hl; simp only [List.flatMap_cons]; rw [h2 c (hl c (List.mem_cons_self ..)),ih (fun j hj=>hl j (List.mem_cons_of_mem _ hj))]
    exact this _ (fun j hj=>List.mem_range.1 hj)) (fun j hj=>by rw [h2 j hj]; exact hgl j hj)
  refine ⟨fun r' R' hr'=>?_,fun r1 r2 R1 R2 k1 k2 hne ho=>?_,fun p hp=>by cases hp⟩
  ·simp only [numbered,look] at hr';split at hr'
   ·cases hr';refine ⟨hN,?_⟩;rintro k ⟨ad,hs',rfl,_⟩;cases hs';exact ⟨Nat.le_refl _,by show w.heap.size<(w.heap.push _).size; simp⟩
   ·cases hr'
  ·simp only [numbered,look] at k1 k2;split at k1
   ·rename_i e1;split at k2
    ·rename_i e2; have:=(beq_iff _ _).1 e1; have:=(beq_iff _ _).1 e2; omega
    ·cases k2
   ·cases k1
end
section
variable {C:Ctx} {T TR:List Nat} {L:Nat} {c0:Cfg} {d:DCfg}
def appXN (P:Program) (c0:Cfg) (d:DCfg):Option App :=
 match oneX c0 d with
 | some (_,o)=>match grdOf d.st (dOps c0) o.guard,callAt o with
  | .yes,some cl=>appN P d.st cl
  | _,_=>none
 | none=>none
def pushDN (c0:Cfg) (d:DCfg) (R:Row):Option DCfg :=
 match oneX c0 d with
 | some (i,o)=>match (d.st.more [R] []).put o.dst (.v (.one (.row d.st.nr R.s R.n R.cap))) with
  | some s'=>some ⟨d.fuel - 1,d.listed.setIfInBounds i true,s'⟩
  | none=>none
 | none=>none
def pushXN (c0:Cfg) (d:DCfg) (R:Row):DCfg:=(pushDN c0 d R).getD d
theorem VX.pushN {α:Type} (f:α→List SV) (dl:α) (l ys:List α) (q:Option Addr) (cap:Nat) (e:TypeId) (sz:Nat) (own:Bool) (m:Nat) (get:Nat→List SV) (bytes:Nat)
  (hA:(appXN C.P c0 d).map (fun A=>(A.R,A.m,A.get,A.bytes))=some (rowL f dl l q cap e sz own,m,get,bytes)) (hm:m=ys.length) (hb:(l.length+m)*bytes≤140737488355328) (hx:∀ i,i<m→f (ys.getD i dl)=get i)
  (haf:∀ q cap,(pushDN c0 d (rowL f dl (l++ys) q cap e sz true)).isSome=true)
  (k:∀ q cap,VX C T TR L c0 (pushXN c0 d (rowL f dl (l++ys) q cap e sz true))):VX C T TR L c0 d:=by
 intro D hD a1 a2 a3 a4 a5 a6 hL hsel aT aTR hlt hrw;cases hA':appXN C.P c0 d with
 | none=>rw [hA'] at hA; cases hA
 | some A =>
  rw [hA'] at hA;simp only [Option.map_some,Option.some.injEq,Prod.mk.injEq] at hA;obtain ⟨e2,e3,e4,e5⟩:=hA;have hlen:(l++ys).length=l.length+m:=by simp [hm]
  have hrow:∀ q cap,A.R.next q A.m cap (fun i=>f ((l++ys).getD i dl))=rowL f dl (l++ys) q cap e sz true:=by
   intro q cap;rw [e2,e3];simp only [Row.next,rowL,hlen]
  have hn:A.R.n+A.m=(l++ys).length:=by rw [e2,e3,hlen]; rfl
  unfold appXN at hA';split at hA'
  case h_2=>cases hA'
  rename_i i o hone;split at hA'
  case h_2=>cases hA'
  rename_i cl hg hcl;obtain ⟨hready,⟨n,hf⟩,ho⟩:=oneX_ok hone;intro ρ a w hS hρ hn0 hc hclo hsz;have hi:i∈Region.ready .any (dOps c0) d.listed:=by rw [hready]; simp
  rw [hf];refine wpAnyE_all hready (by simp) (fun j hj=>?_);have:j=i:=by simpa using hj
  subst this;have hop:o.op=.call cl:=by
   unfold callAt at hcl;split at hcl
   ·rename_i e; cases hcl; exact e
   ·cases hcl
  obtain ⟨q,cap,w',hrun,hS',hch⟩:=appN_run (ty:=o.type) hS hA' (by rw [hn,e5,hlen]; exact hb) (fun i=>f ((l++ys).getD i dl)) (fun i hi=>by
   rw [e2] at hi ⊢;have hi':i<l.length:=hi;show f ((l++ys).getD i dl)=f (l.getD i dl);rw [getD_left _ _ _ _ hi']) (fun i hi=>by
   rw [e3] at hi;rw [e4,← hx i hi,e2];show f ((l++ys).getD (l.length+i) dl)=f (ys.getD i dl);rw [getD_right])
  rw [hrow] at hS';have h1:=haf q cap;have h2:=k q cap;unfold pushXN at h2;unfold pushDN at h1 h2;rw [hone] at h1 h2;simp only at h1 h2;split at h1
  case h_2=>cases h1
  rename_i s' hs';rw [hs'] at h2;simp only [Option.getD_some,hf,Nat.add_sub_cancel] at h2;have hc2:Chg D.TS D.ws w':=hc.trans hch (fun k hk=>hk.elim);have hwf:(RV.v (.one (.row d.st.nr q (l++ys).length cap))).wf (d.st.more [rowL f dl (l++ys) q cap e sz true] []).W:=by
   refine ⟨Nat.lt_succ_self _,fun R' hR'=>?_⟩;have:look (d.st.more [rowL f dl (l++ys) q cap e sz true] []).W.rows d.st.nr=some (rowL f dl (l++ys) q cap e sz true):=by
    show look (appendL (numbered d.st.nr [rowL f dl (l++ys) q cap e sz true]) d.st.rows) d.st.nr=_;simp [numbered,appendL,look,Nat.beq_refl]
   rw [this] at hR';cases hR';exact ⟨rfl,rfl,rfl⟩
  have hW:=put_W hs';have hrw2:D.rows s':=by
   refine ⟨fun q' Q hQ=>?_,by rw [hW]; exact hrw.2.trans' (more_le d.st _ _)⟩;have h3:=hrw.1 q' Q hQ;rw [a3] at hQ;obtain ⟨_,hw⟩:=look_heldOf' hQ;have hlt':q'<d.st.nr:=Nat.lt_of_lt_of_le (hlt q' Q hw) (by rw [← a5]; exact hrw.2.nr);rw [show s'.rows=_ from congrArg WF.rows hW];show look (appendL (numbered d.st.nr [rowL f dl (l++ys) q cap e sz true]) d.st.rows) q'=some Q;have hb':Nat.beq d.st.nr q'=false:=by
    cases hb:Nat.beq d.st.nr q' with
    | true=>have:=(beq_iff _ _).1 hb; omega
    | false=>rfl
   simp only [numbered,appendL,look,hb'];exact h3
  unfold wpOp;simp only [ho,grd_yes hS hg,if_true];refine .inl ?_;unfold Oper.wp execOp;rw [hop];simp only;rw [hrun,hn];refine ⟨fun _=>hc2,h2 D hD a1 a2 a3 a4 a5 a6 hL hsel aT aTR hlt hrw2 ρ _ w' (hS'.put hs' hwf (fun g pol b x e=>by cases e)) hρ ?_ hc2 (hclo.set hi) (by simpa using hsz)⟩;show D.n0≤s'.next;rw [put_next hs']; exact hn0
end
end Go.SX
end
section
namespace Go.Proofs
open Go Go.SX
set_option maxRecDepth 10000
def dg16:List UInt8:=[48,49,50,51,52,53,54,55,56,57,97,98,99,100,101,102]
theorem dg_fin:∀ i:Fin 16,dg16.getD i.val 0=hexD i.val:=by decide +kernel
def dq (c:UInt8):Int:=IntKind.u8.wrap ((c.toNat:Int).tdiv 16)
def dr (c:UInt8):Int:=(c.toNat:Int).tmod 16
theorem dq_eq (c:UInt8):dq c=((c.toNat / 16:Nat):Int):=by
 have h:=c.toNat_lt;have e:(c.toNat:Int).tdiv 16=((c.toNat / 16:Nat):Int):=rfl;unfold dq;rw [e];simp [IntKind.wrap,IntKind.bits,IntKind.signed];omega
theorem dr_eq (c:UInt8):dr c=((c.toNat % 16:Nat):Int):=rfl
def hxG (c:UInt8) (j:Nat):List SV:=(([.int .u8 ((dg16.getD (dq c).toNat 0).toNat:Int),.int .u8 ((dg16.getD (dr c).toNat 0).toNat:Int)]:List SV).drop (j*1)).take 1
theorem hxG_eq (c:UInt8) (i:Nat) (hi:i<2):bsv (([hexD (c.toNat / 16),hexD (c.toNat % 16)]:List UInt8).getD i 0)=hxG c i:=by
 have h:=c.toNat_lt;have e1:dg16.getD (dq c).toNat 0=hexD (c.toNat / 16):=by rw [dq_eq,Int.toNat_natCast]; exact dg_fin ⟨c.toNat / 16,by omega⟩
 have e2:dg16.getD (dr c).toNat 0=hexD (c.toNat % 16):=by rw [dr_eq,Int.toNat_natCast]; exact dg_fin ⟨c.toNat % 16,by omega⟩
 unfold hxG;rw [e1,e2]
 match i,hi with
 | 0,_=>rfl
 | 1,_=>rfl
def hxO (s:List UInt8) (i:Nat):List Prop :=
 [(0:Int)≤i∧(i:Int)<s.length,(16:Int)≠0,0≤dq (s.getD i 0)∧dq (s.getD i 0)<16,(0:Int)≤i∧(i:Int)<s.length,(16:Int)≠0,0≤dr (s.getD i 0)∧dr (s.getD i 0)<16]
theorem hxO_ok {s:List UInt8} {i:Nat} (h:i<s.length):allP (hxO s i):=by
 have hc:=(s.getD i 0).toNat_lt;have h1:(0:Int)≤i∧(i:Int)<s.length:=⟨by omega,by omega⟩;have h2:(16:Int)≠0:=by decide
 refine ⟨h1,h2,?_,h1,h2,?_⟩
 ·rw [dq_eq]; omega
 ·have:=dr_eq (s.getD i 0);show (0:Int)≤dr (s.getD i 0)∧dr (s.getD i 0)<16;omega
def hrSt (s:List UInt8) (j:HXI):St :=
 { n:=31,slots:=[(0,.v (.one (.str s))),(2,.v (.one (.str []))),(3,.v (.one (.str dg16))),(4,.v (.one (.row 0 j.q j.l.length j.c))),(5,.v (.one (.int .i64 j.i)))],gs:=[],heap:=[],next:=0,
    rows:=[(0,rowL bsv 0 j.l j.q j.c 5 1 true)],nr:=1,pers:=[],wr:=true,fx:=0 }
set_option maxHeartbeats 2000000 in
theorem cHexR1 (s:List UInt8) (hs:s.length≤1000000000) (h0:0<s.length):CallsK Tryz.prog 125 [.one (.str s)] noF (fun _:Unit=>True) (fun _=>.v (.one (.str (hexT s)))) (fun _=>noF):=by
 refine CallsK.m true Tryz.func125 (fun ρ w=>?_);refine V.q ?_;refine V.rowB bsv 0 [61] 5 1 0 kq (fun _=>rfl) (fun x y hy=>by simp only [bsv,List.mem_singleton] at hy; subst hy; trivial) (by show 1≤maxLen; decide) (fun g=>kq) (fun g=>?_);refine V.frz 0 (rowL bsv 0 [61] (some ⟨g,0,none⟩) 1 5 1 true) kq kq kq kq ?_;refine V.q ?_;refine V.iter ?_;refine V.q ?_;refine V.kn 11 (decide ((0:Int)<s.length)) true (decide_eq_true (by omega)) ?_;refine V.q ?_;refine V.drawX [] [] 15 kq ?_;refine @VX.run _ [] [] 15 _ _ ([]:List (Ent Tryz.prog)) (hxO s 0) kq kq (hxO_ok h0) ?_;refine @VX.pushN _ [] [] 15 _ _ _ bsv 0 [61] [hexD ((s.getD 0 0).toNat / 16),hexD ((s.getD 0 0).toNat % 16)] (some ⟨g,0,none⟩) 1 5 1 false 2 (hxG (s.getD 0 0)) 1 kq rfl (by show 3*1≤140737488355328; omega) (hxG_eq (s.getD 0 0)) (fun _ _=>kq) (fun q cap=>?_);refine @VX.run _ [] [] 15 _ _ ([]:List (Ent Tryz.prog)) [] kq kq trivial ?_;refine @VX.stop _ [] [] 15 _ _ kq ?_;refine V.q ?_;refine V.loopK [0,2,3,4,5] [] (fun j:HXI=>s.length - j.i) (hrSt s) (fun j=>j.i≤s.length∧j.l=61::hexL (s.take j.i)) ⟨[61]++[hexD ((s.getD 0 0).toNat / 16),hexD ((s.getD 0 0).toNat % 16)],q,cap,1⟩ kq ⟨h0,by rw [hexL_next h0]; rfl⟩ (fun j hj ih=>?_);obtain ⟨l,q,c,i⟩:=j;obtain ⟨hi,hl⟩:=hj;simp only at hi hl;have hlen:l.length=2*i+1:=by rw [hl,List.length_cons,hexL_len,List.length_take,Nat.min_eq_left hi]
 refine V.iter ?_;refine V.q ?_;refine V.bn 11 (decide ((i:Int)<s.length)) (fun hb=>?_) (fun hb=>?_)
 ·have hlt:i<s.length:=by simpa using hb
  refine V.q ?_;refine V.drawX [] [0] 15 kq ?_;refine @VX.run _ [] [0] 15 _ _ ([]:List (Ent Tryz.prog)) (hxO s i) kq kq (hxO_ok hlt) ?_;refine @VX.pushes _ [] [0] 15 _ _ _ bsv 0 l [hexD ((s.getD i 0).toNat / 16),hexD ((s.getD i 0).toNat % 16)] 0 q c 5 1 2 (hxG (s.getD i 0)) 1 kq rfl kq kq (by rw [hlen]; omega) (hxG_eq (s.getD i 0)) (fun _ _=>kq) (fun q' c'=>?_);refine @VX.run _ [] [0] 15 _ _ ([]:List (Ent Tryz.prog)) [] kq kq trivial ?_;refine @VX.stop _ [] [0] 15 _ _ kq ?_;refine V.q ?_;refine V.s 5 (.one (.int .i64 (IntKind.i64.wrap ((i:Int)+1)))) (.one (.int .i64 ((i+1:Nat):Int))) (fun _=>by rw [wrap_n1 (by omega)]) ?_;refine V.againK [0,2,3,4,5] [] (ih ⟨l++[hexD ((s.getD i 0).toNat / 16),hexD ((s.getD i 0).toNat % 16)],q',c',i+1⟩ ⟨hlt,?_⟩ (by simp only; omega)) kq kq;simp only;rw [hl,hexL_next hlt];rfl
 ·have hle:i=s.length:=by
   have:¬ i<s.length:=by simpa using hb
   omega
  rw [hle,List.take_length] at hl;refine V.q ?_;refine V.toStr l 0 q c 5 true kq kq ?_;refine V.q ?_;subst hl;exact V.z
theorem cHexR0:CallsK Tryz.prog 125 [.one (.str [])] noF (fun _:Unit=>True) (fun _=>.v (.one (.str (hexT [])))) (fun _=>noF):=by
 refine CallsK.m true Tryz.func125 (fun ρ w=>?_);refine V.q ?_;refine V.rowB bsv 0 [61] 5 1 0 kq (fun _=>rfl) (fun x y hy=>by simp only [bsv,List.mem_singleton] at hy; subst hy; trivial) (by show 1≤maxLen; decide) (fun g=>kq) (fun g=>?_);refine V.frz 0 (rowL bsv 0 [61] (some ⟨g,0,none⟩) 1 5 1 true) kq kq kq kq ?_;refine V.q ?_;refine V.iter ?_;refine V.q ?_;refine V.kn 11 false false rfl ?_;refine V.q ?_;refine V.toStr [61] 1 (some ⟨g,0,none⟩) 1 5 false kq kq ?_;refine V.q ?_;exact V.z
theorem cHexR (s:List UInt8) (hs:s.length≤1000000000):CallsK Tryz.prog 125 [.one (.str s)] noF (fun _:Unit=>True) (fun _=>.v (.one (.str (hexT s)))) (fun _=>noF):=by
 by_cases h:0<s.length
 ·exact cHexR1 s hs h
 ·have:s=[]:=List.eq_nil_of_length_eq_zero (by omega);subst this;exact cHexR0
noncomputable def sHexR:Con Tryz.prog:=Con.s1 125 [] (fun s=>(.v (.one (.str (hexT s))),[s.length≤1000000000])) (fun s ρ w hob hp =>
 CallsK.gives (cHexR s (hob _ (List.mem_singleton.2 rfl))) ⟨rfl,rfl,rfl⟩ (fun _ _=>rfl) ρ w hp)
noncomputable def aBitR:Con Tryz.prog:=Con.auto Tryz.func126 true [] [] kq kq
noncomputable def T6R:List (Ent Tryz.prog):=[⟨sItoa,[0]⟩,aBitR.e,⟨sHexR,[]⟩]
noncomputable def aTyTextR:Con Tryz.prog:=Con.auto Tryz.func124 true T6R [glbP] kq kq
noncomputable def aFmTextR:Con Tryz.prog:=Con.auto Tryz.func127 true T6R [glbP] kq kq
noncomputable def aRegR:Con Tryz.prog:=Con.auto Tryz.func122 true [⟨sItoa,[0]⟩] [glbP] kq kq
noncomputable def sRegR:Con Tryz.prog:=aRegR.as (fun xs=>match xs with
  | [.one (.int .i64 n)]=>some (.v (.one (.str (rgT n))),[inK .i64 n])
  | _=>none) (by
 intro xs v ob h hob;split at h
 ·rename_i n;simp only [Option.some.injEq,Prod.mk.injEq] at h;obtain ⟨rfl,rfl⟩:=h;have hs:=hob _ (List.mem_singleton.2 rfl);refine ⟨.v (.one (.str (rgT n))),[decide (n<0)=false→inK IntKind.i64 n,decide (n<0)=false→1+(Lib.itoa n).length≤9223372036854775807],kq,?_,fun _=>rfl⟩;intro p hp;rcases List.mem_cons.1 hp with rfl | hp
  ·exact fun _=>hs
  ·rw [List.mem_singleton.1 hp];intro _;have:=Lib.itoa_length_le n hs.1 hs.2;omega
 ·cases h)
noncomputable def sTyTextR:Con Tryz.prog:=aTyTextR.as (fun xs=>match xs with
  | [.agg [.int .i64 k,.int .i64 p,.int .i64 q,.sb v,.str s]]=>some (.v (.one (.str (tyTx ⟨k,p,q,v,s⟩))),[inK .i64 k∧inK .i64 p∧inK .i64 q∧s.length≤1000000000])
  | _=>none) (by
 intro xs v ob h hob;split at h
 ·rename_i k p q v s;simp only [Option.some.injEq,Prod.mk.injEq] at h;obtain ⟨rfl,rfl⟩:=h;obtain ⟨hk,hp,hq,hs⟩:=hob _ (List.mem_singleton.2 rfl);have h1:=Lib.itoa_length_le k hk.1 hk.2;have h2:=Lib.itoa_length_le p hp.1 hp.2;have h3:=Lib.itoa_length_le q hq.1 hq.2;have h4:(bitU v).length=1:=by cases v<;>rfl
  have h5:=hexTl s;refine ⟨.v (.one (.str (tyTx ⟨k,p,q,v,s⟩))),[inK .i64 k,
     ((Lib.itoa k:List UInt8).length+1:Nat)≤9223372036854775807,
     inK .i64 p,
     ((Lib.itoa k++[44]:List UInt8).length+(Lib.itoa p).length:Nat)≤9223372036854775807,
     ((Lib.itoa k++[44]++Lib.itoa p:List UInt8).length+1:Nat)≤9223372036854775807,
     inK .i64 q,
     ((Lib.itoa k++[44]++Lib.itoa p++[44]:List UInt8).length+(Lib.itoa q).length:Nat)≤9223372036854775807,
     ((Lib.itoa k++[44]++Lib.itoa p++[44]++Lib.itoa q:List UInt8).length+1:Nat)≤9223372036854775807,
     ((Lib.itoa k++[44]++Lib.itoa p++[44]++Lib.itoa q++[44]:List UInt8).length+(bitU v).length:Nat)≤9223372036854775807,
     ((Lib.itoa k++[44]++Lib.itoa p++[44]++Lib.itoa q++[44]++bitU v:List UInt8).length+1:Nat)≤9223372036854775807,
     s.length≤1000000000,
     ((Lib.itoa k++[44]++Lib.itoa p++[44]++Lib.itoa q++[44]++bitU v++[44]:List UInt8).length+(hexT s).length:Nat)≤9223372036854775807],kq,?_,fun _=>rfl⟩
  intro r hr;simp only [List.mem_cons,List.not_mem_nil,or_false] at hr;rcases hr with rfl | rfl | rfl | rfl | rfl | rfl | rfl | rfl | rfl | rfl | rfl | rfl
  all_goals first
   | exact hk
   | exact hp
   | exact hq
   | exact hs
   | omega
   | (simp only [List.length_append,List.length_cons,List.length_nil,h4]<;>omega)
 ·cases h)
noncomputable def sFmTextR:Con Tryz.prog:=aFmTextR.as (fun xs=>match xs with
  | [.agg [.int .i64 k,.int .i64 p,.int .i64 q,.str s]]=>some (.v (.one (.str (fmTx ⟨k,p,q,s⟩))),[inK .i64 k∧inK .i64 p∧inK .i64 q∧s.length≤1000000000])
  | _=>none) (by
 intro xs v ob h hob;split at h
 ·rename_i k p q s;simp only [Option.some.injEq,Prod.mk.injEq] at h;obtain ⟨rfl,rfl⟩:=h;obtain ⟨hk,hp,hq,hs⟩:=hob _ (List.mem_singleton.2 rfl);have h1:=Lib.itoa_length_le k hk.1 hk.2;have h2:=Lib.itoa_length_le p hp.1 hp.2;have h3:=Lib.itoa_length_le q hq.1 hq.2;have h5:=hexTl s;refine ⟨.v (.one (.str (fmTx ⟨k,p,q,s⟩))),[inK .i64 k,
     ((Lib.itoa k:List UInt8).length+1:Nat)≤9223372036854775807,
     inK .i64 p,
     ((Lib.itoa k++[44]:List UInt8).length+(Lib.itoa p).length:Nat)≤9223372036854775807,
     ((Lib.itoa k++[44]++Lib.itoa p:List UInt8).length+1:Nat)≤9223372036854775807,
     inK .i64 q,
     ((Lib.itoa k++[44]++Lib.itoa p++[44]:List UInt8).length+(Lib.itoa q).length:Nat)≤9223372036854775807,
     ((Lib.itoa k++[44]++Lib.itoa p++[44]++Lib.itoa q:List UInt8).length+1:Nat)≤9223372036854775807,
     s.length≤1000000000,
     ((Lib.itoa k++[44]++Lib.itoa p++[44]++Lib.itoa q++[44]:List UInt8).length+(hexT s).length:Nat)≤9223372036854775807],kq,?_,fun _=>rfl⟩
  intro r hr;simp only [List.mem_cons,List.not_mem_nil,or_false] at hr;rcases hr with rfl | rfl | rfl | rfl | rfl | rfl | rfl | rfl | rfl | rfl
  all_goals first
   | exact hk
   | exact hp
   | exact hq
   | exact hs
   | omega
   | (simp only [List.length_append,List.length_cons,List.length_nil]<;>omega)
 ·cases h)
theorem letters (o:Nat) (ho:o<256):(rfN (o:Int)).2=((opFind (o:Int)).getD []).map Fl.ch:=by
 by_cases h:1≤(o:Int)∧(o:Int)≤38
 ·have hi:isOp o=true:=(isOp_iff o).2 (by omega);rw [rfN_op hi];unfold opFind;rw [if_pos h];rfl
 ·unfold rfN opFind;rw [if_neg (by omega),if_neg h];rfl
end Go.Proofs
end
