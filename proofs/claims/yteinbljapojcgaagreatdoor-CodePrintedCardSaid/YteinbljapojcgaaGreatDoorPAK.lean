/- A symbolic run of the program that Lean checks, and what the functions of the program come to by it: part 11 of 12. -/
import Derived.Lib.CountLaws
import Derived.Shelf.Lays
import Derived.Ground.Names2Prog
import Derived.Shelf.Strings.Search3
import Derived.Test.YteinbljapojcgaaGreatDoorProg
import Derived.Test.YteinbljapojcgaaGreatDoorPAJ
set_option linter.unusedVariables false
section
namespace Go.Proofs
open Go Go.SX
theorem reg_sound {l:List UInt8} (h:regB l=true):regT (regN l)=l:=by
 unfold regB at h;unfold regN;cases e:(l==[45]) with
 | true=>rw [beq_iff_eq.1 e]; rfl
 | false =>
  rw [e] at h;simp only [cond_false,Bool.and_eq_true,decide_eq_true_eq,beq_iff_eq] at h ⊢;obtain ⟨⟨h1,h2⟩,h3⟩:=h;cases l with
  | nil=>simp at h3
  | cons c r =>
   have hc:c=114:=by
    apply UInt8.toNat_inj.1;simp only [List.getD_cons_zero] at h3;have:(114:UInt8).toNat=114:=rfl;omega
   subst hc;rw [trimP_cons] at h1 h2 ⊢;unfold regT;rw [if_neg (by omega),(dec_sound h1).1]
theorem beq_false {α:Type} [BEq α] [LawfulBEq α] {a b:α} (h:a≠b):(a==b)=false:=by rw [beq_eq_false_iff_ne]; exact h
theorem reg_compl {n:Int} (h:isRg n=true):regB (regT n)=true∧regN (regT n)=n:=by
 have h1:=isRg_iff h;unfold regT;by_cases hn:n<0
 ·rw [if_pos hn];have:n=-1:=by omega
  subst this;exact ⟨rfl,rfl⟩
 ·rw [if_neg hn];have hd:=dec_compl (n:=n) (isNum_iff.2 ⟨by omega,by omega⟩);unfold regB regN;rw [beq_false (show (114::Lib.itoa n:List UInt8)≠[45] by intro e; cases e),trimP_cons,hd.1,hd.2];simp only [cond_false,Bool.true_and,List.getD_cons_zero];refine ⟨?_,trivial⟩;rw [decide_eq_true (by omega)];rfl
theorem rg_eq (n:Int):rgT n=regT n:=by
 unfold rgT regT;by_cases h:n<0
 ·rw [decide_eq_true h,if_pos h]; rfl
 ·rw [decide_eq_false h,if_neg h]; rfl
theorem sm_sound {p:List UInt8} (h:smB p=true):rgT (regN p)=p:=by
 unfold smB at h;rw [Bool.and_eq_true] at h;rw [rg_eq];exact reg_sound h.1
theorem sm_compl {n:Int} (h:fineI n=true):smB (rgT n)=true∧regN (rgT n)=n:=by
 have h1:=fineI_lt h;have h2:=reg_compl (n:=n) (by unfold isRg; simp; omega);rw [rg_eq];unfold smB;rw [h2.1,h2.2];refine ⟨?_,rfl⟩;rw [decide_eq_true (by omega)];rfl
theorem psLs_G:∀ (ps:List (List UInt8)) (l:List Int),psLs l ps=psG smB regN l ps
 | [],l=>rfl
 | p::ps,l=>by rw [psLs,psG,psLs_G ps]
theorem l_sound {s:List UInt8} (h:lB s=true):[91]++lS s++[93]=s:=by
 unfold lB at h;rw [Bool.and_eq_true] at h;unfold lS;rw [List.append_assoc,← trimS_eq h.2];exact (hasP_eq h.1).symm
theorem l_compl (t:List UInt8):lB ([91]++t++[93])=true∧lS ([91]++t++[93])=t:=by
 have e:([91]++t++[93]:List UInt8)=91::(t++[93]):=rfl;unfold lB lS;rw [e,hasP_cons,trimP_cons,(trimS_app t 93).1,(trimS_app t 93).2];exact ⟨rfl,rfl⟩
theorem lst_sound {α:Type} {B:List UInt8→Bool} {N:List UInt8→α} (tx:α→List UInt8) (hB:∀ p,B p=true→tx (N p)=p) {s:List UInt8} (h:(lB s&&(psG B N [] (partsC 59 (lS s))).2)=true) :
  [91]++Lib.join ((psG B N [] (partsC 59 (lS s))).1.map tx) [59]++[93]=s:=by
 rw [Bool.and_eq_true] at h;have:=psG_sound tx hB (partsC 59 (lS s)) [] (psG B N [] (partsC 59 (lS s))).1 (by rw [← h.2]);rw [this,List.map_nil,List.nil_append,join_parts,l_sound h.1]
theorem lst_compl {α:Type} {B:List UInt8→Bool} {N:List UInt8→α} (tx:α→List UInt8) (m:List α) (hm:∀ a∈m,B (tx a)=true∧N (tx a)=a) (hl:(m.length:Int)≤16) (h59:∀ a∈m,(59:UInt8) ∉ tx a) (hne:∀ a∈m,tx a≠[]) :
  lB ([91]++Lib.join (m.map tx) [59]++[93])=true∧psG B N [] (partsC 59 (lS ([91]++Lib.join (m.map tx) [59]++[93])))=(m,true):=by
 obtain ⟨h1,h2⟩:=l_compl (Lib.join (m.map tx) [59]);refine ⟨h1,?_⟩;rw [h2,parts_join 59 (m.map tx) (fun w hw=>by obtain ⟨a,ha,rfl⟩:=List.mem_map.1 hw; exact h59 a ha) (fun w hw=>by obtain ⟨a,ha,rfl⟩:=List.mem_map.1 hw; exact hne a ha),psG_compl tx m [] hm (by simp; omega)];rfl
def fldB (b:UInt8):Prop:=plainB b∨b=33∨b=44∨b=59∨b=64∨b=91∨b=93∨b=114
theorem fld_no {b c:UInt8} (h:fldB b) (hc:c=32∨c=10):c≠b:=by
 rintro rfl;rcases hc with rfl | rfl
 ·rcases h with h | h | h | h | h | h | h | h
  ·exact plain_no h (by decide) rfl
  all_goals exact absurd h (by decide)
 ·rcases h with h | h | h | h | h | h | h | h
  ·exact plain_no h (by decide) rfl
  all_goals exact absurd h (by decide)
theorem fld_app {a b:List UInt8} (ha:∀ x∈a,fldB x) (hb:∀ x∈b,fldB x):∀ x∈a++b,fldB x:=fun x hx=>(List.mem_append.1 hx).elim (ha x) (hb x)
theorem fld_one {c:UInt8} (h:fldB c):∀ x∈[c],fldB x:=fun x hx=>by rw [List.mem_singleton.1 hx]; exact h
theorem fld_itoa (n:Int):∀ x∈Lib.itoa n,fldB x:=fun x hx=>.inl (itoa_plain n x hx)
theorem fld_hex (s:List UInt8):∀ x∈hexT s,fldB x:=fun x hx=>.inl (hexT_plain s x hx)
theorem fld_bit (v:Bool):∀ x∈bitU v,fldB x:=fun x hx=>.inl (bitU_plain v x hx)
theorem c44:fldB 44:=.inr (.inr (.inl rfl))
theorem fld_ty (t:Ty):∀ x∈tyTx t,fldB x :=
 fld_app (fld_app (fld_app (fld_app (fld_app (fld_app (fld_app (fld_app (fld_itoa _) (fld_one c44)) (fld_itoa _)) (fld_one c44)) (fld_itoa _)) (fld_one c44)) (fld_bit _)) (fld_one c44)) (fld_hex _)
theorem fld_fm (t:Fm):∀ x∈fmTx t,fldB x :=
 fld_app (fld_app (fld_app (fld_app (fld_app (fld_app (fld_itoa _) (fld_one c44)) (fld_itoa _)) (fld_one c44)) (fld_itoa _)) (fld_one c44)) (fld_hex _)
theorem fld_reg (n:Int):∀ x∈regT n,fldB x:=by
 unfold regT;split
 ·exact fld_one (.inl (.inl rfl))
 ·exact fld_app (a:=[114]) (fld_one (.inr (.inr (.inr (.inr (.inr (.inr (.inr rfl)))))))) (fld_itoa _)
theorem fld_pr (n:Int):∀ x∈prT n,fldB x:=by
 unfold prT;split
 ·exact fld_app (a:=[33]) (fld_one (.inr (.inl rfl))) (fld_one (.inl (.inl rfl)))
 ·exact fld_app (a:=[33]) (fld_one (.inr (.inl rfl))) (fld_itoa _)
theorem fld_join {l:List (List UInt8)} (h:∀ w∈l,∀ x∈w,fldB x):∀ x∈Lib.join l [59],fldB x:=by
 induction l with
 | nil=>intro x hx; cases hx
 | cons w l ih =>
  cases l with
  | nil=>rw [Lib.join_one]; exact h w (List.mem_cons_self ..)
  | cons v l =>
   rw [join_two];exact fld_app (h w (List.mem_cons_self ..)) (fld_app (a:=[59]) (fld_one (.inr (.inr (.inr (.inl rfl))))) (ih (fun w hw=>h w (List.mem_cons_of_mem _ hw))))
theorem fld_lst {α:Type} (tx:α→List UInt8) (h:∀ a,∀ x∈tx a,fldB x) (m:List α):∀ x∈[91]++Lib.join (m.map tx) [59]++[93],fldB x :=
 fld_app (fld_app (fld_one (.inr (.inr (.inr (.inr (.inr (.inl rfl))))))) (fld_join fun w hw=>by obtain ⟨a,_,rfl⟩:=List.mem_map.1 hw; exact h a)) (fld_one (.inr (.inr (.inr (.inr (.inr (.inr (.inl rfl))))))))
theorem fld_txt (f:Fl) (x:In):∀ b∈f.txt x,fldB b:=by
 have h64:∀ n:Int,∀ b∈64::Lib.itoa n,fldB b:=fun n=>fld_app (a:=[64]) (fld_one (.inr (.inr (.inr (.inr (.inl rfl)))))) (fld_itoa _);cases f
 case D=>exact fld_reg _
 case A=>exact fld_reg _
 case B=>exact fld_reg _
 case N=>exact fld_itoa _
 case M=>exact fld_itoa _
 case P=>exact fld_itoa _
 case T=>exact fld_ty _
 case U=>exact fld_ty _
 case W=>exact fld_ty _
 case V=>exact fld_app (fld_app (fld_itoa _) (fld_one c44)) (fld_hex _)
 case L=>exact fld_lst rgT (fun a=>by rw [rg_eq]; exact fld_reg a) x.l
 case Y=>exact fld_lst tyTx fld_ty x.y
 case F=>exact fld_lst fmTx fld_fm x.f
 case Sz=>show ∀ b∈bitT _,fldB b; cases FSel.get .S x<;>exact fld_one (.inl (.inr (.inr (.inl (by decide)))))
 case Rg=>show ∀ b∈bitT _,fldB b; cases FSel.get .R x<;>exact fld_one (.inl (.inr (.inr (.inl (by decide)))))
 case aN=>exact h64 _
 case aM=>exact h64 _
 case pN=>exact fld_pr _
 case pM=>exact fld_pr _
 case far=>exact fld_app (fld_app (fld_app (fld_one (.inr (.inl rfl))) (fld_itoa _)) (fld_one (.inr (.inr (.inr (.inr (.inl rfl))))))) (fld_itoa _)
theorem pl_sound {l:List UInt8} (h:(decB (Lib.trimPrefix l [64])&&Lib.hasPrefix l [64])=true):64::Lib.itoa (decN (Lib.trimPrefix l [64]))=l:=by
 rw [Bool.and_eq_true] at h;rw [(dec_sound h.1).1];exact (hasP_eq h.2).symm
theorem pl_compl {n:Int} (h:isPl n=true):(decB (Lib.trimPrefix (64::Lib.itoa n) [64])&&Lib.hasPrefix (64::Lib.itoa n) [64])=true∧decN (Lib.trimPrefix (64::Lib.itoa n) [64])=n:=by
 obtain ⟨k,e,hk⟩:=isPl_nat h;have hd:=dec_compl (n:=n) (isNum_iff.2 ⟨by omega,by omega⟩);rw [trimP_cons,hasP_cons,hd.1,hd.2];exact ⟨rfl,rfl⟩
theorem pr_sound {l:List UInt8} (h:prB l=true):prT (prN l)=l:=by
 unfold prB at h;unfold prN;cases e:(Lib.trimPrefix l [33]==[45]) with
 | true =>
  rw [e] at h;simp only [cond_true] at h ⊢;have e2:=hasP_eq h;rw [beq_iff_eq.1 e] at e2;rw [e2]; rfl
 | false =>
  rw [e] at h;simp only [cond_false,Bool.and_eq_true,decide_eq_true_eq] at h ⊢;unfold prT;rw [if_neg (by omega),(dec_sound h.1.1).1];exact (hasP_eq h.1.2).symm
theorem itoa_ne45 {n:Int} (h:0≤n):(Lib.itoa n==[45])=false:=by
 refine beq_false (fun e=>?_);have e2:Lib.itoa n=Lib.decDigits n.toNat:=by unfold Lib.itoa; rw [if_neg (by omega)]
 have:=digits_dig n.toNat 45 (by rw [← e2,e]; exact List.mem_singleton.2 rfl);simp at this
theorem pr_compl {n:Int} (h:0≤n∧n≤100000∨n=-1):prB (prT n)=true∧prN (prT n)=n:=by
 rcases h with h | rfl
 ·have hd:=dec_compl (n:=n) (isNum_iff.2 ⟨by omega,by omega⟩);unfold prT;rw [if_neg (by omega)];unfold prB prN;rw [trimP_cons,hasP_cons,itoa_ne45 h.1,hd.1,hd.2];simp only [cond_false,Bool.true_and,decide_eq_true_eq];exact ⟨h.1,trivial⟩
 ·exact ⟨rfl,rfl⟩
theorem isPr_lt {no:Bool} {n:Int} (h:isPr no n=true):0≤n∧n≤100000∨n=-1:=by
 unfold isPr at h;simp only [Bool.and_eq_true,Bool.or_eq_true,decide_eq_true_eq,beq_iff_eq] at h;omega
theorem cut_split {s a b:List UInt8} {c:UInt8} (h:Lib.cut s [c]=(a,b,true)):s=a++c::b:=by
 rw [cut_one] at h
 induction s generalizing a with
 | nil=>simp [cutC] at h
 | cons x l ih =>
  unfold cutC at h;by_cases hx:(x==c)=true
  ·rw [if_pos hx] at h;simp only [Prod.mk.injEq,and_true] at h;rw [← h.1,← h.2,beq_iff_eq.1 hx]; rfl
  ·rw [if_neg hx] at h;simp only [Prod.mk.injEq] at h;obtain ⟨h1,h2,h3⟩:=h;rw [← h1];rw [List.cons_append,← ih (a:=(cutC c l).1) (by rw [← h2,← h3])]
theorem cut_app {b:List UInt8} {c:UInt8}:∀ {a:List UInt8},c ∉ a→Lib.cut (a++c::b) [c]=(a,b,true):=by
 intro a h;rw [cut_one]
 induction a with
 | nil=>simp [cutC]
 | cons x l ih =>
  rw [List.cons_append,cutC,beq_false (fun e=>h (by rw [e]; exact List.mem_cons_self ..)),if_neg (by decide),ih (fun hm=>h (List.mem_cons_of_mem _ hm))]
theorem far_sound {l:List UInt8} (h:frB l=true):farTx { (zeroI:In) with p:=decN (farC l).1,n:=decN (farC l).2.1 }=l:=by
 unfold frB at h;simp only [Bool.and_eq_true] at h;obtain ⟨⟨⟨h1,h2⟩,h3⟩,h4⟩:=h;unfold farTx;simp only;rw [(dec_sound h3).1,(dec_sound h4).1];have e:=cut_split (s:=Lib.trimPrefix l [33]) (a:=(farC l).1) (b:=(farC l).2.1) (c:=64) (by rw [← h2]; rfl);have e2:=hasP_eq h1;rw [e] at e2;refine Eq.trans ?_ e2.symm;simp
theorem far_compl {x:In} (h:isFar x=true):frB (farTx x)=true∧decN (farC (farTx x)).1=x.p∧decN (farC (farTx x)).2.1=x.n:=by
 unfold isFar at h;simp only [Bool.and_eq_true,decide_eq_true_eq] at h;have hp:=dec_compl (n:=x.p) (isNum_iff.2 ⟨by omega,by omega⟩);have hn:=dec_compl (n:=x.n) (isNum_iff.2 ⟨by omega,by omega⟩);have e:farTx x=33::(Lib.itoa x.p++64::Lib.itoa x.n):=by unfold farTx; simp
 have hc:farC (farTx x)=(Lib.itoa x.p,Lib.itoa x.n,true):=by
  unfold farC;rw [e,trimP_cons,cut_app (fun hm=>plain_no (itoa_plain _ _ hm) (by decide) rfl)]
 unfold frB;rw [hc,e,hasP_cons];simp only;rw [hp.1,hn.1];exact ⟨rfl,hp.2,hn.2⟩
theorem vl_sound {l:List UInt8} (h:vlB l=true):Lib.itoa (decN (pC l 0))++[44]++hexT (unN (pC l 1))=l:=by
 unfold vlB at h;simp only [Bool.and_eq_true,beq_iff_eq] at h;obtain ⟨⟨h0,h2⟩,h5⟩:=h;have e:Lib.itoa (decN (pC l 0))++[44]++hexT (unN (pC l 1))=Lib.join [Lib.itoa (decN (pC l 0)),hexT (unN (pC l 1))] [44]:=by simp [Lib.join_cons,Lib.joinTail]
 rw [e,(dec_sound h2).1,un_sound h5,← parts2 h0,join_parts]
theorem vl_compl {x:In} (h:isNum x.vn=true):vlB (vlTx x)=true∧decN (pC (vlTx x) 0)=x.vn∧unN (pC (vlTx x) 1)=x.vs:=by
 have e:=vl_parts x;have p0:pC (vlTx x) 0=Lib.itoa x.vn:=by unfold pC; rw [e]; rfl
 have p1:pC (vlTx x) 1=hexT x.vs:=by unfold pC; rw [e]; rfl
 unfold vlB;rw [p0,p1,(dec_compl h).1,(dec_compl h).2,(un_compl _).1,(un_compl _).2,e];exact ⟨rfl,rfl,rfl⟩
theorem prs_sound (f:Fl) (l:List UInt8) (x:In) (h:(f.prs l x).1=true) (hy:f.fr x):f.txt (f.prs l x).2=l:=by
 have ht:∀ s,tyB s=true→tyTx (tyV s)=s:=fun s h=>ty_sound h;have hb:((l==[48])||(l==[49]))=true→bitT (l==[49])=l:=by
  intro h;rw [Bool.or_eq_true,beq_iff_eq,beq_iff_eq] at h;rcases h with rfl | rfl<;>rfl
 cases f
 case D=>exact reg_sound h
 case A=>exact reg_sound h
 case B=>exact reg_sound h
 case N=>exact (dec_sound h).1
 case M=>exact (dec_sound h).1
 case P=>exact (dec_sound h).1
 case T=>exact ht _ h
 case U=>exact ht _ h
 case W=>exact ht _ h
 case V=>exact vl_sound h
 case L =>
  have hy:x.l=[]:=hy;have h:(lB l&&(psLs x.l (partsC 59 (lS l))).2)=true:=h;show [91]++Lib.join ((psLs x.l (partsC 59 (lS l))).1.map rgT) [59]++[93]=l;rw [hy,psLs_G] at h ⊢;exact lst_sound rgT (fun p hp=>sm_sound hp) h
 case Y =>
  have hy:x.y=[]:=hy;have h:(lB l&&(psG tyB tyV x.y (partsC 59 (lS l))).2)=true:=h;show [91]++Lib.join ((psG tyB tyV x.y (partsC 59 (lS l))).1.map tyTx) [59]++[93]=l;rw [hy] at h ⊢;exact lst_sound tyTx (fun p hp=>ty_sound hp) h
 case F =>
  have hy:x.f=[]:=hy;have h:(lB l&&(psG fmB fmV x.f (partsC 59 (lS l))).2)=true:=h;show [91]++Lib.join ((psG fmB fmV x.f (partsC 59 (lS l))).1.map fmTx) [59]++[93]=l;rw [hy] at h ⊢;exact lst_sound fmTx (fun p hp=>fm_sound hp) h
 case Sz=>exact hb h
 case Rg=>exact hb h
 case aN=>exact pl_sound h
 case aM=>exact pl_sound h
 case pN=>exact pr_sound h
 case pM=>exact pr_sound h
 case far=>exact far_sound h
theorem prs_compl (f:Fl) (x y:In) (h:f.fineB x=true) (hy:f.fr y):f.prs (f.txt x) y=(true,f.mv x y):=by
 have hr:∀ n:Int,isRg n=true→regB (regT n)=true∧regN (regT n)=n:=fun n h=>reg_compl h;have hd:∀ n:Int,isNum n=true→decB (Lib.itoa n)=true∧decN (Lib.itoa n)=n:=fun n h=>dec_compl h;have ht:∀ t:Ty,isTy t=true→tyB (tyTx t)=true∧tyV (tyTx t)=t:=fun t h=>by
  unfold isTy at h;simp only [Bool.and_eq_true] at h;exact ty_compl h.1.1.1 h.1.1.2 h.1.2
 have hb:∀ v:Bool,((bitT v==[48])||(bitT v==[49]))=true∧(bitT v==[49])=v:=by intro v; cases v<;>decide
 cases f
 case D =>
  show (regB (regT (Sel.get .D x)),Sel.set .D y (regN (regT (Sel.get .D x))))=_;rw [(hr _ h).1,(hr _ h).2]; rfl
 case A =>
  show (regB (regT (Sel.get .A x)),Sel.set .A y (regN (regT (Sel.get .A x))))=_;rw [(hr _ h).1,(hr _ h).2]; rfl
 case B =>
  show (regB (regT (Sel.get .B x)),Sel.set .B y (regN (regT (Sel.get .B x))))=_;rw [(hr _ h).1,(hr _ h).2]; rfl
 case N =>
  show (decB (Lib.itoa (Sel.get .N x)),Sel.set .N y (decN (Lib.itoa (Sel.get .N x))))=_;rw [(hd _ h).1,(hd _ h).2]; rfl
 case M =>
  show (decB (Lib.itoa (Sel.get .M x)),Sel.set .M y (decN (Lib.itoa (Sel.get .M x))))=_;rw [(hd _ h).1,(hd _ h).2]; rfl
 case P =>
  show (decB (Lib.itoa (Sel.get .P x)),Sel.set .P y (decN (Lib.itoa (Sel.get .P x))))=_;rw [(hd _ h).1,(hd _ h).2]; rfl
 case T =>
  show (tyB (tyTx (TSel.get .T x)),TSel.set .T y (tyV (tyTx (TSel.get .T x))))=_;rw [(ht _ h).1,(ht _ h).2]; rfl
 case U =>
  show (tyB (tyTx (TSel.get .U x)),TSel.set .U y (tyV (tyTx (TSel.get .U x))))=_;rw [(ht _ h).1,(ht _ h).2]; rfl
 case W =>
  show (tyB (tyTx (TSel.get .W x)),TSel.set .W y (tyV (tyTx (TSel.get .W x))))=_;rw [(ht _ h).1,(ht _ h).2]; rfl
 case V =>
  obtain ⟨v1,v2,v3⟩:=vl_compl (x:=x) (and_l h);show (vlB (vlTx x),({ y with vn:=decN (pC (vlTx x) 0),vs:=unN (pC (vlTx x) 1) }:In))=_;rw [v1,v2,v3]; rfl
 case L =>
  have hy:y.l=[]:=hy;have h1:∀ n∈x.l,fineI n=true:=List.all_eq_true.1 (and_l h);obtain ⟨e1,e2⟩:=lst_compl (B:=smB) (N:=regN) rgT x.l (fun a ha=>sm_compl (h1 a ha)) (of_decide_eq_true (and_r h)) (fun a ha hm=>by
   rw [rg_eq] at hm;unfold regT at hm;split at hm
   ·exact absurd (List.mem_singleton.1 hm) (by decide)
   ·rcases List.mem_cons.1 hm with hm | hm
    ·exact absurd hm (by decide)
    ·exact plain_no (itoa_plain _ _ hm) (by decide) rfl) (fun a ha=>by
   rw [rg_eq];unfold regT;split<;>exact List.cons_ne_nil _ _)
  show (lB _&&(psLs y.l (partsC 59 (lS _))).2,({ y with l:=(psLs y.l (partsC 59 (lS _))).1 }:In))=_;rw [hy,psLs_G];show (lB ([91]++Lib.join (x.l.map rgT) [59]++[93])&&(psG smB regN [] (partsC 59 (lS ([91]++Lib.join (x.l.map rgT) [59]++[93])))).2,({ y with l:=(psG smB regN [] (partsC 59 (lS ([91]++Lib.join (x.l.map rgT) [59]++[93])))).1 }:In))=_;rw [e1,e2]; rfl
 case Y =>
  have hy:y.y=[]:=hy;have h1:∀ n∈x.y,isTy n=true:=List.all_eq_true.1 (and_l h);obtain ⟨e1,e2⟩:=lst_compl (B:=tyB) (N:=tyV) tyTx x.y (fun a ha=>ht a (h1 a ha)) (of_decide_eq_true (and_r h)) (fun a ha hm=>no59_ty a hm) (fun a ha=>ty_ne a);show (lB ([91]++Lib.join (x.y.map tyTx) [59]++[93])&&(psG tyB tyV y.y (partsC 59 (lS ([91]++Lib.join (x.y.map tyTx) [59]++[93])))).2,({ y with y:=(psG tyB tyV y.y (partsC 59 (lS ([91]++Lib.join (x.y.map tyTx) [59]++[93])))).1 }:In))=_;rw [hy,e1,e2]; rfl
 case F =>
  have hy:y.f=[]:=hy;have h1:∀ n∈x.f,isFm n=true:=List.all_eq_true.1 (and_l h);obtain ⟨e1,e2⟩:=lst_compl (B:=fmB) (N:=fmV) fmTx x.f (fun a ha=>by
   have h:=h1 a ha;unfold isFm at h;simp only [Bool.and_eq_true] at h;exact fm_compl h.1.1.1 h.1.1.2 h.1.2) (of_decide_eq_true (and_r h)) (fun a ha hm=>no59_fm a hm) (fun a ha=>fm_ne a)
  show (lB ([91]++Lib.join (x.f.map fmTx) [59]++[93])&&(psG fmB fmV y.f (partsC 59 (lS ([91]++Lib.join (x.f.map fmTx) [59]++[93])))).2,({ y with f:=(psG fmB fmV y.f (partsC 59 (lS ([91]++Lib.join (x.f.map fmTx) [59]++[93])))).1 }:In))=_;rw [hy,e1,e2]; rfl
 case Sz =>
  show ((bitT (FSel.get .S x)==[48])||(bitT (FSel.get .S x)==[49]),FSel.set .S y (bitT (FSel.get .S x)==[49]))=_;rw [(hb _).1,(hb _).2]; rfl
 case Rg =>
  show ((bitT (FSel.get .R x)==[48])||(bitT (FSel.get .R x)==[49]),FSel.set .R y (bitT (FSel.get .R x)==[49]))=_;rw [(hb _).1,(hb _).2]; rfl
 case aN =>
  have hp:=pl_compl (n:=Sel.get .N x) h;show (decB (Lib.trimPrefix (64::Lib.itoa (Sel.get .N x)) [64])&&Lib.hasPrefix (64::Lib.itoa (Sel.get .N x)) [64],Sel.set .N y (decN (Lib.trimPrefix (64::Lib.itoa (Sel.get .N x)) [64])))=_;rw [hp.1,hp.2]; rfl
 case aM =>
  have hp:=pl_compl (n:=Sel.get .M x) h;show (decB (Lib.trimPrefix (64::Lib.itoa (Sel.get .M x)) [64])&&Lib.hasPrefix (64::Lib.itoa (Sel.get .M x)) [64],Sel.set .M y (decN (Lib.trimPrefix (64::Lib.itoa (Sel.get .M x)) [64])))=_;rw [hp.1,hp.2]; rfl
 case pN =>
  have hp:=pr_compl (n:=Sel.get .N x) (isPr_lt (no:=false) h);show (prB (prT (Sel.get .N x)),Sel.set .N y (prN (prT (Sel.get .N x))))=_;rw [hp.1,hp.2]; rfl
 case pM =>
  have hp:=pr_compl (n:=Sel.get .M x) (isPr_lt (no:=true) h);show (prB (prT (Sel.get .M x)),Sel.set .M y (prN (prT (Sel.get .M x))))=_;rw [hp.1,hp.2]; rfl
 case far =>
  obtain ⟨v1,v2,v3⟩:=far_compl (x:=x) h;show (frB (farTx x),({ y with p:=decN (farC (farTx x)).1,n:=decN (farC (farTx x)).2.1 }:In))=_;rw [v1,v2,v3]; rfl
end Go.Proofs
end
section
namespace Go.Proofs
open Go Go.SX
def Fl.key:Fl→List Nat
 | .D=>[1] | .A=>[2] | .B=>[3] | .N=>[19] | .M=>[20] | .P=>[21] | .T=>[4] | .U=>[9] | .W=>[14] | .V=>[22] | .L=>[25] | .Y=>[26] | .F=>[24]
 | .Sz=>[27] | .Rg=>[28] | .aN=>[19] | .aM=>[20] | .pN=>[19] | .pM=>[20] | .far=>[19,21]
def Fl.ind (f g:Fl):Bool:=f.key.all fun k=>!g.key.contains k
theorem txt_ind (f g:Fl) (l:List UInt8) (y:In) (h:f.ind g=true):f.txt (g.prs l y).2=f.txt y:=by
 cases f<;>cases g<;>first | exact absurd h (by decide) | rfl
theorem fr_ind (f g:Fl) (l:List UInt8) (y:In) (h:f.ind g=true) (hy:f.fr y):f.fr (g.prs l y).2:=by
 cases f<;>cases g<;>first | exact absurd h (by decide) | exact hy
theorem op_prs (g:Fl) (l:List UInt8) (y:In):(g.prs l y).2.op=y.op:=by cases g<;>rfl
theorem prsL_op:∀ (l:List Fl) (ws:List (List UInt8)) (y z:In),prsL l ws y=some z→z.op=y.op
 | [],ws,y,z,h=>by cases h; rfl
 | f::l,ws,y,z,h=>by
  rw [prsL_cons] at h;split at h
  ·rw [prsL_op l _ _ z h,op_prs]
  ·cases h
theorem prsL_keep (f:Fl):∀ (l:List Fl) (ws:List (List UInt8)) (y z:In),(∀ g∈l,f.ind g=true)→prsL l ws y=some z→f.txt z=f.txt y
 | [],ws,y,z,_,h=>by cases h; rfl
 | g::l,ws,y,z,hi,h=>by
  rw [prsL_cons] at h;split at h
  ·rw [prsL_keep f l _ _ z (fun g hg=>hi g (List.mem_cons_of_mem _ hg)) h,txt_ind f g _ _ (hi g (List.mem_cons_self ..))]
  ·cases h
def indL:List Fl→Bool
 | []=>true
 | f::l=>l.all (fun g=>f.ind g&&g.ind f)&&indL l
theorem prsL_sound:∀ (l:List Fl) (ws:List (List UInt8)) (y z:In),indL l=true→(∀ f∈l,f.fr y)→ws.length=l.length→prsL l ws y=some z→lineW z l=ws
 | [],[],y,z,_,_,_,_=>rfl
 | [],_::_,y,z,_,_,hl,_=>by simp at hl
 | f::l,[],y,z,_,_,hl,_=>by simp at hl
 | f::l,w::ws,y,z,hi,hy,hl,h=>by
  rw [prsL_cons] at h;simp only [List.getD_cons_zero,List.drop_succ_cons,List.drop_zero] at h;unfold indL at hi;rw [Bool.and_eq_true,List.all_eq_true] at hi;split at h
  ·rename_i ho;have h1:=prsL_keep f l ws _ z (fun g hg=>and_l (hi.1 g hg)) h;rw [prs_sound f w y ho (hy f (List.mem_cons_self ..))] at h1;have h2:=prsL_sound l ws _ z hi.2 (fun g hg=>fr_ind g f w y (and_r (hi.1 g hg)) (hy g (List.mem_cons_of_mem _ hg))) (by simpa using hl) h;show f.txt z::lineW z l=_;rw [h1,h2]
  ·cases h
theorem fr_mv2 (f g:Fl) (x y:In) (h:f.ind g=true) (hy:f.fr y):f.fr (g.mv x y):=by
 cases f<;>cases g<;>first | exact absurd h (by decide) | exact hy
theorem prsL_compl (x:In):∀ (l:List Fl) (y:In),indL l=true→(∀ f∈l,f.fineB x=true)→(∀ f∈l,f.fr y)→prsL l (lineW x l) y=some (mvL x l y)
 | [],y,_,_,_=>rfl
 | f::l,y,hi,hf,hy=>by
  unfold indL at hi;rw [Bool.and_eq_true,List.all_eq_true] at hi;have e:lineW x (f::l)=f.txt x::lineW x l:=rfl;rw [prsL_cons,e,List.getD_cons_zero,prs_compl f x y (hf f (List.mem_cons_self ..)) (hy f (List.mem_cons_self ..)),if_pos rfl,List.drop_succ_cons,List.drop_zero];exact prsL_compl x l (f.mv x y) hi.2 (fun g hg=>hf g (List.mem_cons_of_mem _ hg)) (fun g hg=>fr_mv2 g f x y (and_r (hi.1 g hg)) (hy g (List.mem_cons_of_mem _ hg)))
theorem ops_ind {o:Nat} (ho:isOp o=true):indL (opFls o)=true:=all_ops (p:=fun o=>indL (opFls o)) kq ho
theorem fr_empty (f:Fl) (n:Int):f.fr (emptyI n):=by cases f<;>first | rfl | trivial
theorem name_no (o:Nat) (ho:isOp o=true) (c:UInt8) (hc:c=32∨c=10):c ∉ opName o:=by
 have:=all_ops (p:=fun o=>!(opName o).contains 32&&!(opName o).contains 10) kq ho;simp only [Bool.and_eq_true,Bool.not_eq_true',List.contains_eq_mem,decide_eq_false_iff_not] at this;rcases hc with rfl | rfl
 ·exact this.1
 ·exact this.2
theorem fine_op {x:In} (h:cFine x=true):∃ o,isOp o=true∧x.op=(o:Int):=by
 by_cases hop:1≤x.op∧x.op≤38
 ·exact ⟨x.op.toNat,(isOp_iff _).2 (by omega),by omega⟩
 ·have:cFine x=false:=by unfold cFine opFind; rw [if_neg hop]
  rw [this] at h; cases h
theorem fnAll {x:In} {o:Nat} (ho:isOp o=true) (e:x.op=(o:Int)) (h:cFine x=true):(∀ f∈opFls o,f.fineB x=true)∧mvL x (opFls o) (emptyI (o:Int))=x:=by
 have h1:=(isOp_iff o).1 ho;have hfind:opFind x.op=some (opFls o):=by unfold opFind; rw [if_pos (by omega),e]; rfl
 have hc:cFine x=((opFls o).all (fun f=>f.fineB x)&&eqIn x (mvL x (opFls o) (emptyI x.op))):=by unfold cFine; rw [hfind]
 rw [hc] at h;refine ⟨List.all_eq_true.1 (and_l h),?_⟩;rw [← e];exact (eqIn_eq (and_r h)).symm
theorem line_words (x:In) (o:Nat) (ho:isOp o=true):splitC 32 (lineT x o)=opName o::lineW x (opFls o):=by
 refine split_join 32 _ (List.cons_ne_nil _ _) (fun w hw hm=>?_);rcases List.mem_cons.1 hw with rfl | hw
 ·exact name_no o ho 32 (.inl rfl) hm
 ·obtain ⟨f,_,rfl⟩:=List.mem_map.1 hw;exact fld_no (fld_txt f x _ hm) (.inl rfl) rfl
theorem read_some {s:List UInt8} {x:In} (h:cReadS (splitC 32 s)=some x):∃ o,isOp o=true∧x.op=(o:Int)∧cFine x=true∧lineT x o=s:=by
 unfold cReadS at h;cases hf:rdFind ((splitC 32 s).getD 0 []) with
 | none=>rw [hf] at h; cases h
 | some o =>
  rw [hf] at h;simp only at h;have hm:=List.mem_of_find?_eq_some hf;obtain ⟨i,hi,rfl⟩:=List.mem_map.1 hm;have hir:=List.mem_range.1 hi;have ho:isOp (i+1)=true:=(isOp_iff _).2 (by omega);have hnm:opName (i+1)=(splitC 32 s).getD 0 []:=by simpa using List.find?_some hf
  split at h
  ·rename_i hlen;cases hp:prsL (opFls (i+1)) ((splitC 32 s).drop 1) (emptyI ((i+1:Nat):Int)) with
   | none=>rw [hp] at h; cases h
   | some y =>
    rw [hp] at h;simp only at h;split at h
    ·rename_i hfine;cases h;refine ⟨i+1,ho,prsL_op _ _ _ _ hp,hfine,?_⟩;have hs:=prsL_sound _ _ _ _ (ops_ind ho) (fun f _=>fr_empty f _) (by rw [List.length_drop]; omega) hp;unfold lineT;rw [hs,hnm];have e:(splitC 32 s).getD 0 []::(splitC 32 s).drop 1=splitC 32 s:=by
      cases hc:splitC 32 s with
      | nil=>exact absurd hc (split_ne 32 s)
      | cons a l=>rfl
     rw [e,join_split]
    ·cases h
  ·cases h
theorem read_line {x:In} {o:Nat} (ho:isOp o=true) (e:x.op=(o:Int)) (h:cFine x=true):cReadS (splitC 32 (lineT x o))=some x:=by
 obtain ⟨h1,h2⟩:=fnAll ho e h;rw [line_words x o ho];unfold cReadS;rw [List.getD_cons_zero,rdFind_some ho];simp only;rw [if_pos (by simp [lineW]),List.drop_succ_cons,List.drop_zero,prsL_compl x (opFls o) _ (ops_ind ho) h1 (fun f _=>fr_empty f _),h2];simp only;rw [if_pos h]
theorem count_split (c:UInt8):∀ (k:Nat) (s:List UInt8),s.length<k→Lib.countFrom [c] k s+1=(splitC c s).length∧Lib.splitK [c] 0 (Lib.countFrom [c] k s) s=splitC c s
 | 0,s,h=>absurd h (Nat.not_lt_zero _)
 | k+1,s,h=>by
  have hge:=Lib.index_ge s [c];have hcut:=splitC_cut c s;rw [← cut_one] at hcut;unfold Lib.countFrom;by_cases hi:(Lib.index s [c]==-1)=true
  ·have hi':Lib.index s [c]=-1:=by simpa using hi
   rw [if_pos hi];have e:Lib.cut s [c]=(s,[],false):=by unfold Lib.cut; rw [hi']; rfl
   rw [hcut,e];exact ⟨rfl,rfl⟩
  ·have hi':0≤Lib.index s [c]:=by
    have:Lib.index s [c]≠-1:=by simpa using hi
    omega
   have e:Lib.cut s [c]=(s.take (Lib.index s [c]).toNat,s.drop ((Lib.index s [c]).toNat+1),true):=by unfold Lib.cut; rw [if_pos hi']; rfl
   have hne:s≠[]:=by
    rintro rfl;simp [Lib.index] at hi
   have hl:(s.drop ((Lib.index s [c]).toNat+1)).length<k:=by
    rw [List.length_drop];have:0<s.length:=List.length_pos_iff.2 hne;omega
   obtain ⟨h1,h2⟩:=count_split c k (s.drop ((Lib.index s [c]).toNat+1)) hl;rw [if_neg hi,hcut,e];simp only [if_true,List.length_cons,List.length_nil,Nat.zero_add];refine ⟨by omega,?_⟩;rw [Nat.add_comm 1,Lib.splitK,if_neg hi];simp only [Nat.add_zero,List.length_cons,List.length_nil,Nat.zero_add];rw [h2]
theorem splS_eq (c:UInt8) (s:List UInt8):splS s [c]=splitC c s∧(splitC c s).length=Lib.countB ⟨s.toArray⟩ ⟨[c].toArray⟩+1:=by
 obtain ⟨h1,h2⟩:=count_split c (s.length+1) s (Nat.lt_succ_self _);have e:Lib.countB ⟨s.toArray⟩ ⟨[c].toArray⟩=Lib.countFrom [c] (s.length+1) s:=by
  unfold Lib.countB Lib.count;simp
 refine ⟨?_,by rw [e]; exact h1.symm⟩;unfold splS;rw [Lib.splitB_data,e];simpa using h2
end Go.Proofs
end
section
namespace Go.Proofs
open Go Go.SX
def De {α:Type} (X:RIn) (g:RSt→α×RSt) (e:α→List UInt8):Prop:=∀ r,okIn X r→(g r).2.bad=false→X.s.drop r.at_=e (g r).1++X.s.drop (g r).2.at_
theorem rfL_some (b:List UInt8) (a:Nat):∀ (k i z:Nat) (p:Int×Nat),rfL b a k i z=some p→∃ j,p.2=a+j+1∧groups 9 (zz p.1)=(b.drop a).take (j+1)
 | 0,i,z,p,h=>by cases h
 | k+1,i,z,p,h=>by
  rw [rfL] at h;split at h
  ·split at h
   ·exact rfL_some b a k _ _ p h
   ·split at h
    ·rename_i hc;cases h;exact ⟨i,rfl,hc.2⟩
    ·cases h
  ·cases h
theorem de_num (X:RIn):De X (rdNum X) encN:=fun r hr hb=>by
 have hrb:=(ext_num (ext_self X) r hb).1;obtain ⟨a,b⟩:=r;simp only at hrb;subst hrb;have h:=rf_law X.s a 5 0 0 rfl hr.2 (fun x hx=>by simp at hx) rfl;have hR:rdNumL (xIn X.s) (5+1) ⟨a+0,false⟩ 0 (128 ^ 0) 0=rdNum X ⟨a,false⟩:=(rdNumL_s X _ _ _ _ _).symm;rw [hR] at h;cases e:rfL X.s a 5 0 0 with
 | none =>
  rw [e] at h;have h':(rdNum X ⟨a,false⟩).2.bad=true:=h;rw [h'] at hb; cases hb
 | some p =>
  rw [e] at h;have h':rdNum X ⟨a,false⟩=(p.1,⟨p.2,false⟩):=h;obtain ⟨j,h1,h2⟩:=rfL_some _ _ _ _ _ _ e;rw [h'];simp only;have h3:encN p.1=(X.s.drop a).take (j+1):=h2;rw [h1,h3,show a+j+1=a+(j+1) by omega,← List.drop_drop,List.take_append_drop]
theorem de_str (X:RIn):De X (rdStr X) encS:=fun r hr hb=>by
 have hn:=(rdNum_ok hr).1;unfold rdStr at hb ⊢;simp only at hb ⊢;split at hb
 ·cases hb
 ·rename_i hc;rw [if_neg hc];have h1:=de_num X r hr hb;have hl:((X.s.take ((rdNum X r).2.at_+(rdNum X r).1.toNat)).drop (rdNum X r).2.at_).length=(rdNum X r).1.toNat:=by
   rw [List.length_drop,List.length_take];have:=hn.2;omega
  have e:encS ((X.s.take ((rdNum X r).2.at_+(rdNum X r).1.toNat)).drop (rdNum X r).2.at_)=encN (rdNum X r).1++(X.s.take ((rdNum X r).2.at_+(rdNum X r).1.toNat)).drop (rdNum X r).2.at_:=by
   unfold encS;rw [hl];congr 2;omega
  rw [e,h1,List.append_assoc];congr 1;rw [List.drop_take,Nat.add_sub_cancel_left,← List.drop_drop,List.take_append_drop]
theorem drop_get {s:List UInt8} {a:Nat} (h:a<s.length):s.drop a=s.getD a 0::s.drop (a+1):=by
 rw [List.drop_eq_getElem_cons h,List.getD,List.getElem?_eq_getElem h]; rfl
theorem de_take (X:RIn):De X (takeB X) (fun c=>[c]):=fun r hr hb=>by
 unfold takeB at hb ⊢;split at hb
 ·rename_i h;rw [if_pos h];exact drop_get h
 ·cases hb
theorem de_flag (X:RIn):De X (rdFlag X) (fun v=>[bitB v]):=fun r hr hb=>by
 have hb':((takeB X r).2.bad||decide (1<(takeB X r).1.toNat))=false:=hb;rw [Bool.or_eq_false_iff,decide_eq_false_iff_not] at hb';have h1:=de_take X r hr hb'.1;have e:bitB ((takeB X r).1.toNat==1)=(takeB X r).1:=by
  have h01:(takeB X r).1.toNat=0∨(takeB X r).1.toNat=1:=by omega
  rcases h01 with h | h
  ·rw [h]; apply UInt8.toNat_inj.1; rw [h]; rfl
  ·rw [h]; apply UInt8.toNat_inj.1; rw [h]; rfl
 show X.s.drop r.at_=[bitB ((takeB X r).1.toNat==1)]++_;rw [e];exact h1
theorem de_ty (X:RIn):De X (rdTy X) encTy:=fun r hr hb=>by
 have hb4:(rdStr X (rdFlag X (rdNum X (rdNum X (rdNum X r).2).2).2).2).2.bad=false:=hb;have hb3:=(ext_str (ext_self X) _ hb4).1;have hb2:=(ext_flag (ext_self X) _ hb3).1;have hb1:=(ext_num (ext_self X) _ hb2).1;have hb0:=(ext_num (ext_self X) _ hb1).1;have o0:=(rdNum_ok hr).1;have o1:=(rdNum_ok o0).1;have o2:=(rdNum_ok o1).1;have o3:=rdFlag_ok o2;have e0:=de_num X r hr hb0;have e1:=de_num X _ o0 hb1;have e2:=de_num X _ o1 hb2;have e3:=de_flag X _ o2 hb3;have e4:=de_str X _ o3 hb4;show _=encTy ⟨_,_,_,_,_⟩++X.s.drop (rdStr X (rdFlag X (rdNum X (rdNum X (rdNum X r).2).2).2).2).2.at_;rw [e0,e1,e2,e3,e4];simp [encTy,rdTy]
theorem de_fm (X:RIn):De X (rdFm X) encFm:=fun r hr hb=>by
 have hb4:(rdStr X (rdNum X (rdNum X (rdNum X r).2).2).2).2.bad=false:=hb;have hb2:=(ext_str (ext_self X) _ hb4).1;have hb1:=(ext_num (ext_self X) _ hb2).1;have hb0:=(ext_num (ext_self X) _ hb1).1;have o0:=(rdNum_ok hr).1;have o1:=(rdNum_ok o0).1;have o2:=(rdNum_ok o1).1;have e0:=de_num X r hr hb0;have e1:=de_num X _ o0 hb1;have e2:=de_num X _ o1 hb2;have e4:=de_str X _ o2 hb4;show _=encFm ⟨_,_,_,_⟩++X.s.drop (rdStr X (rdNum X (rdNum X (rdNum X r).2).2).2).2.at_;rw [e0,e1,e2,e4];simp [encFm,rdFm]
theorem de_int (X:RIn):De X (gI X) eI:=fun r hr hb=>by
 have h:=de_num X r hr hb;show _=encN ((rdNum X r).1 - 1+1)++_;rw [Int.sub_add_cancel];exact h
theorem de_list {α:Type} {X:RIn} {g:RSt→α×RSt} {e:α→List UInt8} (h:De X g e) (o:OkF X g) (k0:Keeps g g):∀ k,De X (rdList g k) (fun l=>l.flatMap e)
 | 0,r,hr,hb=>rfl
 | k+1,r,hr,hb=>by
  have hb1:(rdList g k (g r).2).2.bad=false:=hb;have hb0:=(ext_list k0 k _ hb1).1;have e1:=de_list h o k0 k _ (o r hr) hb1;show _=((g r).1::(rdList g k (g r).2).1).flatMap e++X.s.drop (rdList g k (g r).2).2.at_;rw [h r hr hb0,e1,List.flatMap_cons,List.append_assoc]
theorem de_lst {α:Type} {X:RIn} {g:RSt→α×RSt} {e:α→List UInt8} (h:De X g e) (o:OkF X g) (k0:Keeps g g):De X (rdLst X g []) (encLst e):=fun r hr hb=>by
 have hn:=(rdNum_ok hr).1;unfold rdLst at hb ⊢;split at hb
 ·cases hb
 ·rename_i hc;rw [if_neg hc];simp only at hb ⊢;have hb0:=(ext_list k0 _ _ hb).1;have h1:=de_num X r hr hb0;have h2:=de_list h o k0 _ _ hn hb;simp only [Bool.or_eq_true,decide_eq_true_eq,not_or] at hc;unfold encLst;rw [List.nil_append,rdList_len,h1,h2,List.append_assoc,Int.toNat_of_nonneg (by omega)]
theorem be_four {n:Nat} {a b c d:UInt8} (h:((a.toNat*256+b.toNat)*256+c.toNat)*256+d.toNat=n):fourB (n:Int)=[a,b,c,d]:=by
 have ha:=a.toNat_lt;have hb:=b.toNat_lt;have hc:=c.toNat_lt;have hd:=d.toNat_lt;have e:∀ (k:Nat) (x:UInt8),n / 2 ^ k % 256=x.toNat→byteAt (n:Int) k=x:=fun k x hx=>by
  apply UInt8.toNat_inj.1;rw [byteAt_nat,hx]
 show [byteAt (n:Int) 24,byteAt (n:Int) 16,byteAt (n:Int) 8,byteAt (n:Int) 0]=_;rw [e 24 a (by omega),e 16 b (by omega),e 8 c (by omega),e 0 d (by omega)]
theorem four_bytes {X:RIn} {r:RSt} (hr:okIn X r) (hb:(rdFour X r).2.bad=false):∃ a b c d:UInt8,X.s.drop r.at_=[a,b,c,d]++X.s.drop (rdFour X r).2.at_∧(rdFour X r).1=wrap32 (((a.toNat*256+b.toNat)*256+c.toNat)*256+d.toNat):=by
 have hb3:(takeB X (takeB X (takeB X (takeB X r).2).2).2).2.bad=false:=hb;have hb2:=(ext_take (ext_self X) _ hb3).1;have hb1:=(ext_take (ext_self X) _ hb2).1;have hb0:=(ext_take (ext_self X) _ hb1).1;have o0:=takeB_ok hr;have o1:=takeB_ok o0;have o2:=takeB_ok o1;have e0:=de_take X r hr hb0;have e1:=de_take X _ o0 hb1;have e2:=de_take X _ o1 hb2;have e3:=de_take X _ o2 hb3;refine ⟨(takeB X r).1,(takeB X (takeB X r).2).1,(takeB X (takeB X (takeB X r).2).2).1,(takeB X (takeB X (takeB X (takeB X r).2).2).2).1,?_,?_⟩
 ·rw [e0,e1,e2,e3]; rfl
 ·have ha:=(takeB X r).1.toNat_lt;have hb:=(takeB X (takeB X r).2).1.toNat_lt;have hc:=(takeB X (takeB X (takeB X r).2).2).1.toNat_lt;have hd:=(takeB X (takeB X (takeB X (takeB X r).2).2).2).1.toNat_lt;show IntKind.i64.wrap (orB (orB (orB (orB 0 _) _) _) _)=_;rw [show orB 0 ((takeB X r).1.toNat:Int)=((0*256+(takeB X r).1.toNat:Nat):Int) from orB_3 (n:=0) (by decide) ha,Nat.zero_mul,Nat.zero_add,orB_3 (by omega) hb,orB_3 (by omega) hc,orB_4 (by omega) hd]
theorem de_four {X:RIn} {r:RSt} (hr:okIn X r) (hb:(rdFour X r).2.bad=false) (h0:0≤(rdFour X r).1):X.s.drop r.at_=fourB (rdFour X r).1++X.s.drop (rdFour X r).2.at_:=by
 obtain ⟨a,b,c,d,h1,h2⟩:=four_bytes hr hb;rw [h1];congr 1;have hlt:((a.toNat*256+b.toNat)*256+c.toNat)*256+d.toNat<2147483648:=by
  rw [h2] at h0;have ha:=a.toNat_lt; have hb:=b.toNat_lt; have hc:=c.toNat_lt; have hd:=d.toNat_lt;unfold wrap32 at h0;split at h0
  ·assumption
  ·omega
 have h3:wrap32 (((a.toNat*256+b.toNat)*256+c.toNat)*256+d.toNat)=((((a.toNat*256+b.toNat)*256+c.toNat)*256+d.toNat:Nat):Int):=by unfold wrap32; rw [if_pos hlt]
 rw [h2,h3,be_four rfl]
theorem de_neg {X:RIn} {r:RSt} (hr:okIn X r) (hb:(rdFour X r).2.bad=false) (h0:(rdFour X r).1=-1):X.s.drop r.at_=fourB (-1)++X.s.drop (rdFour X r).2.at_:=by
 obtain ⟨a,b,c,d,h1,h2⟩:=four_bytes hr hb;rw [h1];congr 1;have ha:=a.toNat_lt; have hb:=b.toNat_lt; have hc:=c.toNat_lt; have hd:=d.toNat_lt;rw [h0] at h2;unfold wrap32 at h2;split at h2
 ·omega
 ·have e:∀ x:UInt8,x.toNat=255→x=255:=fun x hx=>UInt8.toNat_inj.1 (by rw [hx]; rfl);rw [e a (by omega),e b (by omega),e c (by omega),e d (by omega)];rfl
theorem relAt_mem {rl:List (Int×Int)} {v p:Int} (h:relAt v rl=some p):∃ q∈rl,q.2=p:=by
 unfold relAt at h;obtain ⟨q,hq,e⟩:=Option.map_eq_some_iff.1 h;exact ⟨q,List.mem_of_find?_eq_some hq,e⟩
theorem rdRel_good {rl:List (Int×Int)} {v:Int} {r:RSt} (hp:∀ q∈rl,0≤q.2) (hb:(rdRel rl v r).2.bad=false):0≤(rdRel rl v r).1∧(rdRel rl v r).2=r:=by
 unfold rdRel at hb ⊢;cases h:relAt v rl with
 | none=>rw [h] at hb; cases hb
 | some p =>
  obtain ⟨q,hq,e⟩:=relAt_mem h;exact ⟨by have:=hp q hq; simp only; omega,rfl⟩
theorem de_pr {no:Bool} {rl:List (Int×Int)} {X:RIn} {r:RSt} {old:Int} (hp:∀ q∈rl,0≤q.2) (hr:okIn X r) (hb:(rdPr no rl X r old).2.bad=false):X.s.drop r.at_=encP (rdPr no rl X r old).1++X.s.drop (rdPr no rl X r old).2.at_:=by
 unfold rdPr at hb ⊢;split at hb
 ·rename_i h;rw [if_pos h];rw [Bool.and_eq_true,beq_iff_eq] at h;exact de_neg hr hb h.2
 ·rename_i h;rw [if_neg h];split at hb
  ·rename_i h0;rw [if_pos h0];rw [beq_iff_eq] at h0;obtain ⟨g1,g2⟩:=rdRel_good hp hb;rw [g2] at hb;have:=de_four hr hb (by omega);rw [g2,this,h0];congr 1;unfold encP;rw [if_neg (by omega)]
  ·cases hb
theorem de_fl (f:Fl) (rl:List (Int×Int)) (hp:∀ q∈rl,0≤q.2) (X:RIn) (r:RSt) (y:In) (hr:okIn X r) (hb:(f.rd rl X r y).1.bad=false) (hf:f.fineB (f.rd rl X r y).2=true) (hy:f.fr y) :
  X.s.drop r.at_=f.enc (f.rd rl X r y).2++X.s.drop (f.rd rl X r y).1.at_:=by
 have pl:∀ v:Int,isPl v=true→0≤v:=fun v h=>by obtain ⟨k,e,_⟩:=isPl_nat h; omega
 cases f
 case D=>exact de_int X r hr hb
 case A=>exact de_int X r hr hb
 case B=>exact de_int X r hr hb
 case N=>exact de_num X r hr hb
 case M=>exact de_num X r hr hb
 case P=>exact de_num X r hr hb
 case T=>exact de_ty X r hr hb
 case U=>exact de_ty X r hr hb
 case W=>exact de_ty X r hr hb
 case V =>
  have hb1:(rdStr X (rdNum X r).2).2.bad=false:=hb;have hb0:=(ext_str (ext_self X) _ hb1).1;show _=(encN (rdNum X r).1++encS (rdStr X (rdNum X r).2).1)++X.s.drop (rdStr X (rdNum X r).2).2.at_;rw [de_num X r hr hb0,de_str X _ (rdNum_ok hr).1 hb1,List.append_assoc]
 case L =>
  have hy:y.l=[]:=hy;have hb:(rdLst X (gI X) y.l r).2.bad=false:=hb;show _=encLst eI (rdLst X (gI X) y.l r).1++X.s.drop (rdLst X (gI X) y.l r).2.at_;rw [hy] at hb ⊢;exact de_lst (de_int X) (fun _ h=>(rdNum_ok h).1) (ext_int (ext_self X)) r hr hb
 case Y =>
  have hy:y.y=[]:=hy;have hb:(rdLst X (rdTy X) y.y r).2.bad=false:=hb;show _=encLst encTy (rdLst X (rdTy X) y.y r).1++X.s.drop (rdLst X (rdTy X) y.y r).2.at_;rw [hy] at hb ⊢;exact de_lst (de_ty X) (fun _ h=>rdTy_ok h) (ext_ty (ext_self X)) r hr hb
 case F =>
  have hy:y.f=[]:=hy;have hb:(rdLst X (rdFm X) y.f r).2.bad=false:=hb;show _=encLst encFm (rdLst X (rdFm X) y.f r).1++X.s.drop (rdLst X (rdFm X) y.f r).2.at_;rw [hy] at hb ⊢;exact de_lst (de_fm X) (fun _ h=>rdFm_ok h) (ext_fm (ext_self X)) r hr hb
 case Sz=>exact de_flag X r hr hb
 case Rg=>exact de_flag X r hr hb
 case aN=>exact de_four hr hb (pl _ hf)
 case aM=>exact de_four hr hb (pl _ hf)
 case pN=>exact de_pr hp hr hb
 case pM=>exact de_pr hp hr hb
 case far =>
  have hb1:(rdFour X (rdRel rl (r.at_:Int) r).2).2.bad=false:=hb;have hb0:=(ext_four (ext_self X) _ hb1).1;obtain ⟨g1,g2⟩:=rdRel_good hp hb0;have hf':isFar { y with p:=(rdRel rl (r.at_:Int) r).1,n:=(rdFour X (rdRel rl (r.at_:Int) r).2).1 }=true:=hf;unfold isFar at hf';simp only [Bool.and_eq_true,decide_eq_true_eq] at hf';show _=fourB (rdFour X (rdRel rl (r.at_:Int) r).2).1++X.s.drop (rdFour X (rdRel rl (r.at_:Int) r).2).2.at_;rw [g2] at hb1 hf' ⊢;exact de_four hr hb1 hf'.1.2
theorem enc_ind (f g:Fl) (rl:List (Int×Int)) (X:RIn) (r:RSt) (y:In) (h:f.ind g=true):f.enc (g.rd rl X r y).2=f.enc y:=by
 cases f<;>cases g<;>first | exact absurd h (by decide) | rfl
theorem fine_ind (f g:Fl) (rl:List (Int×Int)) (X:RIn) (r:RSt) (y:In) (h:f.ind g=true):f.fineB (g.rd rl X r y).2=f.fineB y:=by
 cases f<;>cases g<;>first | exact absurd h (by decide) | rfl
theorem fr_rd (f g:Fl) (rl:List (Int×Int)) (X:RIn) (r:RSt) (y:In) (h:f.ind g=true) (hy:f.fr y):f.fr (g.rd rl X r y).2:=by
 cases f<;>cases g<;>first | exact absurd h (by decide) | exact hy
theorem rdL_cons (rl:List (Int×Int)) (X:RIn) (f:Fl) (l:List Fl) (r:RSt) (y:In) (hb:r.bad=false):rdL rl X (f::l) (r,y)=rdL rl X l (f.rd rl X r y):=by
 unfold rdL;rw [List.foldl_cons];simp only [hb,Bool.false_eq_true,if_false]
theorem rdL_same (f:Fl) (rl:List (Int×Int)) (X:RIn):∀ (l:List Fl) (s:RSt×In),(∀ g∈l,f.ind g=true)→(rdL rl X l s).1.bad=false→f.enc (rdL rl X l s).2=f.enc s.2∧f.fineB (rdL rl X l s).2=f.fineB s.2
 | [],s,_,_=>⟨rfl,rfl⟩
 | g::l,(r,y),hi,hb=>by
  have hb0:=(ext_rdL (ext_self X) rl (g::l) (r,y) hb).1;rw [rdL_cons rl X g l r y hb0] at hb ⊢;have h:=rdL_same f rl X l (g.rd rl X r y) (fun g hg=>hi g (List.mem_cons_of_mem _ hg)) hb;rw [h.1,h.2,enc_ind f g rl X r y (hi g (List.mem_cons_self ..)),fine_ind f g rl X r y (hi g (List.mem_cons_self ..))];exact ⟨rfl,rfl⟩
theorem de_list_fl (rl:List (Int×Int)) (hp:∀ q∈rl,0≤q.2) (X:RIn):∀ (l:List Fl) (r:RSt) (y:In),indL l=true→(∀ f∈l,f.fr y)→okIn X r→(rdL rl X l (r,y)).1.bad=false→(∀ f∈l,f.fineB (rdL rl X l (r,y)).2=true) →
  X.s.drop r.at_=l.flatMap (fun f=>f.enc (rdL rl X l (r,y)).2)++X.s.drop (rdL rl X l (r,y)).1.at_
 | [],r,y,_,_,_,_,_=>rfl
 | f::l,r,y,hi,hy,hr,hb,hf=>by
  unfold indL at hi;rw [Bool.and_eq_true,List.all_eq_true] at hi;have hb0:=(ext_rdL (ext_self X) rl (f::l) (r,y) hb).1;rw [rdL_cons rl X f l r y hb0] at hb hf ⊢;have hb1:=(ext_rdL (ext_self X) rl l (f.rd rl X r y) hb).1;have hs:=rdL_same f rl X l (f.rd rl X r y) (fun g hg=>and_l (hi.1 g hg)) hb;have h1:=de_fl f rl hp X r y hr hb1 (by rw [← hs.2]; exact hf f (List.mem_cons_self ..)) (hy f (List.mem_cons_self ..));have h2:=de_list_fl rl hp X l (f.rd rl X r y).1 (f.rd rl X r y).2 hi.2 (fun g hg=>fr_rd g f rl X r y (and_r (hi.1 g hg)) (hy g (List.mem_cons_of_mem _ hg))) (rd_ok f hr).1 hb (fun g hg=>hf g (List.mem_cons_of_mem _ hg));rw [List.flatMap_cons,hs.1,h1,List.append_assoc,← h2]
theorem de_ins (rl:List (Int×Int)) (hp:∀ q∈rl,0≤q.2) (X:RIn) (a:Nat) (hok:okIn X ⟨a,false⟩) (h:cDecOk rl X a=true):X.s.drop a=(cEnc (cDecR rl X a).2).1++X.s.drop (cDecR rl X a).1.at_∧cFine (cDecR rl X a).2=true:=by
 unfold cDecOk at h;simp only [Bool.and_eq_true,Bool.not_eq_true'] at h;obtain ⟨⟨h0,h1⟩,h2⟩:=h;refine ⟨?_,h2⟩;obtain ⟨o,ho,e⟩:=fine_op h2;have hop:(cDecR rl X a).2.op=((takeB X ⟨a,false⟩).1.toNat:Int):=by unfold cDecR; rw [rdL_op]; rfl
 have eo:(takeB X ⟨a,false⟩).1.toNat=o:=by rw [hop] at e; omega
 have hio:=(isOp_iff o).1 ho;have hfind:opFind (o:Int)=some (opFls o):=by unfold opFind; rw [if_pos (by omega)]; rfl
 have hR:cDecR rl X a=rdL rl X (opFls o) ((takeB X ⟨a,false⟩).2,emptyI (o:Int)):=by unfold cDecR; rw [eo,hfind]; rfl
 have hall:=(fnAll ho e h2).1;rw [hR] at h1 hall;have hb0:=(ext_rdL (ext_self X) rl _ _ h1).1;have ht:=de_take X ⟨a,false⟩ hok hb0;have hl:=de_list_fl rl hp X (opFls o) _ (emptyI (o:Int)) (ops_ind ho) (fun f _=>fr_empty f _) (takeB_ok hok) h1 hall;have hE:(cEnc (cDecR rl X a).2).1=UInt8.ofNat o::(opFls o).flatMap (fun f=>f.enc (cDecR rl X a).2):=by
  unfold cEnc;rw [e,hfind,putL_eq];simp
 rw [hE,hR];have hc:(takeB X ⟨a,false⟩).1=UInt8.ofNat o:=by rw [← eo]; simp
 rw [ht,hl,hc];rfl
theorem tk_text (rl:List (Int×Int)) (hp:∀ q∈rl,0≤q.2) (X:RIn):∀ (k n:Nat) (s:List In×List Int),okIn X ⟨n,false⟩→tkS rl X k n=some s→X.s.drop n=s.1.flatMap (fun x=>(cEnc x).1)∧∀ x∈s.1,cFine x=true
 | 0,n,s,_,h=>by cases h
 | k+1,n,s,hok,h=>by
  rw [tkS] at h;split at h
  ·rename_i hlt;split at h
   ·rename_i hd;obtain ⟨t,ht,rfl⟩:=Option.map_eq_some_iff.1 h;obtain ⟨h1,h2⟩:=de_ins rl hp X n hok hd;obtain ⟨h3,h4⟩:=tk_text rl hp X k _ t ⟨hok.1,(cDecR_next rl X n hok hlt).2.2⟩ ht;refine ⟨?_,fun x hx=>?_⟩
    ·rw [h1,h3]; rfl
    ·rcases List.mem_cons.1 hx with rfl | hx
     ·exact h2
     ·exact h4 x hx
   ·cases h
  ·cases h;refine ⟨?_,fun x hx=>by cases hx⟩;rw [List.drop_eq_nil_of_le (by omega)]; rfl
end Go.Proofs
end
section
namespace Go.Proofs
open Go Go.SX
def lnT (x:In):List UInt8:=lineT x x.op.toNat
def lsT (l:List In):List UInt8:=l.flatMap fun x=>lnT x++[10]
def asG:List (List UInt8)→List In→Nat→List In×Nat×Bool
 | [],l,n=>(l,n,true)
 | [w],l,n=>(l,n,w==[])
 | w::v::r,l,n=>match cReadS (splitC 32 w) with
  | none=>(l,n,false)
  | some x=>asG (v::r) (l++[x]) (n+1)
theorem cutC_all (c:UInt8):∀ s:List UInt8,(cutC c s).2.2=false→(cutC c s).1=s
 | [],_=>rfl
 | x::l,h=>by
  have e:cutC c (x::l)=if x==c then ([],l,true) else (x::(cutC c l).1,(cutC c l).2.1,(cutC c l).2.2):=rfl
  rw [e] at h ⊢;split at h
  ·cases h
  ·rename_i hx;rw [if_neg hx];simp only at h ⊢;rw [cutC_all c l h]
theorem asG_cut {s:List UInt8} (hs:s≠[]) (l:List In) (n:Nat) :
  asG (splitC 10 s) l n=if (Lib.cut s [10]).2.2=true then (match cReadS (splitC 32 (Lib.cut s [10]).1) with
   | none=>(l,n,false)
   | some x=>asG (splitC 10 (Lib.cut s [10]).2.1) (l++[x]) (n+1)) else (l,n,false):=by
 rw [splitC_cut,cut_one];cases h:(cutC 10 s).2.2 with
 | false =>
  rw [if_neg (by decide),if_neg (by decide),cutC_all 10 s h];unfold asG;rw [show (s==[])=false from beq_eq_false_iff_ne.2 hs]
 | true =>
  rw [if_pos rfl,if_pos rfl];cases h2:splitC 10 (cutC 10 s).2.1 with
  | nil=>exact absurd h2 (split_ne _ _)
  | cons v r=>rfl
theorem asG_nil (l:List In) (n:Nat):asG (splitC 10 []) l n=(l,n,true):=rfl
theorem join_no {c d:UInt8} (h:c≠d):∀ {l:List (List UInt8)},(∀ w∈l,c ∉ w)→c ∉ Lib.join l [d]
 | [],_=>by simp [Lib.join]
 | [w],hl=>by rw [Lib.join_one]; exact hl w (List.mem_cons_self ..)
 | w::v::l,hl=>by
  rw [join_two];intro hm;rcases List.mem_append.1 hm with hm | hm
  ·exact hl w (List.mem_cons_self ..) hm
  rcases List.mem_cons.1 hm with hm | hm
  ·exact h hm
  ·exact join_no h (fun u hu=>hl u (List.mem_cons_of_mem _ hu)) hm
theorem line_no10 (x:In) {o:Nat} (ho:isOp o=true):(10:UInt8) ∉ lineT x o:=by
 refine join_no (by decide) (fun w hw hm=>?_);rcases List.mem_cons.1 hw with rfl | hw
 ·exact name_no o ho 10 (.inr rfl) hm
 ·obtain ⟨f,_,rfl⟩:=List.mem_map.1 hw;exact fld_no (fld_txt f x _ hm) (.inr rfl) rfl
theorem lnT_of {x:In} {o:Nat} (e:x.op=(o:Int)):lnT x=lineT x o:=by unfold lnT; rw [e]; rfl
theorem asG_list:∀ (m l:List In) (n:Nat),(∀ x∈m,cFine x=true)→asG (splitC 10 (lsT m)) l n=(l++m,n+m.length,true)
 | [],l,n,_=>by rw [List.append_nil]; rfl
 | x::m,l,n,h=>by
  obtain ⟨o,ho,e⟩:=fine_op (h x (List.mem_cons_self ..));have e1:lsT (x::m)=lineT x o++10::lsT m:=by
   show (lnT x++[10])++lsT m=_;rw [lnT_of e,List.append_assoc]; rfl
  have ih:=asG_list m (l++[x]) (n+1) (fun y hy=>h y (List.mem_cons_of_mem _ hy));rw [e1,split_app 10 _ _ (line_no10 x ho)];cases hc:splitC 10 (lsT m) with
  | nil=>exact absurd hc (split_ne _ _)
  | cons v r =>
   rw [hc] at ih;rw [asG,read_line ho e (h x (List.mem_cons_self ..))];simp only;rw [ih,List.append_assoc,List.length_cons];simp only [List.singleton_append,Prod.mk.injEq,true_and,and_true];omega
theorem mdS_fold:∀ (l:List In) (s:List UInt8×List (Int×Int)),(l.foldl (fun s x=>(s.1++(cEnc x).1,s.2++shR s.1.length (cEnc x).2)) s).1=s.1++l.flatMap fun x=>(cEnc x).1
 | [],s=>by simp
 | x::l,s=>by rw [List.foldl_cons,mdS_fold l,List.flatMap_cons,List.append_assoc]
theorem mdS_text (l:List In):(mdS l).1=l.flatMap fun x=>(cEnc x).1:=by unfold mdS; rw [mdS_fold]; rfl
theorem rel_nn (f:Fl) (x:In) (n:Nat) (h:f.fineB x=true):∀ e∈f.rel x n,0≤e.2:=by
 have hp:∀ v:Int,∀ e∈relP v n,0≤e.2:=fun v e he=>by
  unfold relP at he;split at he
  ·cases he
  ·rw [List.mem_singleton.1 he]; simp only; omega
 cases f
 case pN=>exact hp _
 case pM=>exact hp _
 case far =>
  have h':isFar x=true:=h;unfold isFar at h';simp only [Bool.and_eq_true,decide_eq_true_eq] at h';show ∀ e∈[((n:Int),x.p)],_;intro e he;rw [List.mem_singleton.1 he]; simp only; omega
 all_goals exact fun e he=>absurd he (List.not_mem_nil)
theorem putL_nn (x:In):∀ (l:List Fl) (s:List UInt8×List (Int×Int)),(∀ f∈l,f.fineB x=true)→(∀ e∈s.2,0≤e.2)→∀ e∈(putL x l s).2,0≤e.2
 | [],s,_,h=>h
 | f::l,s,ha,h=>by
  refine putL_nn x l (s.1++f.enc x,s.2++f.rel x s.1.length) (fun g hg=>ha g (List.mem_cons_of_mem _ hg)) (fun e he=>?_);rcases List.mem_append.1 he with he | he
  ·exact h e he
  ·exact rel_nn f x _ (ha f (List.mem_cons_self ..)) e he
theorem cEnc_nn {x:In} (h:cFine x=true):∀ e∈(cEnc x).2,0≤e.2 :=
 putL_nn x _ _ (List.all_eq_true.1 (cFine_ok h).2) (fun e he=>absurd he (List.not_mem_nil))
theorem mdS_nn:∀ (l:List In) (s:List UInt8×List (Int×Int)),(∀ x∈l,cFine x=true)→(∀ e∈s.2,0≤e.2)→∀ e∈(l.foldl (fun s x=>(s.1++(cEnc x).1,s.2++shR s.1.length (cEnc x).2)) s).2,0≤e.2
 | [],s,_,h=>h
 | x::l,s,hf,h=>by
  rw [List.foldl_cons];refine mdS_nn l _ (fun y hy=>hf y (List.mem_cons_of_mem _ hy)) (fun e he=>?_);rcases List.mem_append.1 he with he | he
  ·exact h e he
  ·obtain ⟨q,hq,rfl⟩:=List.mem_map.1 he;exact cEnc_nn (hf x (List.mem_cons_self ..)) q hq
theorem eqR_eq' (a b:Int×Int) (h:eqR a b=true):a=b:=by
 unfold eqR at h;rw [Bool.and_eq_true,beq_iff_eq,beq_iff_eq] at h;exact Prod.ext h.1 h.2
theorem vd_back {rl:List (Int×Int)} {X:RIn} {pr rg:Int} {s:List In×List Int} (hs:X.s.length≤1000000000) (h:vdS rl X pr rg=some s):mdS s.1=(X.s,rl)∧(∀ x∈s.1,cFine x=true∧x.okL)∧s.1.length≤X.s.length:=by
 unfold vdS at h;split at h
 ·cases h
 cases ht:takenS rl X with
 | none=>rw [ht] at h; cases h
 | some t =>
  rw [ht] at h;simp only at h;split at h
  ·rename_i hc;cases h;rw [Bool.and_eq_true] at hc;have hr:=eqL_eq eqR_eq' hc.1;have hok:=takenS_ok hs ht;refine ⟨Prod.ext ?_ hr,hok.1,hok.2.2.2.1⟩;have hp:∀ q∈rl,0≤q.2:=by
    rw [← hr];exact mdS_nn s.1 ([],[]) (fun x hx=>(hok.1 x hx).1) (fun e he=>absurd he (List.not_mem_nil))
   unfold takenS at ht;obtain ⟨s',hs',rfl⟩:=Option.map_eq_some_iff.1 ht;have:=(tk_text rl hp X _ 0 s' ⟨hs,Nat.zero_le _⟩ hs').1;rw [mdS_text];exact this.symm
  ·cases h
theorem as_back {rl:List (Int×Int)} {X:RIn} {pr rg:Int} {s:List In×List Int} (hs:X.s.length≤1000000000) (h:vdS rl X pr rg=some s):asG (splitC 10 (lsT s.1)) [] 0=(s.1,s.1.length,true)∧mdS s.1=(X.s,rl):=by
 obtain ⟨h1,h2,_⟩:=vd_back hs h;refine ⟨?_,h1⟩;rw [asG_list s.1 [] 0 (fun x hx=>(h2 x hx).1),List.nil_append,Nat.zero_add]
end Go.Proofs
end
section
namespace Go.Proofs
open Go Go.SX
set_option maxRecDepth 10000
theorem wd_len (s:List UInt8) (i:Nat):((splitC 32 s).getD i []).length≤s.length:=by
 rw [List.getD];cases e:(splitC 32 s)[i]? with
 | none=>simp
 | some p=>exact splitC_elm 32 s p (List.mem_of_getElem? e)
theorem cReadA (K:Kc) (hK:K.ok) (s:List UInt8) (hs:s.length<1900000) :
  CallsK Tryz.prog 64 [.agg [.val (.map (some K.gF)),.val (.map (some K.gO))],.one (.str s)] (stP [cdP K,glbP]) (rdP (splitC 32 s)) rdV (fun y=>psOf (lsP y.1 y.2.1)) :=
 cRead K hK s (splitC 32 s) (splS_eq 32 s).1 (by omega) (splS_eq 32 s).2 (by have:=splitC_len 32 s; omega) (fun o _ _ i _=>by
  unfold Fl.pok;have:=wd_len s (i+1);exact decide_eq_true (by omega))
theorem tokAll {x:In} {o:Nat} (ho:isOp o=true) (e:x.op=(o:Int)) (h:cFine x=true):(opFls o).all (fun f=>f.tok x)=true :=
 List.all_eq_true.2 fun f hf=>(fnAll ho e h).1 f hf
theorem cLineA (K:Kc) (hK:K.ok) (x:In) (A:IA) (hx:x.okL) (h:cFine x=true) :
  CallsK Tryz.prog 61 [.agg [.val (.map (some K.gF)),.val (.map (some K.gO))],.agg (inV x A)] (stP (cdP K::glbP::lsP x A)) (fun _:Unit=>True) (fun _=>.v (.one (.str (lnT x)))) (fun _=>stP []):=by
 obtain ⟨o,ho,e⟩:=fine_op h;rw [lnT_of e];exact cLine K hK x A hx o ho e (tokAll ho e h)
def txA (x:In):List UInt8×Int:=bif cFine x then (lnT x,0) else ([],170)
def prO:Option In→In×Int
 | some x=>(x,0)
 | none=>(zeroI,222)
def prA (s:List UInt8):In×Int:=prO (cReadS (splitC 32 s))
theorem xTextA (x:In) (A:IA) (hx:x.okL):CallsK Tryz.prog 22 [.agg (inV x A)] (stP (glbP::lsP x A)) (fun _:Unit=>True) (fun _=>.tup [.one (.str (txA x).1),.one (.int .i64 (txA x).2)]) (fun _=>noF):=by
 obtain ⟨b,hb⟩:∃ b,cFine x=b:=⟨_,rfl⟩;have e:txA x=bif b then (lnT x,0) else ([],170):=by unfold txA; rw [hb]
 rw [e];refine CallsK.m true Tryz.func22 (fun ρ w=>?_);refine V.q ?_;refine V.c [(0,false)] cNew0 (fun K hK=>?_);refine V.q ?_;refine V.c [(0,true),(2,false),(3,false),(4,false)] (cFineK K hK x A hx) (fun _ _=>?_);refine V.q ?_;cases b with
 | true =>
  refine V.kn 9 (!(cFine x)) false (by rw [hb]; rfl) ?_;refine V.q ?_;refine V.c [(0,true),(1,false),(2,false),(3,false),(4,false)] (cLineA K hK x A hx hb) (fun _ _=>?_);refine V.q ?_;exact V.z
 | false =>
  refine V.kn 9 (!(cFine x)) true (by rw [hb]; rfl) ?_;refine V.q ?_;exact V.z
theorem xParseA (s:List UInt8) (hs:s.length<1900000) :
  CallsK Tryz.prog 24 [.one (.str s)] glbF (fun y:In×IA=>y.1=(prA s).1) (fun y=>.tup [.agg (inV y.1 y.2),.one (.int .i64 (prA s).2)]) (fun y=>psOf (lsP y.1 y.2)):=by
 obtain ⟨r,hr⟩:∃ r,cReadS (splitC 32 s)=r:=⟨_,rfl⟩;have e:prA s=prO r:=by unfold prA; rw [hr]
 rw [e];refine CallsK.m true Tryz.func24 (fun ρ w=>?_);refine V.q ?_;refine V.c [(0,false)] cNew0 (fun K hK=>?_);refine V.q ?_;refine V.c [(0,true),(1,false)] (cReadA K hK s hs) (fun y hy=>?_);unfold rdP at hy;rw [hr] at hy;refine V.q ?_;cases r with
 | some x =>
  refine V.kn 13 (!y.2.2) false (by rw [hy.2]; rfl) ?_;refine V.q ?_;exact V.e ((y.1,y.2.1):In×IA) [(0,true),(1,true),(2,true)] hy.1
 | none =>
  refine V.kn 13 (!y.2.2) true (by rw [show y.2.2=false from hy]; rfl) ?_;refine V.q ?_;refine V.soft 0 ?_;refine V.persNew [] [] (rowP (rowF zeroI IA0)) kq kq (fun k hk=>absurd hk ((row_none (R:=rowF zeroI IA0) rfl rfl rfl).1 k)) (fun w _=>(row_none (R:=rowF zeroI IA0) rfl rfl rfl).2 w) (rowP_stab _) ?_;refine V.persNew [] [] (rowP (rowI zeroI IA0)) kq kq (fun k hk=>absurd hk ((row_none (R:=rowI zeroI IA0) rfl rfl rfl).1 k)) (fun w _=>(row_none (R:=rowI zeroI IA0) rfl rfl rfl).2 w) (rowP_stab _) ?_;refine V.persNew [] [] (rowP (rowT zeroI IA0)) kq kq (fun k hk=>absurd hk ((row_none (R:=rowT zeroI IA0) rfl rfl rfl).1 k)) (fun w _=>(row_none (R:=rowT zeroI IA0) rfl rfl rfl).2 w) (rowP_stab _) ?_;exact V.e ((zeroI,IA0):In×IA) [(2,true),(1,true),(0,true)] rfl
end Go.Proofs
end
section
namespace Go.SX
def setl (g:Nat) (b:Bool):RV→RV
 | .grd g' pol c x=>match Nat.beq g' g with
  | true=>match pol,b with
   | true,true | false,false=>.v x
   | _,_=>.v (.one (.val undef))
  | false=>.grd g' pol c x
 | v=>v
def settleS (g:Nat) (b:Bool):List (Nat×RV)→List (Nat×RV)
 | []=>[]
 | (k,v)::l=>(k,setl g b v)::settleS g b l
theorem look_settleS {g:Nat} {b:Bool}:∀ {l:List (Nat×RV)} {i:Nat},look (settleS g b l) i=(look l i).map (setl g b)
 | [],i=>rfl
 | (k,v)::l,i=>by
  simp only [settleS,look];cases Nat.beq k i with
  | true=>rfl
  | false=>exact look_settleS
def lessNat (g:Nat):List Nat→List Nat
 | []=>[]
 | k::l=>match Nat.beq k g with
  | true=>lessNat g l
  | false=>k::lessNat g l
theorem hasNat_less {g i:Nat}:∀ {l:List Nat},hasNat l i=true→g≠i→hasNat (lessNat g l) i=true
 | [],h,_=>h
 | k::l,h,hn=>by
  simp only [lessNat];simp only [hasNat] at h;cases e:Nat.beq k g with
  | true =>
   have:=Nat.eq_of_beq_eq_true e;subst this;cases e2:Nat.beq k i with
   | true=>exact absurd (Nat.eq_of_beq_eq_true e2) hn
   | false=>rw [e2] at h; exact hasNat_less h hn
  | false =>
   simp only [hasNat];cases e2:Nat.beq k i with
   | true=>rfl
   | false=>rw [e2] at h; exact hasNat_less h hn
variable {C:Ctx}
theorem V.settle (g:Nat) (b e:Bool) {c:Cfg} (hl:look c.st.slots g=some (.v (.one (.sb e)))) (he:e=b)
  (h:V C ⟨c.todo,{ c.st with slots:=upd (settleS g b c.st.slots) g (.v (.one (.bool b))),gs:=lessNat g c.st.gs }⟩):V C c:=by
 subst he;intro ρ a w hS;refine h ρ a w ⟨hS.n,fun i v hv=>?_,fun i g' pol c' x hv=>?_,hS.heap,hS.inj,hS.lt,hS.defers,hS.chg,hS.rows,hS.rowsD,hS.pers,hS.fix⟩
 ·simp only [look_upd] at hv;by_cases ei:g=i
  ·rw [if_pos ei] at hv;cases hv;subst ei;exact ⟨(hS.slots g _ hl).1,trivial⟩
  ·rw [if_neg ei,look_settleS] at hv;cases h0:look c.st.slots i with
   | none=>rw [h0] at hv; cases hv
   | some v0 =>
    rw [h0] at hv;cases hv;obtain ⟨k1,k2⟩:=hS.slots i v0 h0;cases v0 with
    | grd g' pol c' x =>
     simp only [setl];cases eg:Nat.beq g' g with
     | false=>exact ⟨k1,k2⟩
     | true =>
      have:=Nat.eq_of_beq_eq_true eg;subst this;have k3:=(hS.grds i g' pol c' x h0).2;rw [hl] at k3;cases k3;cases pol<;>cases e
      ·exact ⟨k1,k2 rfl⟩
      ·exact ⟨k1,trivial⟩
      ·exact ⟨k1,trivial⟩
      ·exact ⟨k1,k2 rfl⟩
    | v x=>exact ⟨k1,k2⟩
    | _=>exact ⟨k1,k2⟩
 ·simp only [look_upd] at hv ⊢;by_cases ei:g=i
  ·rw [if_pos ei] at hv; cases hv
  ·rw [if_neg ei,look_settleS] at hv;cases h0:look c.st.slots i with
   | none=>rw [h0] at hv; cases hv
   | some v0 =>
    rw [h0] at hv;cases v0 with
    | grd g2 pol2 c2 x2 =>
     simp only [Option.map_some,setl] at hv;cases eg:Nat.beq g2 g with
     | true=>rw [eg] at hv; cases pol2<;>cases e<;>cases hv
     | false =>
      rw [eg] at hv;cases hv;obtain ⟨k1,k2⟩:=hS.grds i g' pol c' x h0;have hne:g≠g':=fun e'=>by subst e'; rw [Nat.beq_refl] at eg; cases eg
      refine ⟨hasNat_less k1 hne,?_⟩;rw [if_neg hne,look_settleS,k2];rfl
    | v x=>cases hv
    | _=>cases hv
end Go.SX
end
section
namespace Go.Proofs
open Go Go.SX
set_option maxRecDepth 10000
def Fl.ch:Fl→UInt8
 | .D=>68 | .A=>65 | .B=>66 | .N=>78 | .M=>77 | .P=>80 | .T=>84 | .U=>85 | .W=>87 | .V=>86 | .L=>76 | .Y=>89 | .F=>70 | .Sz=>83 | .Rg=>82
 | .aN=>110 | .aM=>109 | .pN=>99 | .pM=>111 | .far=>103
def opRef (o:Nat):List UInt8:=(opFls o).map Fl.ch
def rfT:List (List UInt8×List UInt8):=(List.range 39).map fun o=>if o=0 then ([],[]) else (opName o,opRef o)
def rfN (n:Int):List UInt8×List UInt8:=if 1≤n∧n<39 then rfT.getD n.toNat ([],[]) else ([],[])
def mvAL (A:IA) (l:List Fl) (B:IA):IA:=l.foldl (fun B f=>f.mvA A B) B
theorem rfN_op {o:Nat} (ho:isOp o=true):rfN (o:Int)=(opName o,opRef o):=by
 have h:=(isOp_iff o).1 ho;unfold rfN;rw [if_pos (by omega),Int.toNat_natCast];have:=all_ops (p:=fun o=>decide (rfT.getD o ([],[])=(opName o,opRef o))) kq ho;simpa using this
def flsOf (x:In):List Fl:=(opFind x.op).getD []
def bOf (x:In) (A:IA):IA:=mvAL A (flsOf x) IA0
theorem letters (o:Nat) (ho:o<256):(rfN (o:Int)).2=((opFind (o:Int)).getD []).map Fl.ch:=by
 by_cases h:1≤(o:Int)∧(o:Int)≤38
 ·have hi:isOp o=true:=(isOp_iff o).2 (by omega);rw [rfN_op hi];unfold opFind;rw [if_pos h];rfl
 ·unfold rfN opFind;rw [if_neg (by omega),if_neg h];rfl
end Go.Proofs
end
section
namespace Go.SX
open Go
section
variable {C:Ctx} {T TR:List Nat} {L:Nat} {c0:Cfg} {d:DCfg}
end
end Go.SX
end
section
namespace Go.Proofs
open Go Go.SX
set_option maxRecDepth 10000
theorem flat_len {α:Type} (g h:α→List UInt8):∀ (l:List α),(∀ f∈l,(g f).length=(h f).length)→(l.flatMap g).length=(l.flatMap h).length
 | [],_=>rfl
 | f::l,k=>by
  rw [List.flatMap_cons,List.flatMap_cons,List.length_append,List.length_append,k f (List.mem_cons_self ..),flat_len g h l (fun f hf=>k f (List.mem_cons_of_mem _ hf))]
noncomputable def slSt (x:In) (A:IA) (n:Int) (i:Nat):St :=
 { n:=73,slots:=[(1,.v (.one (.ptr 0 0))),(3,.v (.one (.int .i64 n))),(28,.v (.one (.row 2 A.qy x.y.length A.cy))),(29,.v (.one (.int .i64 (x.y.length:Int)))),(30,.v (.one (.int .i64 (i:Int))))],gs:=[],
    heap:=[(0,seB x A 0)],next:=1,rows:=[(0,rowF x A),(1,rowI x A),(2,rowT x A)],nr:=3,pers:=[],wr:=true,fx:=0 }
noncomputable def slSt2 (x:In) (A:IA) (n:Int) (i:Nat):St :=
 { n:=73,slots:=[(1,.v (.one (.ptr 0 0))),(3,.v (.one (.int .i64 n))),(41,.v (.one (.row 0 A.qf x.f.length A.cf))),(42,.v (.one (.int .i64 (x.f.length:Int)))),(43,.v (.one (.int .i64 (i:Int))))],gs:=[],
    heap:=[(0,seB x A 0)],next:=1,rows:=[(0,rowF x A),(1,rowI x A),(2,rowT x A)],nr:=3,pers:=[],wr:=true,fx:=0 }
structure SlI where
 n:Int
 i:Nat
theorem wrapL {i n:Nat} (h:i<n) (hn:n≤maxLen):IntKind.i64.wrap ((i:Int)+1)=((i+1:Nat):Int):=by
 unfold maxLen at hn;simp [IntKind.wrap,IntKind.bits,IntKind.signed];omega
set_option maxHeartbeats 2000000 in
theorem cSlimF (x:In) (A:IA) (hf:x.f.length≤maxLen) (hy:x.y.length≤maxLen):CallsK Tryz.prog 52 [.agg (inV x A)] (stP (lsP x A)) (fun b:Bool=>b=false→x.okL) (fun b=>.v (.one (.sb b))) (fun _=>noF):=by
 refine CallsK.m true Tryz.func52 (fun ρ0 w0=>?_);refine V.q ?_;refine V.factRow 0 (rowF x A) kq rfl ?_;refine V.factRow 1 (rowI x A) kq rfl ?_;refine V.factRow 2 (rowT x A) kq rfl ?_;refine V.cellRow 0 24 0 ⟨inV x A,30,true⟩ (rowF x A) kq kq kq ?_;refine V.cellRow 0 25 1 ⟨inC x (.row 0 A.qf x.f.length A.cf) (.val (.slice A.ql x.l.length A.cl)) (.val (.slice A.qy x.y.length A.cy)),30,true⟩ (rowI x A) kq kq kq ?_;refine V.cellRow 0 26 2 ⟨inC x (.row 0 A.qf x.f.length A.cf) (.row 1 A.ql x.l.length A.cl) (.val (.slice A.qy x.y.length A.cy)),30,true⟩ (rowT x A) kq kq kq ?_;refine V.slotRow 28 2 (rowT x A) kq kq kq ?_;refine V.iter ?_;refine V.loopTo [1,3,28,29,30] [0] [0,1,2] [] (fun j:SlI=>x.y.length - j.i) (fun j=>slSt x A j.n j.i) (fun j=>j.i≤x.y.length) ⟨IntKind.i64.wrap (IntKind.i64.wrap (IntKind.i64.wrap ((x.vs.length:Int)+x.t.s.length)+x.u.s.length)+x.w.s.length),0⟩ kq (Nat.zero_le _) (fun j hj ih=>?_);obtain ⟨n,i⟩:=j;simp only at hj;refine V.q ?_;refine V.bn 31 (decide ((i:Int)<(x.y.length:Int))) (fun hc=>?_) (fun hc=>?_)
 ·have hlt:i<x.y.length:=by simpa using hc
  have key:=ih ⟨IntKind.i64.wrap (n+((x.y.getD i ty0).s.length:Int)),i+1⟩ hlt (by simp only; omega);refine V.t [] [(0:Int)≤i∧(i:Int)<x.y.length] ⟨by omega,by omega⟩ ?_;refine V.s 30 (.one (.int .i64 (IntKind.i64.wrap ((i:Int)+1)))) (.one (.int .i64 ((i+1:Nat):Int))) (fun _=>by rw [wrapL hlt hy]) ?_;refine V.iter ?_;exact V.back [1,3,28,29,30] [0] [0,1,2] [] key kq kq
 ·refine V.q ?_;refine V.iter ?_;refine V.loopTo [1,3,41,42,43] [0] [0,1,2] [] (fun j:SlI=>x.f.length - j.i) (fun j=>slSt2 x A j.n j.i) (fun j=>j.i≤x.f.length) ⟨n,0⟩ kq (Nat.zero_le _) (fun j hj ih=>?_);obtain ⟨n,i⟩:=j;simp only at hj;refine V.q ?_;refine V.bn 44 (decide ((i:Int)<(x.f.length:Int))) (fun hc=>?_) (fun hc=>?_)
  ·have hlt:i<x.f.length:=by simpa using hc
   have key:=ih ⟨IntKind.i64.wrap (n+((x.f.getD i fm0).s.length:Int)),i+1⟩ hlt (by simp only; omega);refine V.t [] [(0:Int)≤i∧(i:Int)<x.f.length] ⟨by omega,by omega⟩ ?_;refine V.s 43 (.one (.int .i64 (IntKind.i64.wrap ((i:Int)+1)))) (.one (.int .i64 ((i+1:Nat):Int))) (fun _=>by rw [wrapL hlt hf]) ?_;refine V.iter ?_;exact V.back [1,3,41,42,43] [0] [0,1,2] [] key kq kq
  ·refine V.q ?_;exact V.e (decide ((x.f.length:Int)>20)||decide ((x.l.length:Int)>20)||decide ((x.y.length:Int)>20)||decide (n>20000):Bool) [] (fun h=>by
    simp only [Bool.or_eq_false_iff,decide_eq_false_iff_not] at h;exact ⟨by omega,by omega,by omega⟩)
def slF (x:In) (A:IA) (ps:List Pers):St:={ n:=0,slots:=[],gs:=[],heap:=[(0,⟨inV x A,30,true⟩)],next:=1,rows:=[],nr:=0,pers:=ps,wr:=false }
theorem cSlim88 (x:In) (A:IA) (hf:x.f.length≤maxLen) (hy:x.y.length≤maxLen):CallsK Tryz.prog 88 [.one (.sli 0 1 1),.one (.fn 52 [])] (slF x A (lsP x A)) (fun b:Bool=>b=false→x.okL) (fun b=>.v (.one (.int .i64 (bif b then 0 else -1)))) (fun _=>slF x A []):=by
 refine CallsK.m true Tryz.func88 (fun ρ0 w0=>?_);refine V.rc [] 2 [] trivial ?_;refine V.t [] [(0:Int)≤0∧(0:Int)<((1:Nat):Int)] ⟨by decide,by decide⟩ ?_;refine V.c [(0,false),(1,false),(2,false)] (cSlimF x A hf hy) (fun b hb=>?_);refine V.q ?_;refine V.bn 16 b (fun hh=>?_) (fun hh=>?_)
 ·subst hh;refine V.q ?_;exact V.e (true:Bool) [] hb
 ·subst hh;refine V.rc [] 5 [] trivial ?_;exact V.e (false:Bool) [] hb
theorem cSlim51 (x:In) (A:IA) (hf:x.f.length≤maxLen) (hy:x.y.length≤maxLen):CallsK Tryz.prog 51 [.one (.sli 0 1 1),.one (.fn 52 [])] (slF x A (lsP x A)) (fun b:Bool=>b=false→x.okL) (fun b=>.v (.one (.sb (decide ((bif b then (0:Int) else -1)≥0))))) (fun _=>slF x A []):=by
 refine CallsK.m true Tryz.func51 (fun ρ0 w0=>?_);refine V.q ?_;refine V.c [(0,false),(1,false),(2,false)] (cSlim88 x A hf hy) (fun b hb=>?_);refine V.q ?_;exact V.e (b:Bool) [] hb
theorem cSlim (x:In) (A:IA) (hf:x.f.length≤maxLen) (hy:x.y.length≤maxLen):CallsK Tryz.prog 15 [.one (.sli 0 1 1)] (slF x A (lsP x A)) (fun b:Bool=>b=true→x.okL) (fun b=>.v (.one (.sb b))) (fun _=>slF x A []):=by
 refine CallsK.m true Tryz.func15 (fun ρ0 w0=>?_);refine V.q ?_;refine V.c [(0,false),(1,false),(2,false)] (cSlim51 x A hf hy) (fun b hb=>?_);refine V.q ?_;cases b
 ·refine V.s 2 (.one (.sb (!(decide ((bif false then (0:Int) else -1)≥0))))) (.one (.sb true)) (fun _=>rfl) ?_;exact V.e (true:Bool) [] (fun _=>hb rfl)
 ·refine V.s 2 (.one (.sb (!(decide ((bif true then (0:Int) else -1)≥0))))) (.one (.sb false)) (fun _=>rfl) ?_;exact V.e (false:Bool) [] (fun h=>by cases h)
theorem blk_row {α:Type} (f:α→List SV) (d:α) (l:List α) (g:Nat) (e:TypeId) (sz:Nat) (hf:∀ x,(f x).length=sz) (hpl:∀ x,∀ y∈f x,y.plain) (hm:l.length≤maxLen) :
  (∀ k,(rowP (rowL f d l (some ⟨g,0,none⟩) l.length e sz false)).D k→∃ q∈[blkP g (l.flatMap f) e],q.D k)∧(∀ w,(∀ q∈[blkP g (l.flatMap f) e],q.φ w)→(rowP (rowL f d l (some ⟨g,0,none⟩) l.length e sz false)).φ w) :=
 ⟨fun k hk=>⟨_,List.mem_singleton.2 rfl,by
  obtain ⟨a,h1,h2,_⟩:=hk;have h1':(some ⟨g,0,none⟩:Option Addr)=some a:=h1;cases h1';exact h2.symm⟩,fun w hw=>rowP_of_blk hf hpl hm w (hw _ (List.mem_singleton.2 rfl))⟩
def pastL:List Item→List Item
 | .inLoop _::k=>k
 | _::k=>pastL k
 | []=>[]
noncomputable def snT2:List Item:=skipU 100 (pastL (skipU 100 [.code (bodyOf Tryz.f14)]))
noncomputable def snSt2 (n0:Nat) (S:Nat→Prop) (g:Nat):St :=
 { n:=242,slots:=[(11,.v (.one (.ptr 0 0))),(101,.v (.one (.int .i64 4))),(102,.v (.one (.int .i64 4)))],gs:=[],heap:=[(0,⟨inV sx4 (sA4 g),30,true⟩)],next:=1,rows:=[],nr:=0,
    pers:=[newP n0 S (rowP (rowI sx4 (sA4 g))),newP n0 S (rowP (rowT zeroI IA0)),newP n0 S (rowP (rowI zeroI IA0)),newP n0 S (rowP (rowF zeroI IA0)),glbP],wr:=true,fx:=0 }
theorem rlv_plain (x:Int×Int):∀ y∈rlv x,y.plain:=fun y hy=>by
 simp only [rlv,List.mem_cons,List.not_mem_nil,or_false] at hy;rcases hy with rfl | rfl<;>trivial
theorem e3_okL:(emptyI 3).okL:=⟨by decide,by decide,by decide⟩
theorem e0_okL:(emptyI 0).okL:=⟨by decide,by decide,by decide⟩
noncomputable def aBlank5:Con Tryz.prog:=Con.auto Tryz.func49 true [] [] kq kq
def blankC (op:Int):List SV:=(inV (emptyI op) IA0).map fun y=>match y with
 | .sb b=>.bool b
 | y=>y
set_option maxHeartbeats 4000000 in
theorem sane_rest (ρ0:Nat→Nat) (w0:World) (g:Nat):V ⟨Tryz.prog,14,GivesK ρ0 glbF (fun _:Unit=>True) (fun _=>.v (.one (.sb true))) (fun _=>noF) w0,touch ρ0 glbF,w0,ρ0,none⟩ ⟨snT2,snSt2 w0.heap.size (touch ρ0 glbF) g⟩:=by
 refine V.q ?_;refine V.kn 103 (decide ((4:Int)<4)) false (by decide) ?_;refine V.q ?_;refine V.c [(4,false),(3,true),(0,true),(1,true)] (xEncode sx4 (sA4 g) sx4_okL sx4_fine) (fun qc4 _=>?_);refine V.q ?_;refine V.freeze 0 (rowL rlv (0,0) [(2,5)] qc4.1 qc4.2 62 2 true) kq kq ?_;refine V.c [] (xReadNumber [128,0] 0 (by decide)) (fun _ _=>?_);refine V.q ?_;refine V.c [(5,false)] (xParseNo [83,84,69,80,32,48,49,48] [[83,84,69,80],[48,49,48]] kq (by decide) kq (by decide) (pok_of (o0:=1) kq kq) kq) (fun _ _=>?_);refine V.q ?_;refine V.c [(5,false)] xAsm (fun qc5 _=>?_);refine V.q ?_;refine V.c [(6,false),(0,true)] (xPlaces [] ⟨asB,qc5.1,0,qc5.2⟩ rfl (by decide) (by show 7≤100000000; decide) 0 4 ([asX1,asX2],[0,2,7]) (asV _ _)) (fun qc6 _=>?_);refine V.q ?_;refine V.settle 205 true ((0:Int)==0) kq (by decide) ?_;refine V.q ?_;refine V.absB 3 ⟨[.int .i64 2,.int .i64 5],62,true⟩ kq kq (fun _=>kq) (fun g1=>?_);refine V.persNew [(0,true)] [blkP g1 [.int .i64 2,.int .i64 5] 62] (rowP (rowL rlv (0,0) [(2,5)] (some ⟨g1,0,none⟩) 1 62 2 false)) kq kq (blk_row rlv (0,0) [(2,5)] g1 62 2 (fun _=>rfl) rlv_plain (by decide)).1 (blk_row rlv (0,0) [(2,5)] g1 62 2 (fun _=>rfl) rlv_plain (by decide)).2 (rowP_stab _) ?_;refine V.c [(4,true),(0,true)] (cEqR [(2,5)] [(2,5)] qc4.1 (some ⟨g1,0,none⟩) qc4.2 1 (by decide)) (fun _ _=>?_);refine V.q ?_;refine V.settle 227 true true kq rfl ?_;refine V.q ?_;refine V.absB 3 ⟨[.int .i64 0,.int .i64 2,.int .i64 7],3,true⟩ kq kq (fun _=>kq) (fun g2=>?_);refine V.persNew [(0,true)] [blkP g2 [.int .i64 0,.int .i64 2,.int .i64 7] 3] (rowP (rowL intv 0 [0,2,7] (some ⟨g2,0,none⟩) 3 3 1 false)) kq kq (blk_row intv 0 [0,2,7] g2 3 1 (fun _=>rfl) intv_plain (by decide)).1 (blk_row intv 0 [0,2,7] g2 3 1 (fun _=>rfl) intv_plain (by decide)).2 (rowP_stab _) ?_;refine V.c [(4,true),(0,true)] (cEqI [0,2,7] [0,2,7] qc6.1 (some ⟨g2,0,none⟩) qc6.2 3 (by decide)) (fun _ _=>?_);refine V.q ?_;refine V.settle 232 true true kq rfl ?_;refine V.t [⟨aBlank5,[]⟩] [] trivial ?_;refine V.s 233 (.agg (blankC 3)) (.agg (inV (emptyI 3) IA0)) (fun _=>rfl) ?_;refine V.c [(11,false),(10,true),(9,true),(8,true)] (xCheck (emptyI 3) IA0 e3_okL) (fun _ _=>?_);refine V.q ?_;refine V.settle 237 true true kq rfl ?_;refine V.t [⟨aBlank5,[]⟩] [] trivial ?_;refine V.s 238 (.agg (blankC 0)) (.agg (inV (emptyI 0) IA0)) (fun _=>rfl) ?_;refine V.c [(11,false),(10,true),(9,true),(8,true)] (xCheck (emptyI 0) IA0 e0_okL) (fun _ _=>?_);refine V.q ?_;exact V.z
def snT:List (Int×List UInt8):=[(0,[0]),(-1,[1]),(1,[2]),(63,[126]),(64,[128,1]),(-64,[127]),(-65,[129,1])]
def snL:Nat→List (Int×List UInt8)→List MapEntry
 | _,[]=>[]
 | i,p::l=>{ key:=.int .i64 p.1,val:=.string ⟨p.2.toArray⟩,born:=i }::snL (i+1) l
def snEs:Array MapEntry:=(snL 0 snT).toArray
theorem snL_mem:∀ {l:List (Int×List UInt8)} {i:Nat} {e:MapEntry},e∈snL i l→∃ p∈l,e.key=.int .i64 p.1∧e.val=.string ⟨p.2.toArray⟩∧e.born<i+l.length
 | [],i,e,h=>by simp [snL] at h
 | p::l,i,e,h=>by
  simp only [snL,List.mem_cons] at h;rcases h with rfl | h
  ·exact ⟨p,List.mem_cons_self ..,rfl,rfl,by simp⟩
  ·obtain ⟨p',h1,h2,h3,h4⟩:=snL_mem h;exact ⟨p',List.mem_cons_of_mem _ h1,h2,h3,by simp only [List.length_cons]; omega⟩
theorem snT_num (p:Int×List UInt8) (h:p∈snT):isNum p.1=true∧encN p.1=p.2∧rnV p.2 0=.tup [.one (.int .i64 p.1),.one (.int .i64 (p.2.length:Int)),.one (.int .i64 0)]∧p.2.length≤1000000000:=by
 unfold snT at h;simp only [List.mem_cons,List.not_mem_nil,or_false] at h;rcases h with rfl | rfl | rfl | rfl | rfl | rfl | rfl<;>exact ⟨by decide,by decide,kq,by decide⟩
theorem snN (p:Int×List UInt8) (h:p∈snT):CallsK Tryz.prog 16 [.one (.int .i64 p.1)] noF (fun _:Unit=>True) (fun _=>.tup [.one (.str p.2),.one (.int .i64 0)]) (fun _=>noF):=by
 have h1:=xNumber p.1;rw [(snT_num p h).1,(snT_num p h).2.1] at h1;exact h1
theorem snR (p:Int×List UInt8) (h:p∈snT):CallsK Tryz.prog 18 [.one (.str p.2),.one (.int .i64 0)] noF (fun _:Unit=>True) (fun _=>.tup [.one (.int .i64 p.1),.one (.int .i64 (p.2.length:Int)),.one (.int .i64 0)]) (fun _=>noF):=by
 have h1:=xReadNumber p.2 0 (snT_num p h).2.2.2;rw [(snT_num p h).2.2.1] at h1;exact h1
def snSt (n0:Nat) (S:Nat→Prop) (gL it:Nat) (seen:Array Nat):St :=
 { n:=242,slots:=[(39,.v (.one (.val (.pointer (some ⟨it,0,none⟩)))))],gs:=[],heap:=[],next:=0,
    rows:=[(0,objRow it (.mapIter (some gL) 7 seen 7))],nr:=1,pers:=[newP n0 S (objP gL (.map snEs 7)),glbP],wr:=true,fx:=0 }
theorem sn_born:∀ x∈snEs.toList,x.born<7:=fun e he=>by
 obtain ⟨p,_,_,_,h⟩:=snL_mem (l:=snT) (i:=0) he;simpa [snT] using h
theorem sn_nodup:(snEs.toList.map (·.born)).Nodup:=by
 show [0,1,2,3,4,5,6].Nodup;decide
noncomputable def aBlank:Con Tryz.prog:=Con.auto Tryz.func49 true [] [] kq kq
theorem sx4_l (g:Nat):(∀ k,(rowP (rowI sx4 (sA4 g))).D k→∃ q∈[blkP g [.int .i64 2] 3],q.D k)∧(∀ w,(∀ q∈[blkP g [.int .i64 2] 3],q.φ w)→(rowP (rowI sx4 (sA4 g))).φ w) :=
 ⟨fun k hk=>⟨_,List.mem_singleton.2 rfl,by
  obtain ⟨a,h1,h2,_⟩:=hk;have h1':(some ⟨g,0,none⟩:Option Addr)=some a:=h1;cases h1';exact h2.symm⟩,fun w hw=>rowP_of_blk (f:=intv) (d:=0) (l:=[2]) (e:=3) (sz:=1) (fun _=>rfl) (fun x y hy=>by rw [List.mem_singleton.1 hy]; trivial) (by decide) w (hw _ (List.mem_singleton.2 rfl))⟩
set_option maxHeartbeats 4000000 in
theorem sane_:CallsK Tryz.prog 14 [] glbF (fun _:Unit=>True) (fun _=>.v (.one (.sb true))) (fun _=>noF):=by
 refine CallsK.m true Tryz.func14 (fun ρ0 w0=>?_);refine V.q ?_;refine V.mkMap 86 kq (fun _=>kq) (fun gL=>?_);refine V.runM [] 0 7 [] (List.replicate 7 (gL,gL)) kq kq trivial (fun p hp=>by rw [List.eq_of_mem_replicate hp]) ?_;refine V.q ?_;refine V.freezeObj 0 gL (.map snEs 7) kq ?_;refine V.range 86 3 9 gL snEs 7 kq kq (fun ρ a w hS=>hS.objN (n0:=w0.heap.size) (S:=touch ρ0 glbF) 0 kq) (fun _=>kq) (fun it=>?_);refine V.q ?_;refine V.iter ?_;refine V.loopTo [39] [] [1] [true,true] (fun seen:Array Nat=>(leftOf snEs seen).size) (snSt w0.heap.size (touch ρ0 glbF) gL it) (fun _=>True) #[] kq trivial (fun seen _ ih=>?_);refine V.q ?_;refine V.next it 0 gL 7 7 7 seen snEs kq kq (fun ρ a w hS=>hS.objN (n0:=w0.heap.size) (S:=touch ρ0 glbF) 0 kq) sn_born (Nat.le_refl _) kq (fun e he=>kq) (fun hsz=>?_) (fun e he=>?_)
 ·refine V.t [⟨aBlank,[]⟩] [] trivial ?_;refine V.soft 5 ?_;refine V.soft 3 ?_;refine V.absB 4 ⟨[.int .i64 2],3,true⟩ kq kq (fun _=>kq) (fun g=>?_);refine V.persNew [] [] (rowP (rowF zeroI IA0)) kq kq (fun k hk=>absurd hk ((row_none (R:=rowF zeroI IA0) rfl rfl rfl).1 k)) (fun w _=>(row_none (R:=rowF zeroI IA0) rfl rfl rfl).2 w) (rowP_stab _) ?_;refine V.persNew [] [] (rowP (rowI zeroI IA0)) kq kq (fun k hk=>absurd hk ((row_none (R:=rowI zeroI IA0) rfl rfl rfl).1 k)) (fun w _=>(row_none (R:=rowI zeroI IA0) rfl rfl rfl).2 w) (rowP_stab _) ?_;refine V.persNew [] [] (rowP (rowT zeroI IA0)) kq kq (fun k hk=>absurd hk ((row_none (R:=rowT zeroI IA0) rfl rfl rfl).1 k)) (fun w _=>(row_none (R:=rowT zeroI IA0) rfl rfl rfl).2 w) (rowP_stab _) ?_;refine V.persNew [(3,true)] [blkP g [.int .i64 2] 3] (rowP (rowI sx4 (sA4 g))) kq kq (sx4_l g).1 (sx4_l g).2 (rowP_stab _) ?_;refine V.iter ?_;refine V.q ?_;refine V.kn 103 (decide ((0:Int)<4)) true (by decide) ?_;refine V.t [] [(0:Int)≤0∧(0:Int)<4] ⟨by decide,by decide⟩ ?_;refine V.c [(6,false),(3,true),(2,true),(1,true)] (xEncode sx1 IA0 sx1_okL sx1_fine) (fun qc0 _=>?_);refine V.q ?_;refine V.freeze 1 (rowL rlv (0,0) [] qc0.1 qc0.2 62 2 true) kq kq ?_;refine V.c [(7,false),(0,true)] (xDecode [] ⟨[3,8,2],qc0.1,0,qc0.2⟩ rfl (by decide) 0 ⟨by show 3≤1000000000; decide,Nat.zero_le _⟩ kq) (fun yd0 hd0=>?_);obtain ⟨d0,D0⟩:=yd0;have ed0:d0=sx1:=hd0.trans (sx1_dec qc0.1 qc0.2);subst ed0;refine V.q ?_;refine V.c [(10,false),(7,true),(6,true),(5,true)] (xText sx1 IA0 sx1_okL 3 kq kq kq sx1_fine) (fun _ _=>?_);refine V.q ?_;refine V.c [(10,false)] (xParse [77,79,86,69,32,114,51,32,114,48] [[77,79,86,69],[114,51],[114,48]] sx1 kq (by decide) kq (by decide) (pok_of sx1_find sx1_pok) sx1_read) (fun yp0 hp0=>?_);obtain ⟨p0,P0⟩:=yp0;have ep0:p0=sx1:=hp0;subst ep0;refine V.persAs [(10,true)] [rowP (rowF sx1 IA0)] (rowP (rowF sx1 IA0)) kq (fun k hk=>⟨_,List.mem_singleton.2 rfl,hk⟩) (fun w hw=>hw _ (List.mem_singleton.2 rfl)) (rowP_stab _) ?_;refine V.persAs [(10,true)] [rowP (rowI sx1 IA0)] (rowP (rowI sx1 IA0)) kq (fun k hk=>⟨_,List.mem_singleton.2 rfl,hk⟩) (fun w hw=>hw _ (List.mem_singleton.2 rfl)) (rowP_stab _) ?_;refine V.persAs [(10,true)] [rowP (rowT sx1 IA0)] (rowP (rowT sx1 IA0)) kq (fun k hk=>⟨_,List.mem_singleton.2 rfl,hk⟩) (fun w hw=>hw _ (List.mem_singleton.2 rfl)) (rowP_stab _) ?_;refine V.persAs [(6,true)] [rowP (rowF sx1 D0)] (rowP (rowF sx1 D0)) kq (fun k hk=>⟨_,List.mem_singleton.2 rfl,hk⟩) (fun w hw=>hw _ (List.mem_singleton.2 rfl)) (rowP_stab _) ?_;refine V.persAs [(8,true)] [rowP (rowI sx1 D0)] (rowP (rowI sx1 D0)) kq (fun k hk=>⟨_,List.mem_singleton.2 rfl,hk⟩) (fun w hw=>hw _ (List.mem_singleton.2 rfl)) (rowP_stab _) ?_;refine V.persAs [(10,true)] [rowP (rowT sx1 D0)] (rowP (rowT sx1 D0)) kq (fun k hk=>⟨_,List.mem_singleton.2 rfl,hk⟩) (fun w hw=>hw _ (List.mem_singleton.2 rfl)) (rowP_stab _) ?_;refine V.persAs [(6,true)] [rowP (rowF sx1 P0)] (rowP (rowF sx1 P0)) kq (fun k hk=>⟨_,List.mem_singleton.2 rfl,hk⟩) (fun w hw=>hw _ (List.mem_singleton.2 rfl)) (rowP_stab _) ?_;refine V.persAs [(8,true)] [rowP (rowI sx1 P0)] (rowP (rowI sx1 P0)) kq (fun k hk=>⟨_,List.mem_singleton.2 rfl,hk⟩) (fun w hw=>hw _ (List.mem_singleton.2 rfl)) (rowP_stab _) ?_;refine V.persAs [(10,true)] [rowP (rowT sx1 P0)] (rowP (rowT sx1 P0)) kq (fun k hk=>⟨_,List.mem_singleton.2 rfl,hk⟩) (fun w hw=>hw _ (List.mem_singleton.2 rfl)) (rowP_stab _) ?_;refine V.t [⟨sSame2 sx1 IA0 P0 D0 sx1_okL,[17,18,19,20,21,22,14,15,16]⟩] [((false=false)→(([.agg (inV sx1 D0),.agg (inV sx1 IA0)]:List CV)=[.agg (inV sx1 D0),.agg (inV sx1 IA0)]∨([.agg (inV sx1 D0),.agg (inV sx1 IA0)]:List CV)=[.agg (inV sx1 P0),.agg (inV sx1 IA0)])),((false=false)→(([.agg (inV sx1 P0),.agg (inV sx1 IA0)]:List CV)=[.agg (inV sx1 D0),.agg (inV sx1 IA0)]∨([.agg (inV sx1 P0),.agg (inV sx1 IA0)]:List CV)=[.agg (inV sx1 P0),.agg (inV sx1 IA0)]))] ⟨fun _=>.inl rfl,fun _=>.inr rfl⟩ ?_;refine V.kn 176 false false rfl ?_;refine V.q ?_;refine V.iter ?_;refine V.ungrd ?_;refine V.q ?_;refine V.kn 103 (decide ((1:Int)<4)) true (by decide) ?_;refine V.t [] [(0:Int)≤1∧(1:Int)<4] ⟨by decide,by decide⟩ ?_;refine V.c [(22,false),(19,true),(18,true),(17,true)] (xEncode sx2 IA0 sx2_okL sx2_fine) (fun qc1 _=>?_);refine V.q ?_;refine V.freeze 2 (rowL rlv (0,0) [] qc1.1 qc1.2 62 2 true) kq kq ?_;refine V.c [(23,false),(0,true)] (xDecode [] ⟨[14,0,0,1,2],qc1.1,0,qc1.2⟩ rfl (by decide) 0 ⟨by show 5≤1000000000; decide,Nat.zero_le _⟩ kq) (fun yd1 hd1=>?_);obtain ⟨d1,D1⟩:=yd1;have ed1:d1=sx2:=hd1.trans (sx2_dec qc1.1 qc1.2);subst ed1;refine V.q ?_;refine V.c [(26,false),(23,true),(22,true),(21,true)] (xText sx2 IA0 sx2_okL 14 kq kq kq sx2_fine) (fun _ _=>?_);refine V.q ?_;refine V.c [(26,false)] (xParse [74,85,77,80,32,64,50,53,56] [[74,85,77,80],[64,50,53,56]] sx2 kq (by decide) kq (by decide) (pok_of sx2_find sx2_pok) sx2_read) (fun yp1 hp1=>?_);obtain ⟨p1,P1⟩:=yp1;have ep1:p1=sx2:=hp1;subst ep1;refine V.persAs [(26,true)] [rowP (rowF sx2 IA0)] (rowP (rowF sx2 IA0)) kq (fun k hk=>⟨_,List.mem_singleton.2 rfl,hk⟩) (fun w hw=>hw _ (List.mem_singleton.2 rfl)) (rowP_stab _) ?_;refine V.persAs [(26,true)] [rowP (rowI sx2 IA0)] (rowP (rowI sx2 IA0)) kq (fun k hk=>⟨_,List.mem_singleton.2 rfl,hk⟩) (fun w hw=>hw _ (List.mem_singleton.2 rfl)) (rowP_stab _) ?_;refine V.persAs [(26,true)] [rowP (rowT sx2 IA0)] (rowP (rowT sx2 IA0)) kq (fun k hk=>⟨_,List.mem_singleton.2 rfl,hk⟩) (fun w hw=>hw _ (List.mem_singleton.2 rfl)) (rowP_stab _) ?_;refine V.persAs [(6,true)] [rowP (rowF sx2 D1)] (rowP (rowF sx2 D1)) kq (fun k hk=>⟨_,List.mem_singleton.2 rfl,hk⟩) (fun w hw=>hw _ (List.mem_singleton.2 rfl)) (rowP_stab _) ?_;refine V.persAs [(8,true)] [rowP (rowI sx2 D1)] (rowP (rowI sx2 D1)) kq (fun k hk=>⟨_,List.mem_singleton.2 rfl,hk⟩) (fun w hw=>hw _ (List.mem_singleton.2 rfl)) (rowP_stab _) ?_;refine V.persAs [(10,true)] [rowP (rowT sx2 D1)] (rowP (rowT sx2 D1)) kq (fun k hk=>⟨_,List.mem_singleton.2 rfl,hk⟩) (fun w hw=>hw _ (List.mem_singleton.2 rfl)) (rowP_stab _) ?_;refine V.persAs [(6,true)] [rowP (rowF sx2 P1)] (rowP (rowF sx2 P1)) kq (fun k hk=>⟨_,List.mem_singleton.2 rfl,hk⟩) (fun w hw=>hw _ (List.mem_singleton.2 rfl)) (rowP_stab _) ?_;refine V.persAs [(8,true)] [rowP (rowI sx2 P1)] (rowP (rowI sx2 P1)) kq (fun k hk=>⟨_,List.mem_singleton.2 rfl,hk⟩) (fun w hw=>hw _ (List.mem_singleton.2 rfl)) (rowP_stab _) ?_;refine V.persAs [(10,true)] [rowP (rowT sx2 P1)] (rowP (rowT sx2 P1)) kq (fun k hk=>⟨_,List.mem_singleton.2 rfl,hk⟩) (fun w hw=>hw _ (List.mem_singleton.2 rfl)) (rowP_stab _) ?_;refine V.t [⟨sSame2 sx2 IA0 P1 D1 sx2_okL,[33,34,35,36,37,38,30,31,32]⟩] [((false=false)→(([.agg (inV sx2 D1),.agg (inV sx2 IA0)]:List CV)=[.agg (inV sx2 D1),.agg (inV sx2 IA0)]∨([.agg (inV sx2 D1),.agg (inV sx2 IA0)]:List CV)=[.agg (inV sx2 P1),.agg (inV sx2 IA0)])),((false=false)→(([.agg (inV sx2 P1),.agg (inV sx2 IA0)]:List CV)=[.agg (inV sx2 D1),.agg (inV sx2 IA0)]∨([.agg (inV sx2 P1),.agg (inV sx2 IA0)]:List CV)=[.agg (inV sx2 P1),.agg (inV sx2 IA0)]))] ⟨fun _=>.inl rfl,fun _=>.inr rfl⟩ ?_;refine V.kn 176 false false rfl ?_;refine V.q ?_;refine V.iter ?_;refine V.ungrd ?_;refine V.q ?_;refine V.kn 103 (decide ((2:Int)<4)) true (by decide) ?_;refine V.t [] [(0:Int)≤2∧(2:Int)<4] ⟨by decide,by decide⟩ ?_;refine V.c [(38,false),(35,true),(34,true),(33,true)] (xEncode sx3 IA0 sx3_okL sx3_fine) (fun qc2 _=>?_);refine V.q ?_;refine V.freeze 3 (rowL rlv (0,0) [] qc2.1 qc2.2 62 2 true) kq kq ?_;refine V.c [(39,false),(0,true)] (xDecode [] ⟨[8,2,4,4,30,0,0,0],qc2.1,0,qc2.2⟩ rfl (by decide) 0 ⟨by show 8≤1000000000; decide,Nat.zero_le _⟩ kq) (fun yd2 hd2=>?_);obtain ⟨d2,D2⟩:=yd2;have ed2:d2=sx3:=hd2.trans (sx3_dec qc2.1 qc2.2);subst ed2;refine V.q ?_;refine V.c [(42,false),(39,true),(38,true),(37,true)] (xText sx3 IA0 sx3_okL 8 kq kq kq sx3_fine) (fun _ _=>?_);refine V.q ?_;refine V.c [(42,false)] (xParse [76,79,65,68,32,114,48,32,114,49,32,50,44,49,53,44,48,44,48,44,61] [[76,79,65,68],[114,48],[114,49],[50,44,49,53,44,48,44,48,44,61]] sx3 kq (by decide) kq (by decide) (pok_of sx3_find sx3_pok) sx3_read) (fun yp2 hp2=>?_);obtain ⟨p2,P2⟩:=yp2;have ep2:p2=sx3:=hp2;subst ep2;refine V.persAs [(42,true)] [rowP (rowF sx3 IA0)] (rowP (rowF sx3 IA0)) kq (fun k hk=>⟨_,List.mem_singleton.2 rfl,hk⟩) (fun w hw=>hw _ (List.mem_singleton.2 rfl)) (rowP_stab _) ?_;refine V.persAs [(42,true)] [rowP (rowI sx3 IA0)] (rowP (rowI sx3 IA0)) kq (fun k hk=>⟨_,List.mem_singleton.2 rfl,hk⟩) (fun w hw=>hw _ (List.mem_singleton.2 rfl)) (rowP_stab _) ?_;refine V.persAs [(42,true)] [rowP (rowT sx3 IA0)] (rowP (rowT sx3 IA0)) kq (fun k hk=>⟨_,List.mem_singleton.2 rfl,hk⟩) (fun w hw=>hw _ (List.mem_singleton.2 rfl)) (rowP_stab _) ?_;refine V.persAs [(6,true)] [rowP (rowF sx3 D2)] (rowP (rowF sx3 D2)) kq (fun k hk=>⟨_,List.mem_singleton.2 rfl,hk⟩) (fun w hw=>hw _ (List.mem_singleton.2 rfl)) (rowP_stab _) ?_;refine V.persAs [(8,true)] [rowP (rowI sx3 D2)] (rowP (rowI sx3 D2)) kq (fun k hk=>⟨_,List.mem_singleton.2 rfl,hk⟩) (fun w hw=>hw _ (List.mem_singleton.2 rfl)) (rowP_stab _) ?_;refine V.persAs [(10,true)] [rowP (rowT sx3 D2)] (rowP (rowT sx3 D2)) kq (fun k hk=>⟨_,List.mem_singleton.2 rfl,hk⟩) (fun w hw=>hw _ (List.mem_singleton.2 rfl)) (rowP_stab _) ?_;refine V.persAs [(6,true)] [rowP (rowF sx3 P2)] (rowP (rowF sx3 P2)) kq (fun k hk=>⟨_,List.mem_singleton.2 rfl,hk⟩) (fun w hw=>hw _ (List.mem_singleton.2 rfl)) (rowP_stab _) ?_;refine V.persAs [(8,true)] [rowP (rowI sx3 P2)] (rowP (rowI sx3 P2)) kq (fun k hk=>⟨_,List.mem_singleton.2 rfl,hk⟩) (fun w hw=>hw _ (List.mem_singleton.2 rfl)) (rowP_stab _) ?_;refine V.persAs [(10,true)] [rowP (rowT sx3 P2)] (rowP (rowT sx3 P2)) kq (fun k hk=>⟨_,List.mem_singleton.2 rfl,hk⟩) (fun w hw=>hw _ (List.mem_singleton.2 rfl)) (rowP_stab _) ?_;refine V.t [⟨sSame2 sx3 IA0 P2 D2 sx3_okL,[49,50,51,52,53,54,46,47,48]⟩] [((false=false)→(([.agg (inV sx3 D2),.agg (inV sx3 IA0)]:List CV)=[.agg (inV sx3 D2),.agg (inV sx3 IA0)]∨([.agg (inV sx3 D2),.agg (inV sx3 IA0)]:List CV)=[.agg (inV sx3 P2),.agg (inV sx3 IA0)])),((false=false)→(([.agg (inV sx3 P2),.agg (inV sx3 IA0)]:List CV)=[.agg (inV sx3 D2),.agg (inV sx3 IA0)]∨([.agg (inV sx3 P2),.agg (inV sx3 IA0)]:List CV)=[.agg (inV sx3 P2),.agg (inV sx3 IA0)]))] ⟨fun _=>.inl rfl,fun _=>.inr rfl⟩ ?_;refine V.kn 176 false false rfl ?_;refine V.q ?_;refine V.iter ?_;refine V.ungrd ?_;refine V.q ?_;refine V.kn 103 (decide ((3:Int)<4)) true (by decide) ?_;refine V.t [] [(0:Int)≤3∧(3:Int)<4] ⟨by decide,by decide⟩ ?_;refine V.c [(54,false),(51,true),(48,true),(49,true)] (xEncode sx4 (sA4 g) sx4_okL sx4_fine) (fun qc3 _=>?_);refine V.q ?_;refine V.freeze 4 (rowL rlv (0,0) [(2,5)] qc3.1 qc3.2 62 2 true) kq kq ?_;refine V.c [(55,false),(0,true)] (xDecode [(2,5)] ⟨[17,0,0,0,0,0,2,6],qc3.1,1,qc3.2⟩ rfl (by decide) 0 ⟨by show 8≤1000000000; decide,Nat.zero_le _⟩ kq) (fun yd3 hd3=>?_);obtain ⟨d3,D3⟩:=yd3;have ed3:d3=sx4:=hd3.trans (sx4_dec qc3.1 qc3.2);subst ed3;refine V.q ?_;refine V.c [(58,false),(55,true),(52,true),(53,true)] (xText sx4 (sA4 g) sx4_okL 17 kq kq kq sx4_fine) (fun _ _=>?_);refine V.q ?_;refine V.c [(58,false)] (xParse [67,65,76,76,32,45,32,33,53,32,91,114,50,93] [[67,65,76,76],[45],[33,53],[91,114,50,93]] sx4 kq (by decide) kq (by decide) (pok_of sx4_find sx4_pok) sx4_read) (fun yp3 hp3=>?_);obtain ⟨p3,P3⟩:=yp3;have ep3:p3=sx4:=hp3;subst ep3;refine V.persAs [(58,true)] [rowP (rowF sx4 (sA4 g))] (rowP (rowF sx4 (sA4 g))) kq (fun k hk=>⟨_,List.mem_singleton.2 rfl,hk⟩) (fun w hw=>hw _ (List.mem_singleton.2 rfl)) (rowP_stab _) ?_;refine V.persAs [(56,true)] [rowP (rowI sx4 (sA4 g))] (rowP (rowI sx4 (sA4 g))) kq (fun k hk=>⟨_,List.mem_singleton.2 rfl,hk⟩) (fun w hw=>hw _ (List.mem_singleton.2 rfl)) (rowP_stab _) ?_;refine V.persAs [(58,true)] [rowP (rowT sx4 (sA4 g))] (rowP (rowT sx4 (sA4 g))) kq (fun k hk=>⟨_,List.mem_singleton.2 rfl,hk⟩) (fun w hw=>hw _ (List.mem_singleton.2 rfl)) (rowP_stab _) ?_;refine V.persAs [(6,true)] [rowP (rowF sx4 D3)] (rowP (rowF sx4 D3)) kq (fun k hk=>⟨_,List.mem_singleton.2 rfl,hk⟩) (fun w hw=>hw _ (List.mem_singleton.2 rfl)) (rowP_stab _) ?_;refine V.persAs [(8,true)] [rowP (rowI sx4 D3)] (rowP (rowI sx4 D3)) kq (fun k hk=>⟨_,List.mem_singleton.2 rfl,hk⟩) (fun w hw=>hw _ (List.mem_singleton.2 rfl)) (rowP_stab _) ?_;refine V.persAs [(10,true)] [rowP (rowT sx4 D3)] (rowP (rowT sx4 D3)) kq (fun k hk=>⟨_,List.mem_singleton.2 rfl,hk⟩) (fun w hw=>hw _ (List.mem_singleton.2 rfl)) (rowP_stab _) ?_;refine V.persAs [(6,true)] [rowP (rowF sx4 P3)] (rowP (rowF sx4 P3)) kq (fun k hk=>⟨_,List.mem_singleton.2 rfl,hk⟩) (fun w hw=>hw _ (List.mem_singleton.2 rfl)) (rowP_stab _) ?_;refine V.persAs [(8,true)] [rowP (rowI sx4 P3)] (rowP (rowI sx4 P3)) kq (fun k hk=>⟨_,List.mem_singleton.2 rfl,hk⟩) (fun w hw=>hw _ (List.mem_singleton.2 rfl)) (rowP_stab _) ?_;refine V.persAs [(10,true)] [rowP (rowT sx4 P3)] (rowP (rowT sx4 P3)) kq (fun k hk=>⟨_,List.mem_singleton.2 rfl,hk⟩) (fun w hw=>hw _ (List.mem_singleton.2 rfl)) (rowP_stab _) ?_;refine V.t [⟨sSame2 sx4 (sA4 g) P3 D3 sx4_okL,[65,66,67,68,69,70,62,63,64]⟩] [((false=false)→(([.agg (inV sx4 D3),.agg (inV sx4 (sA4 g))]:List CV)=[.agg (inV sx4 D3),.agg (inV sx4 (sA4 g))]∨([.agg (inV sx4 D3),.agg (inV sx4 (sA4 g))]:List CV)=[.agg (inV sx4 P3),.agg (inV sx4 (sA4 g))])),((false=false)→(([.agg (inV sx4 P3),.agg (inV sx4 (sA4 g))]:List CV)=[.agg (inV sx4 D3),.agg (inV sx4 (sA4 g))]∨([.agg (inV sx4 P3),.agg (inV sx4 (sA4 g))]:List CV)=[.agg (inV sx4 P3),.agg (inV sx4 (sA4 g))]))] ⟨fun _=>.inl rfl,fun _=>.inr rfl⟩ ?_;refine V.kn 176 false false rfl ?_;refine V.q ?_;refine V.iter ?_;exact V.backK [11,101,102] [false,false,false,false,false,false,false,false,false,false,false,false,false,false,false,false,false,false,false,false,false,false,false,false,false,false,false,false,false,false,false,false,false,false,false,false,false,false,false,false,false,false,false,false,false,false,false,false,false,false,false,false,false,false,false,false,false,false,false,false,false,false,false,false,true,true,true,true,false,false,true] (sane_rest ρ0 w0 g) kq kq
 ·have hin:=left_in' he;have hlt:=leftOf_push_lt he;obtain ⟨p,hp,hkey,hval,hb⟩:=snL_mem hin;obtain ⟨ek,ev,eb⟩:=e;simp only at hkey hval hlt;subst hkey hval;refine V.q ?_;refine V.entry it 0 gL 7 7 seen snEs _ kq kq (fun ρ a w hS=>hS.objN (n0:=w0.heap.size) (S:=touch ρ0 glbF) 0 kq) hin sn_nodup kq ?_;refine V.q ?_;refine V.s 1 (.one (.val (.int .i64 p.1))) (.one (.int .i64 p.1)) (fun _=>rfl) ?_;refine V.s 46 (.one (.val (.int .i64 p.1))) (.one (.int .i64 p.1)) (fun _=>rfl) ?_;refine V.s 2 (.one (.val (.string ⟨p.2.toArray⟩))) (.one (.str p.2)) (fun _=>rfl) ?_;refine V.q ?_;refine V.c [] (snN p hp) (fun _ _=>?_);refine V.q ?_;refine V.c [] (snR p hp) (fun _ _=>?_);refine V.q ?_;refine V.kn 77 (((((0:Int) != 0||!p.2==p.2)||(0:Int) != 0)||p.1 != p.1)||(p.2.length:Int) != (p.2.length:Int)) false (by simp) ?_;refine V.q ?_;refine V.iter ?_;exact V.back [39] [] [0] [true,true] (ih (seen.push eb) trivial hlt) kq kq
theorem ixA_at (l:List (In×IA)) {i:Nat} (h:i<l.length):l.getD i ixD∈l:=by
 rw [List.getD,List.getElem?_eq_getElem h];exact List.getElem_mem _
noncomputable def aShort:Con Tryz.prog:=Con.auto Tryz.func28 true [] [] kq kq
theorem wrap_in {a:Int} (h:0≤a) (h':a≤4000000000000000000):IntKind.i64.wrap a=a:=by
 simp [IntKind.wrap,IntKind.bits,IntKind.signed]; omega
theorem lnT_len {x:In} (h:cFine x=true):(lnT x).length≤200000:=by
 obtain ⟨o,ho,e⟩:=fine_op h;rw [lnT_of e];have hfl:(opFls o).length≤7∧(opName o).length≤100:=by
  have:=all_ops (p:=fun o=>decide ((opFls o).length≤7)&&decide ((opName o).length≤100)) kq ho;simpa using this
 have:=join_le [32] 20000 (opName o::lineW x (opFls o)) (fun y hy=>by
  rcases List.mem_cons.1 hy with rfl | hy
  ·omega
  ·obtain ⟨f,hfm,rfl⟩:=List.mem_map.1 hy;exact txt_len f x (all_mem (tokAll ho e h) f hfm))
 unfold lineT;simp only [List.length_cons,List.length_nil,lineW,List.length_map] at this ⊢;omega
def liO:Option (List In×List Int)→List UInt8×Int
 | some s=>(lsT s.1,0)
 | none=>([],221)
def liA (rl:List (Int×Int)) (X:RIn) (pr rg:Int):List UInt8×Int:=liO (vdS rl X pr rg)
theorem lsT_next {l:List (In×IA)} {i:Nat} (h:i<l.length):lsT ((l.take (i+1)).map (·.1))=lsT ((l.take i).map (·.1))++(lnT (l.getD i ixD).1++[10]):=by
 unfold lsT;rw [List.take_add_one,List.map_append,List.flatMap_append,List.getElem?_eq_getElem h,List.getD,List.getElem?_eq_getElem h];simp
noncomputable def lisSt (K:Kc) (l:List (In×IA)) (q:Option Addr) (c:Nat) (j:HXI):St :=
 { n:=34,slots:=[(4,.v (.one (.ptr 0 0))),(8,.v (.one (.ptr 1 0))),(21,.v (.one (.row 1 q l.length c))),(22,.v (.one (.int .i64 (l.length:Int)))),(23,.v (.one (.int .i64 (j.i:Int))))],gs:=[],
    heap:=[(0,⟨[.val (.map (some K.gF)),.val (.map (some K.gO))],110,true⟩),(1,⟨[.ptr 1 0,.row 0 j.q j.l.length j.c],137,true⟩)],next:=2,rows:=[(0,rowL bsv 0 j.l j.q j.c 5 1 true),(1,ixRow l q c false)],nr:=2,pers:=[insP l,cdP K,glbP],wr:=true,fx:=0 }
set_option maxHeartbeats 2000000 in
theorem xListing (rl:List (Int×Int)) (X:RIn) (hX:X.n=rl.length) (hl:rl.length≤1000000000) (hs:X.s.length≤1000000) (pr rg:Int) :
  CallsK Tryz.prog 37 [modC pr rg X] (psOf [glbP,rowP (relRow rl X.q X.c)]) (fun _:Unit=>True) (fun _=>.tup [.one (.str (liA rl X pr rg).1),.one (.int .i64 (liA rl X pr rg).2)]) (fun _=>noF):=by
 obtain ⟨r,hr⟩:∃ r,vdS rl X pr rg=r:=⟨_,rfl⟩;have e:liA rl X pr rg=liO r:=by unfold liA; rw [hr]
 rw [e];refine CallsK.m true Tryz.func37 (fun ρ w=>?_);refine V.q ?_;refine V.c [(0,false)] cNew0 (fun K hK=>?_);refine V.q ?_;refine V.callK [(0,true),(2,false)] (cValid K hK rl X hX hl (by omega) pr rg) kq kq kq (fun t=>by cases t<;>kernel_rfl) (fun t ht=>?_);unfold tkPc at ht;rw [hr] at ht;cases r with
 | none =>
  have ht':t=none:=ht.1;subst ht';refine V.q ?_;refine V.kn 20 (!false) true rfl ?_;refine V.q ?_;exact V.z
 | some s =>
  obtain ⟨hmd,hfin⟩:=vd_back (by omega) hr;obtain ⟨t',rfl,h1,h2⟩:=ht.1;obtain ⟨l,q,c,p,q',c'⟩:=t';obtain ⟨s1,s2⟩:=s;simp only at h1 h2 hfin hmd;subst h1 h2;refine V.q ?_;refine V.kn 20 (!true) false rfl ?_;refine V.q ?_;have hlen:l.length≤1000000:=by have:=hfin.2; rw [List.length_map] at this; omega
  have hx:∀ i,i<l.length→cFine (l.getD i ixD).1=true∧(l.getD i ixD).1.okL:=fun i hi=>hfin.1 _ (List.mem_map.2 ⟨_,ixA_at l hi,rfl⟩);refine V.persAs [(3,true)] [cdP K] (cdP K) kq (fun k hk=>⟨_,List.mem_singleton.2 rfl,hk⟩) (fun w hw=>hw _ (List.mem_singleton.2 rfl)) (cdP_stab K) ?_;refine V.persAs [(1,true)] [insP l] (insP l) kq (fun k hk=>⟨_,List.mem_singleton.2 rfl,hk⟩) (fun w hw=>hw _ (List.mem_singleton.2 rfl)) (insP_stab l) ?_;refine V.persAs [(3,true)] [rowP (ixRow l q c false)] (rowP (ixRow l q c false)) kq (fun k hk=>⟨_,List.mem_singleton.2 rfl,hk⟩) (fun w hw=>hw _ (List.mem_singleton.2 rfl)) (rowP_stab _) ?_;refine V.ar 21 0 (ixRow l q c false) ?_;refine V.iter ?_;refine V.q ?_;refine V.bn 24 (decide ((0:Int)<(l.length:Int))) (fun hc=>?_) (fun hc=>?_)
  ·have h0:0<l.length:=by simpa using hc
   have hxi:=hx 0 (by omega);have hln:=lnT_len hxi.1;refine V.t [] [(0:Int)≤((0:Nat):Int)∧((0:Nat):Int)<((l.length:Nat):Int)] ⟨by omega,by omega⟩ ?_;refine V.pickP 1 (l.map fun e=>manyP (lsP e.1 e.2)) (manyP (lsP (l.getD 0 ixD).1 (l.getD 0 ixD).2)) kq (List.mem_map.2 ⟨_,ixA_at l (by omega),rfl⟩) (manyP_stab (lsP_stab _ _)) ?_;refine V.pickP 0 (lsP (l.getD 0 ixD).1 (l.getD 0 ixD).2) (rowP (rowF (l.getD 0 ixD).1 (l.getD 0 ixD).2)) kq (List.mem_cons_self ..) (rowP_stab _) ?_;refine V.pickP 1 (lsP (l.getD 0 ixD).1 (l.getD 0 ixD).2) (rowP (rowI (l.getD 0 ixD).1 (l.getD 0 ixD).2)) kq (List.mem_cons_of_mem _ (List.mem_cons_self ..)) (rowP_stab _) ?_;refine V.pickP 2 (lsP (l.getD 0 ixD).1 (l.getD 0 ixD).2) (rowP (rowT (l.getD 0 ixD).1 (l.getD 0 ixD).2)) kq (List.mem_cons_of_mem _ (List.mem_cons_of_mem _ (List.mem_cons_self ..))) (rowP_stab _) ?_;refine V.c [(6,false),(11,false),(2,false),(1,false),(0,false)] (cLineA K hK (l.getD 0 ixD).1 (l.getD 0 ixD).2 hxi.2 hxi.1) (fun _ _=>?_);have hln2:(lnT (l.getD 0 ixD).1).length+1≤9223372036854775807:=by omega
   refine V.t [] [((lnT (l.getD 0 ixD).1).length+1:Nat)≤9223372036854775807] hln2 ?_;refine V.c [] (wstr_new (lnT (l.getD 0 ixD).1++[10]) (by rw [List.length_append,List.length_singleton]; omega)) (fun y _=>?_);refine V.q ?_;refine V.s 23 (.one (.int .i64 (IntKind.i64.wrap (((0:Nat):Int)+1)))) (.one (.int .i64 ((0+1:Nat):Int))) (fun _=>by rw [wrap_up (by omega)]) ?_;refine V.loopK [4,8,21,22,23] [false,false,false,false,false,true,true,false,false,false,false,true] (fun j:HXI=>l.length - j.i) (lisSt K l q c) (fun j=>j.i≤l.length∧j.l=lsT ((l.take j.i).map (·.1))∧j.l.length≤200001*j.i) ⟨lnT (l.getD 0 ixD).1++[10],y.1,y.2,1⟩ kq ⟨h0,(lsT_next h0).symm,by simp only [List.length_append,List.length_singleton]; omega⟩ (fun j hj ih=>?_);obtain ⟨b,bq,bc,i⟩:=j;obtain ⟨hi,hb1,hb2⟩:=hj;simp only at hi hb1 hb2;refine V.iter ?_;refine V.q ?_;refine V.bn 24 (decide ((i:Int)<(l.length:Int))) (fun hc=>?_) (fun hc=>?_)
   ·have hlt:i<l.length:=by simpa using hc
    have hxi:=hx i (by omega);have hln:=lnT_len hxi.1;refine V.t [] [(0:Int)≤((i:Nat):Int)∧((i:Nat):Int)<((l.length:Nat):Int)] ⟨by omega,by omega⟩ ?_;refine V.pickP 0 (l.map fun e=>manyP (lsP e.1 e.2)) (manyP (lsP (l.getD i ixD).1 (l.getD i ixD).2)) kq (List.mem_map.2 ⟨_,ixA_at l (by omega),rfl⟩) (manyP_stab (lsP_stab _ _)) ?_;refine V.pickP 0 (lsP (l.getD i ixD).1 (l.getD i ixD).2) (rowP (rowF (l.getD i ixD).1 (l.getD i ixD).2)) kq (List.mem_cons_self ..) (rowP_stab _) ?_;refine V.pickP 1 (lsP (l.getD i ixD).1 (l.getD i ixD).2) (rowP (rowI (l.getD i ixD).1 (l.getD i ixD).2)) kq (List.mem_cons_of_mem _ (List.mem_cons_self ..)) (rowP_stab _) ?_;refine V.pickP 2 (lsP (l.getD i ixD).1 (l.getD i ixD).2) (rowP (rowT (l.getD i ixD).1 (l.getD i ixD).2)) kq (List.mem_cons_of_mem _ (List.mem_cons_of_mem _ (List.mem_cons_self ..))) (rowP_stab _) ?_;refine V.c [(5,false),(6,false),(2,false),(1,false),(0,false)] (cLineA K hK (l.getD i ixD).1 (l.getD i ixD).2 hxi.2 hxi.1) (fun _ _=>?_);have hln2:(lnT (l.getD i ixD).1).length+1≤9223372036854775807:=by omega
    refine V.t [] [((lnT (l.getD i ixD).1).length+1:Nat)≤9223372036854775807] hln2 ?_;refine V.c [] (wstr_used b bq bc (lnT (l.getD i ixD).1++[10]) (by rw [List.length_append,List.length_singleton]; omega)) (fun y _=>?_);refine V.q ?_;refine V.s 23 (.one (.int .i64 (IntKind.i64.wrap (((i:Nat):Int)+1)))) (.one (.int .i64 ((i+1:Nat):Int))) (fun _=>by rw [wrap_up (by omega)]) ?_;exact V.againK [4,8,21,22,23] [false,false,false,false,true,true,true] (ih ⟨b++(lnT (l.getD i ixD).1++[10]),y.1,y.2,i+1⟩ ⟨hlt,by simp only; rw [hb1,lsT_next hlt],by simp only [List.length_append,List.length_singleton]; omega⟩ (by simp only; omega)) kq kq
   ·have hle:i=l.length:=by simp at hc; omega
    rw [hle,List.take_length] at hb1;refine V.q ?_;refine V.c [] (bstr_used b bq bc (by omega)) (fun _ _=>?_);refine V.q ?_;subst hb1;exact V.z
  ·have h0:l=[]:=List.eq_nil_of_length_eq_zero (by simpa using hc);subst h0;refine V.q ?_;refine V.c [] bstr_new (fun _ _=>?_);refine V.q ?_;exact V.z
end Go.Proofs
end
section
namespace Go.Proofs
open Go Go.SX
theorem num_s (X:RIn):rdNum X=rdNum (xIn X.s):=funext fun r=>rdNumL_s X 6 r 0 1 0
theorem str_s (X:RIn):rdStr X=rdStr (xIn X.s):=funext fun r=>by unfold rdStr; rw [num_s X]; rfl
theorem flag_s (X:RIn):rdFlag X=rdFlag (xIn X.s):=rfl
theorem ty_s (X:RIn):rdTy X=rdTy (xIn X.s):=funext fun r=>by unfold rdTy; rw [num_s X,str_s X,flag_s X]
theorem fm_s (X:RIn):rdFm X=rdFm (xIn X.s):=funext fun r=>by unfold rdFm; rw [num_s X,str_s X]
theorem gI_s (X:RIn):gI X=gI (xIn X.s):=funext fun r=>by unfold gI; rw [num_s X]
theorem four_s (X:RIn):rdFour X=rdFour (xIn X.s):=rfl
theorem pr_s (no:Bool) (rl:List (Int×Int)) (X:RIn):rdPr no rl X=rdPr no rl (xIn X.s):=funext fun r=>funext fun o=>by unfold rdPr; rw [four_s X]
theorem lst_s {α:Type} (X:RIn) {g g':RSt→α×RSt} (h:g=g') (l:List α) (r:RSt):rdLst X g l r=rdLst (xIn X.s) g' l r:=by unfold rdLst; rw [num_s X,h]
theorem fl_s (f:Fl) (rl:List (Int×Int)) (X:RIn) (r:RSt) (x:In):f.rd rl X r x=f.rd rl (xIn X.s) r x:=by
 cases f
 case D=>show ((rdNum X r).2,Sel.set .D x ((rdNum X r).1 - 1))=_; rw [num_s X]; rfl
 case A=>show ((rdNum X r).2,Sel.set .A x ((rdNum X r).1 - 1))=_; rw [num_s X]; rfl
 case B=>show ((rdNum X r).2,Sel.set .B x ((rdNum X r).1 - 1))=_; rw [num_s X]; rfl
 case N=>show ((rdNum X r).2,Sel.set .N x (rdNum X r).1)=_; rw [num_s X]; rfl
 case M=>show ((rdNum X r).2,Sel.set .M x (rdNum X r).1)=_; rw [num_s X]; rfl
 case P=>show ((rdNum X r).2,Sel.set .P x (rdNum X r).1)=_; rw [num_s X]; rfl
 case T=>show ((rdTy X r).2,TSel.set .T x (rdTy X r).1)=_; rw [ty_s X]; rfl
 case U=>show ((rdTy X r).2,TSel.set .U x (rdTy X r).1)=_; rw [ty_s X]; rfl
 case W=>show ((rdTy X r).2,TSel.set .W x (rdTy X r).1)=_; rw [ty_s X]; rfl
 case V=>show ((rdStr X (rdNum X r).2).2,({ x with vn:=(rdNum X r).1,vs:=(rdStr X (rdNum X r).2).1 }:In))=_; rw [num_s X,str_s X]; rfl
 case L=>show ((rdLst X (gI X) x.l r).2,({ x with l:=(rdLst X (gI X) x.l r).1 }:In))=_; rw [lst_s X (gI_s X)]; rfl
 case Y=>show ((rdLst X (rdTy X) x.y r).2,({ x with y:=(rdLst X (rdTy X) x.y r).1 }:In))=_; rw [lst_s X (ty_s X)]; rfl
 case F=>show ((rdLst X (rdFm X) x.f r).2,({ x with f:=(rdLst X (rdFm X) x.f r).1 }:In))=_; rw [lst_s X (fm_s X)]; rfl
 case pN=>show ((rdPr false rl X r (Sel.get .N x)).2,Sel.set .N x (rdPr false rl X r (Sel.get .N x)).1)=_; rw [pr_s]; rfl
 case pM=>show ((rdPr true rl X r (Sel.get .M x)).2,Sel.set .M x (rdPr true rl X r (Sel.get .M x)).1)=_; rw [pr_s]; rfl
 all_goals rfl
theorem rdL_step (rl:List (Int×Int)) (X:RIn) (f:Fl) (l:List Fl) (s:RSt×In):rdL rl X (f::l) s=rdL rl X l (if s.1.bad=true then s else f.rd rl X s.1 s.2):=rfl
theorem rdL_nil (rl:List (Int×Int)) (X:RIn) (s:RSt×In):rdL rl X [] s=s:=rfl
theorem rdL_s (rl:List (Int×Int)) (X:RIn) (l:List Fl):∀ s:RSt×In,rdL rl X l s=rdL rl (xIn X.s) l s:=by
 induction l with
 | nil=>intro s; rw [rdL_nil,rdL_nil]
 | cons f l ih =>
  intro s;rw [rdL_step rl X,rdL_step rl (xIn X.s)];exact (ih _).trans (congrArg (fun z=>rdL rl (xIn X.s) l (if s.1.bad=true then s else z)) (fl_s f rl X s.1 s.2))
theorem cDecR_s (rl:List (Int×Int)) (X:RIn) (n:Nat):cDecR rl X n=cDecR rl (xIn X.s) n:=by unfold cDecR; rw [rdL_s]; rfl
theorem cDecOk_s (rl:List (Int×Int)) (X:RIn) (n:Nat):cDecOk rl X n=cDecOk rl (xIn X.s) n:=by unfold cDecOk; rw [cDecR_s]; rfl
theorem tkS_s (rl:List (Int×Int)) (X:RIn):∀ (k n:Nat),tkS rl X k n=tkS rl (xIn X.s) k n
 | 0,n=>rfl
 | k+1,n=>by
  rw [tkS_succ,tkS_succ,cDecOk_s,cDecR_s,tkS_s rl X k]; rfl
theorem takenS_s (rl:List (Int×Int)) (X:RIn):takenS rl X=takenS rl (xIn X.s):=by unfold takenS; rw [tkS_s]; rfl
theorem vdS_s (rl:List (Int×Int)) (X:RIn) (pr rg:Int):vdS rl X pr rg=vdS rl (xIn X.s) pr rg:=by unfold vdS; rw [takenS_s]; rfl
end Go.Proofs
end
section
namespace Go.Proofs
open Go Go.SX
set_option maxRecDepth 10000
theorem prsL_okS:∀ (l:List Fl) (ws:List (List UInt8)) (x y:In),x.okS→prsL l ws x=some y→y.okS
 | [],ws,x,y,h,e=>by cases e; exact h
 | f::l,ws,x,y,h,e=>by
  rw [prsL_cons] at e;split at e
  ·exact prsL_okS l _ _ y (prs_okS f _ x h) e
  ·cases e
theorem read_okL {ws:List (List UInt8)} {x:In} (h:cReadS ws=some x):x.okL:=by
 unfold cReadS at h;split at h
 ·cases h
 ·split at h
  ·split at h
   ·rename_i hp;split at h
    ·cases h;exact (prsL_okS _ _ _ _ ⟨Nat.zero_le _,Nat.zero_le _,Nat.zero_le _⟩ hp).okL
    ·cases h
   ·cases h
  ·cases h
def asF (n e:Int):(Int×Int×List UInt8×List (Int×Int))×Int×Int:=((0,0,[],[]),n,e)
def asW (pr rg:Int) (a:List UInt8×List (Int×Int)):(Int×Int×List UInt8×List (Int×Int))×Int×Int:=match vdS a.2 (xIn a.1) pr rg with
 | some _=>((pr,rg,a.1,a.2),0,0)
 | none=>asF 0 221
def asA (pr rg:Int) (t:List UInt8):(Int×Int×List UInt8×List (Int×Int))×Int×Int :=
 bif vdB (xIn t) pr rg then asF 0 1 else bif (asG (splitC 10 t) [] 0).2.2 then asW pr rg (mdS (asG (splitC 10 t) [] 0).1) else asF ((asG (splitC 10 t) [] 0).2.1:Int) 222
def moV (m:Int×Int×List UInt8×List (Int×Int)) (qc:Option Addr×Nat):CV:=.agg [.int .i64 m.1,.int .i64 m.2.1,.str m.2.2.1,.val (.slice qc.1 m.2.2.2.length qc.2)]
structure AI where
 t:List UInt8
 l:List (In×IA)
 q:Option Addr
 c:Nat
 n:Nat
noncomputable def asSt (K:Kc) (pr rg:Int) (n0:Nat) (S:Nat→Prop) (j:AI):St :=
 { n:=87,slots:=[(0,.v (.one (.int .i64 pr))),(1,.v (.one (.int .i64 rg))),(2,.v (.one (.str j.t))),(6,.v (.one (.ptr 0 0))),(9,.v (.one (.ptr 1 0))),(10,.v (.one (.row 0 j.q j.l.length j.c))),(11,.v (.one (.int .i64 (j.n:Int))))],gs:=[],
    heap:=[(0,⟨[.int .i64 0,.int .i64 0,.str [],.val (.slice none 0 0)],49,true⟩),(1,⟨[.val (.map (some K.gF)),.val (.map (some K.gO))],110,true⟩)],next:=2,rows:=[(0,ixRow j.l j.q j.c true)],nr:=1,pers:=[newP n0 S (insP j.l),cdP K,glbP],wr:=true,fx:=0 }
set_option maxHeartbeats 4000000 in
theorem xAsmA (pr rg:Int) (t:List UInt8) (ht:t.length≤1500000) :
  CallsK Tryz.prog 39 [.one (.int .i64 pr),.one (.int .i64 rg),.one (.str t)] glbF (fun _:Option Addr×Nat=>True) (fun qc=>.tup [moV (asA pr rg t).1 qc,.one (.int .i64 (asA pr rg t).2.1),.one (.int .i64 (asA pr rg t).2.2)]) (fun qc=>psOf [rowP (relRow (asA pr rg t).1.2.2.2 qc.1 qc.2)]):=by
 obtain ⟨an,han⟩:∃ an,asA pr rg t=an:=⟨_,rfl⟩;rw [han];refine CallsK.m true Tryz.func39 (fun ρ w=>?_);refine V.q ?_;refine V.bn 39 (vdB (xIn t) pr rg) (fun hb=>?_) (fun hb=>?_)
 ·have e:an=asF 0 1:=by rw [← han]; unfold asA; rw [hb]; rfl
  subst e;refine V.q ?_;refine V.persNew [] [] (rowP (relRow [] none 0)) kq kq (fun k hk=>absurd hk ((row_none (R:=relRow [] none 0) rfl rfl rfl).1 k)) (fun w _=>(row_none (R:=relRow [] none 0) rfl rfl rfl).2 w) (rowP_stab _) ?_;exact V.e ((none,0):Option Addr×Nat) [(0,true)] trivial
 ·refine V.q ?_;refine V.c [(0,false)] cNew0 (fun K hK=>?_);refine V.q ?_;refine V.persAs [(0,true)] [cdP K] (cdP K) kq (fun k hk=>⟨_,List.mem_singleton.2 rfl,hk⟩) (fun w hw=>hw _ (List.mem_singleton.2 rfl)) (cdP_stab K) ?_;refine V.nilL ixV ixD 10 30 29 kq kq ?_;refine V.persNew [] [] (insP []) kq kq (fun k hk=>by obtain ⟨q,hq,_⟩:=hk; exact absurd hq (List.not_mem_nil)) (fun w hw q hq=>absurd hq (List.not_mem_nil)) (insP_stab _) ?_;refine V.loopK [0,1,2,6,9,10,11] [true,true,false,true] (fun j:AI=>j.t.length) (asSt K pr rg w.heap.size (touch ρ glbF)) (fun j=>asG (splitC 10 t) [] 0=asG (splitC 10 j.t) (j.l.map (·.1)) j.n∧j.n=j.l.length∧j.n+j.t.length≤t.length∧∀ e∈j.l,cFine e.1=true∧e.1.okL) ⟨t,[],none,0,0⟩ kq
   ⟨rfl,rfl,by simp,fun e he=>absurd he (List.not_mem_nil)⟩ (fun j hj ih=>?_)
  obtain ⟨u,l,q,c,n⟩:=j;obtain ⟨hT,hn,hu,hok⟩:=hj;simp only at hT hn hu hok;refine V.iter ?_;refine V.q ?_;refine V.bn 43 (!(u==([]:List UInt8))) (fun hc=>?_) (fun hc=>?_)
  ·have hne:u≠[]:=by simpa using hc
   rw [asG_cut hne] at hT;have hcl:=cut_len u [10];refine V.t [⟨sCut,[0]⟩] [u.length<4294967281] (by show _<_; omega) ?_;refine V.c [(1,false),(2,false)] (cReadA K hK (Lib.cut u [10]).1 (by omega)) (fun y hy=>?_);unfold rdP at hy;refine V.q ?_;refine V.bn 63 (!y.2.2||!(Lib.cut u [10]).2.2) (fun hd=>?_) (fun hd=>?_)
   ·have e:an=asF (n:Int) 222:=by
     have hT2:(asG (splitC 10 t) [] 0).2.2=false∧(asG (splitC 10 t) [] 0).2.1=n:=by
      rw [hT];cases hm:(Lib.cut u [10]).2.2 with
      | false=>exact ⟨rfl,rfl⟩
      | true =>
       rw [hm] at hd;cases hr:cReadS (splitC 32 (Lib.cut u [10]).1) with
       | none=>exact ⟨rfl,rfl⟩
       | some x=>rw [hr] at hy; rw [hy.2] at hd; cases hd
     rw [← han]; unfold asA; rw [hb,hT2.1,hT2.2]; rfl
    subst e;refine V.q ?_;refine V.persNew [] [] (rowP (relRow [] none 0)) kq kq (fun k hk=>absurd hk ((row_none (R:=relRow [] none 0) rfl rfl rfl).1 k)) (fun w _=>(row_none (R:=relRow [] none 0) rfl rfl rfl).2 w) (rowP_stab _) ?_;exact V.e ((none,0):Option Addr×Nat) [(0,true)] trivial
   ·have hd2:y.2.2=true∧(Lib.cut u [10]).2.2=true:=by simpa using hd
    obtain ⟨x,hr⟩:∃ x,cReadS (splitC 32 (Lib.cut u [10]).1)=some x:=by
     cases hr:cReadS (splitC 32 (Lib.cut u [10]).1) with
     | none =>
      rw [hr] at hy;have:y.2.2=false:=hy;rw [this] at hd2; cases hd2.1
     | some x=>exact ⟨x,rfl⟩
    rw [hr] at hy hT;rw [if_pos hd2.2] at hT;simp only at hT;have hy1:y.1=x:=hy.1;obtain ⟨o,_,_,hfx,_⟩:=read_some hr;have hox:=read_okL hr;have hlt:(Lib.cut u [10]).2.1.length<u.length:=by
     have:=cut_split (s:=u) (a:=(Lib.cut u [10]).1) (b:=(Lib.cut u [10]).2.1) (c:=10) (by rw [← hd2.2]);have h2:=congrArg List.length this;rw [List.length_append,List.length_cons] at h2;omega
    refine V.q ?_;refine V.push ixV ixD l (y.1,y.2.1) 0 q c 30 29 (inV y.1 y.2.1) 304 kq (by omega) rfl (fun _ _=>kq) (fun q2 c2=>?_);refine V.q ?_;refine V.up 11 n (by omega) ?_;refine V.persNew [(3,true),(0,true),(1,true),(2,true)] (insP l::lsP y.1 y.2.1) (insP (l++[(y.1,y.2.1)])) kq kq (insP_snoc l y.1 y.2.1).1 (insP_snoc l y.1 y.2.1).2 (insP_stab _) ?_;refine V.againK [0,1,2,6,9,10,11] [true,false,false,false,false,true,true] (ih ⟨(Lib.cut u [10]).2.1,l++[(y.1,y.2.1)],q2,c2,n+1⟩ ⟨?_,by simp only [List.length_append,List.length_singleton]; omega,by simp only; omega,fun e he=>?_⟩ hlt) kq kq
    ·simp only [List.map_append,List.map_cons,List.map_nil];rw [hy1]; exact hT
    ·rcases List.mem_append.1 he with he | he
     ·exact hok e he
     ·rw [List.mem_singleton.1 he];simp only;rw [hy1]; exact ⟨hfx,hox⟩
  ·have hnil:u=[]:=by simpa using hc
   subst hnil;rw [asG_nil] at hT;have e:an=asW pr rg (mdS (l.map (·.1))):=by rw [← han]; unfold asA; rw [hb,hT]; rfl
   have hokx:okIx l:=⟨by omega,hok⟩;have hmd:=mdS_len (l.map (·.1)) (fun x hx=>by obtain ⟨e,he,rfl⟩:=List.mem_map.1 hx; exact (hok e he).1);rw [List.length_map] at hmd;refine V.q ?_;refine V.freeze 0 (ixRow l q c true) kq kq ?_;refine V.c [(2,false),(1,true),(0,true)] (cModule K hK l hokx q c pr rg) (fun qc _=>?_);refine V.q ?_;refine V.freeze 1 (rowL rlv (0,0) (mdS (l.map (·.1))).2 qc.1 qc.2 62 2 true) kq kq ?_;refine V.callK [(3,false),(0,true)] (cValidA K hK (mdS (l.map (·.1))).2 ⟨(mdS (l.map (·.1))).1,qc.1,(mdS (l.map (·.1))).2.length,qc.2⟩ rfl (by omega) pr rg) kq kq kq (fun t=>by cases t<;>kernel_rfl) (fun tk htk=>?_);unfold tkPc at htk;rw [vdS_s] at htk;obtain ⟨r,hv⟩:∃ r,vdS (mdS (l.map (·.1))).2 (xIn (mdS (l.map (·.1))).1) pr rg=r:=⟨_,rfl⟩;have hx:∀ q n c,xIn (RIn.s ⟨(mdS (l.map (·.1))).1,q,n,c⟩)=xIn (mdS (l.map (·.1))).1:=fun _ _ _=>rfl;rw [hx,hv] at htk;cases r with
   | none =>
    have e2:an=asF 0 221:=by rw [e]; unfold asW; rw [hv]
    have ht':tk=none:=htk.1;subst ht' e2;refine V.q ?_;refine V.kn 84 (!false) true rfl ?_;refine V.q ?_;refine V.persNew [] [] (rowP (relRow [] none 0)) kq kq (fun k hk=>absurd hk ((row_none (R:=relRow [] none 0) rfl rfl rfl).1 k)) (fun w _=>(row_none (R:=relRow [] none 0) rfl rfl rfl).2 w) (rowP_stab _) ?_;exact V.e ((none,0):Option Addr×Nat) [(0,true)] trivial
   | some s =>
    have e2:an=((pr,rg,(mdS (l.map (·.1))).1,(mdS (l.map (·.1))).2),0,0):=by rw [e]; unfold asW; rw [hv]
    obtain ⟨t',rfl,_,_⟩:=htk.1;subst e2;refine V.q ?_;refine V.kn 84 (!true) false rfl ?_;refine V.q ?_;exact V.e (qc:Option Addr×Nat) [(3,true)] trivial
def modL (pr rg:Int) (X:RIn):List SV:=[.int .i64 pr,.int .i64 rg,.str X.s,.val (.slice X.q X.n X.c)]
end Go.Proofs
end
section
namespace Go.SX
open Go
section
variable {C:Ctx} {ρ:Nat→Nat} {s:St} {a:Act} {w w':World}
end
end Go.SX
namespace Go.SX
open Go
end Go.SX
end
section
namespace Go.Proofs
open Go Go.SX
set_option maxRecDepth 10000
theorem eqL_self {α:Type} {f:α→α→Bool} (h:∀ a,f a a=true):∀ l,eqL f l l=true
 | []=>rfl
 | a::l=>by
  simp only [eqL,h,eqL_self h l,Bool.and_self]
theorem eqIn_self (x:In):eqIn x x=true:=by
 have hF:eqL eqF x.f x.f=true:=eqL_self (fun a=>by simp [eqF]) _;have hI:eqL eqI x.l x.l=true:=eqL_self (fun a=>by simp [eqI]) _;have hT:eqL eqT x.y x.y=true:=eqL_self (fun a=>by simp [eqT]) _;unfold eqIn eqIn1;rw [hF,hI,hT];simp [eqT]
def skipD:Nat→Nat→List Item→List Item
 | 0,_,k=>k
 | _,0,k=>k
 | n+1,m+1,k=>match k with
  | .code (.seq a b)::k=>skipD n (m+1) (.code a::.code b::k)
  | .code (.block id body)::k=>skipD n (m+1) (.code body::.inBlock id::k)
  | .code (.scope body)::k=>skipD n (m+1) (.code body::.inScope body::k)
  | .code (.region _ _ _)::k=>skipD n (m+1) k
  | .code (.cond _ _ _)::k=>skipD n m k
  | .code .skip::k=>skipD n (m+1) k
  | .code (.label _)::k=>skipD n (m+1) k
  | .inBlock _::k=>skipD n (m+1) k
  | .inScope _::k=>skipD n (m+1) k
  | k=>k
end Go.Proofs
end
section
namespace Go.Proofs
open Go.Shelf
def Tryz.lays144_ren : Go.Shelf.Ren:=⟨fun | 144=>44 | 143=>84 | 219=>150 | 217=>250 | 225=>251 | 224=>252 | 267=>253 | 266=>289 | 314=>290 | n=>n,fun | 9=>9 | 4=>4 | 3=>3 | 5=>5 | 46=>236 | 146=>260 | 51=>256 | n=>n,fun | 1=>1 | n=>n⟩
theorem Tryz.lays144 : Go.Proofs.Lays.n144 Tryz.prog Tryz.lays144_ren:={
  mixed:=kq
  f143:=Tryz.func84.trans (congrArg some kq)
  f144:=Tryz.func44.trans (congrArg some kq)
  f217:=Tryz.func250.trans (congrArg some kq)
  f219:=Tryz.func150.trans (congrArg some kq)
  f224:=Tryz.func252.trans (congrArg some kq)
  f225:=Tryz.func251.trans (congrArg some kq)
  f266:=Tryz.func289.trans (congrArg some kq)
  f267:=Tryz.func253.trans (congrArg some kq)
  f314:=Tryz.func290.trans (congrArg some kq)
  t3:=Tryz.underlying3
  a3:=Tryz.isAgg3
  z3:=Tryz.sizeOf3
  v3:=Tryz.zeroValue3
  t4:=Tryz.underlying4
  a4:=Tryz.isAgg4
  z4:=Tryz.sizeOf4
  v4:=Tryz.zeroValue4
  t5:=Tryz.underlying5
  a5:=Tryz.isAgg5
  z5:=Tryz.sizeOf5
  v5:=Tryz.zeroValue5
  t9:=Tryz.underlying9
  a9:=Tryz.isAgg9
  z9:=Tryz.sizeOf9
  v9:=Tryz.zeroValue9
  t46:=Tryz.underlying236
  a46:=Tryz.isAgg236
  z46:=Tryz.sizeOf236
  v46:=Tryz.zeroValue236
  t51:=Tryz.underlying256
  a51:=Tryz.isAgg256
  z51:=Tryz.sizeOf256
  v51:=Tryz.zeroValue256
  t146:=Tryz.underlying260
  a146:=Tryz.isAgg260
  z146:=Tryz.sizeOf260
  v146:=Tryz.zeroValue260
  g1:=kq }
open Go.RowKit Go.Lib in
theorem Tryz.strings_Contains_one (s : ByteArray) (c : UInt8) (w : World) :
    Calls Tryz.prog 44 #[.string s,.string ⟨#[c]⟩] w fun e w'=>e = .returned (.bool (decide (0 ≤ Lib.indexByte s.data.toList c))) ∧ w' = w:=Any.strings_Contains_one Tryz.lays144 s c w
end Go.Proofs
end
section
namespace Go.Proofs
open Go Go.SX
set_option maxRecDepth 10000
theorem idxB_no {c:UInt8}:∀ {l:List UInt8},c ∉ l→Lib.indexByte l c=-1
 | [],_=>rfl
 | x::l,h=>by
  unfold Lib.indexByte;rw [beq_false (fun e=>h (by rw [e]; exact List.mem_cons_self ..)),if_neg (by decide),idxB_no (fun hm=>h (List.mem_cons_of_mem _ hm))];rfl
theorem cContains (s:List UInt8) (c:UInt8):CallsK Tryz.prog 44 [.one (.str s),.one (.str [c])] (stP []) (fun _:Unit=>True) (fun _=>.v (.one (.sb (decide (0≤Lib.indexByte s c))))) (fun _=>stP []) :=
 CallsK.ofGives rfl (fun ρ w hps=>(Tryz.strings_Contains_one ⟨s.toArray⟩ c w).mono fun e w' ⟨h1,h2⟩=>⟨h1,by rw [h2]; exact Chg.refl _ _⟩)
theorem cSameMod (pr rg:Int) (s:List UInt8) (rl:List (Int×Int)) (q q':Option Addr) (c c':Nat) (hl:rl.length≤1000000000) :
  CallsK Tryz.prog 41 [.agg [.int .i64 pr,.int .i64 rg,.str s,.val (.slice q rl.length c)],.agg [.int .i64 pr,.int .i64 rg,.str s,.val (.slice q' rl.length c')]] (stP [rowP (relRow rl q c),rowP (relRow rl q' c')]) (fun _:Unit=>True) (fun _=>.v (.one (.sb true))) (fun _=>noF):=by
 refine CallsK.m true Tryz.func41 (fun ρ w=>?_);refine V.q ?_;refine V.settle 24 true ((pr==pr&&rg==rg)&&s==s) kq (by simp) ?_;refine V.c [(0,false),(1,false)] (cEqR rl rl q q' c c' hl) (fun _ _=>?_);refine V.q ?_;refine V.s 4 (.one (.sb (eqL eqR rl rl))) (.one (.sb true)) (fun _=>by rw [eqL_self (fun a=>by simp [eqR])]) ?_;exact V.z
theorem asA_back {rl:List (Int×Int)} {X:RIn} {pr rg:Int} {s:List In×List Int} (h:vdS rl X pr rg=some s) (hl:¬ (lsT s.1).length>1048576):asA pr rg (lsT s.1)=((pr,rg,X.s,rl),0,0):=by
 have hb:vdB X pr rg=false:=by
  cases hb:vdB X pr rg with
  | false=>rfl
  | true=>unfold vdS at h; rw [if_pos hb] at h; cases h
 have hb0:=hb;unfold vdB at hb;simp only [Bool.or_eq_false_iff,decide_eq_false_iff_not] at hb;have hs:X.s.length≤1000000000:=by omega
 have hb2:vdB (xIn (lsT s.1)) pr rg=false:=by
  unfold vdB;simp only [Bool.or_eq_false_iff,decide_eq_false_iff_not];refine ⟨hb.1,?_⟩;show ¬ ((lsT s.1).length:Int)>1048576;omega
 obtain ⟨h1,h2⟩:=as_back hs h;unfold asA;rw [hb2,h1];show asW pr rg (mdS s.1)=_;rw [h2];unfold asW;simp only;rw [← vdS_s,h]
theorem prA_line {x:In} (h:cFine x=true):prA (lnT x)=(x,0):=by
 obtain ⟨o,ho,e⟩:=fine_op h;unfold prA;rw [lnT_of e,read_line ho e h];rfl
theorem txA_read {s:List UInt8} {x:In} (h:cReadS (splitC 32 s)=some x):txA x=(s,0):=by
 obtain ⟨o,_,e,hf,hl⟩:=read_some h;unfold txA;rw [hf,lnT_of e,hl];rfl
noncomputable def prnF (x:In) (A:IA) (rl:List (Int×Int)) (X:RIn):St:=stP (glbP::rowP (relRow rl X.q X.c)::lsP x A)
noncomputable def prnX (x:In) (A:IA) (rl:List (Int×Int)) (X:RIn) (ρ:Nat→Nat) (w:World):Ctx:=⟨Tryz.prog,11,GivesK ρ (prnF x A rl X) (fun _:Unit=>True) (fun _=>.v (.one (.sb true))) (fun _=>noF) w,touch ρ (prnF x A rl X),w,ρ,none⟩
noncomputable def prnC0 (line:List UInt8) (rl:List (Int×Int)) (X:RIn) (pr rg:Int):St :=
 { n:=107,slots:=[(1,.v (.one (.str line))),(5,.v (.one (.ptr 0 0)))],gs:=[],heap:=[(0,⟨modL pr rg X,49,true⟩)],next:=1,rows:=[],nr:=0,pers:=[glbP,rowP (relRow rl X.q X.c)],wr:=true,fx:=0 }
noncomputable def prnB1 (line:List UInt8) (rl:List (Int×Int)) (X:RIn) (pr rg:Int):St :=
 { n:=107,slots:=[(1,.v (.one (.str line))),(5,.v (.one (.ptr 0 0))),(60,.v (.one (.str line)))],gs:=[],heap:=[(0,⟨modL pr rg X,49,true⟩)],next:=1,rows:=[],nr:=0,pers:=[glbP,rowP (relRow rl X.q X.c)],wr:=true,fx:=0 }
noncomputable def prnC1 (rl:List (Int×Int)) (X:RIn) (pr rg:Int):St :=
 { n:=107,slots:=[(5,.v (.one (.ptr 0 0))),(79,.v (.agg (modL pr rg X)))],gs:=[],heap:=[(0,⟨modL pr rg X,49,true⟩)],next:=1,rows:=[],nr:=0,pers:=[glbP,rowP (relRow rl X.q X.c)],wr:=true,fx:=0 }
noncomputable def prnB (line:List UInt8) (rl:List (Int×Int)) (X:RIn) (pr rg:Int):Cfg:=(SX.runT Tryz.prog [] 1000 ⟨skipD 2000 3 [.code (bodyOf Tryz.f11)],prnC0 line rl X pr rg⟩).1
noncomputable def prnC (line:List UInt8) (rl:List (Int×Int)) (X:RIn) (pr rg:Int):Cfg:=(SX.runT Tryz.prog [] 1000 ⟨skipD 2000 4 [.code (bodyOf Tryz.f11)],prnC0 line rl X pr rg⟩).1
set_option maxHeartbeats 2000000 in
theorem pt_C (x:In) (A:IA) (line:List UInt8) (rl:List (Int×Int)) (X:RIn) (pr rg:Int) (hX:X.n=rl.length) (hl:rl.length≤4000) (hs:X.s.length≤20000) (ρ:Nat→Nat) (w:World) :
  V (prnX x A rl X ρ w) ⟨(prnC line rl X pr rg).todo,prnC1 rl X pr rg⟩:=by
 have k:=xListing rl X hX (by omega) (by omega) pr rg;obtain ⟨r,hr⟩:∃ r,vdS rl X pr rg=r:=⟨_,rfl⟩;rw [show liA rl X pr rg=liO r by unfold liA; rw [hr]] at k;cases r with
 | none =>
  refine V.c [(0,false),(1,false)] k (fun _ _=>?_);refine V.q ?_;refine V.kn 84 ((221:Int) != 0) true (by decide) ?_;refine V.q ?_;refine V.s 6 (.one (.sb ((221:Int)==221))) (.one (.sb true)) (fun _=>rfl) ?_;exact V.z
 | some s =>
  refine V.c [(0,false),(1,false)] k (fun _ _=>?_);refine V.q ?_;refine V.kn 84 ((0:Int) != 0) false (by decide) ?_;refine V.q ?_;refine V.bn 89 (decide (((lsT s.1).length:Int)>1048576)) (fun hc=>?_) (fun hc=>?_)
  ·refine V.q ?_;refine V.sb 6 true ?_;exact V.z
  ·have hc2:¬ (lsT s.1).length>1048576:=by
    intro h;have:¬ ((lsT s.1).length:Int)>1048576:=of_decide_eq_false hc;omega
   have k2:=xAsmA pr rg (lsT s.1) (by omega);rw [asA_back hr hc2] at k2;refine V.q ?_;refine V.c [(0,false)] k2 (fun qc _=>?_);refine V.q ?_;refine V.settle 102 true ((0:Int)==0) kq rfl ?_;obtain ⟨sx,q,n,c⟩:=X;simp only at hX;subst hX;refine V.c [(0,true),(2,false)] (cSameMod pr rg sx rl qc.1 q qc.2 c (by omega)) (fun _ _=>?_);refine V.q ?_;exact V.z
set_option maxHeartbeats 2000000 in
theorem pt_B (x:In) (A:IA) (line:List UInt8) (hln:line.length≤20000) (rl:List (Int×Int)) (X:RIn) (pr rg:Int) (hX:X.n=rl.length) (hl:rl.length≤4000) (hs:X.s.length≤20000) (ρ:Nat→Nat) (w:World) :
  V (prnX x A rl X ρ w) ⟨(prnB line rl X pr rg).todo,prnB1 line rl X pr rg⟩:=by
 have k:=xParseA line (by omega);obtain ⟨r,hr⟩:∃ r,cReadS (splitC 32 line)=r:=⟨_,rfl⟩;rw [show prA line=prO r by unfold prA; rw [hr]] at k;cases r with
 | none =>
  refine V.c [(0,false)] k (fun y _=>?_);refine V.q ?_;refine V.kn 65 ((222:Int)==0) false (by decide) ?_;refine V.q ?_;exact V.back [5,79] [0] [] [false,false,false,true,true] (pt_C x A line rl X pr rg hX hl hs ρ w) kq kq
 | some z =>
  have hz:=read_okL hr;refine V.c [(0,false)] k (fun y hy=>?_);obtain ⟨y1,B⟩:=y;have hy1:y1=z:=hy;subst hy1;have k2:=xTextA y1 B hz;rw [txA_read hr] at k2;refine V.q ?_;refine V.kn 65 ((0:Int)==0) true (by decide) ?_;refine V.q ?_;refine V.c [(3,false),(0,true),(1,true),(2,true)] k2 (fun _ _=>?_);refine V.q ?_;refine V.kn 77 ((0:Int) != 0||!(line==line)) false (by simp) ?_;refine V.q ?_;exact V.back [5,79] [0] [] [false,false,false,true,true] (pt_C x A line rl X pr rg hX hl hs ρ w) kq kq
set_option maxHeartbeats 2000000 in
theorem xPrinted (x:In) (A:IA) (line:List UInt8) (rl:List (Int×Int)) (X:RIn) (pr rg:Int) (hX:X.n=rl.length) (hf:x.f.length≤maxLen) (hy:x.y.length≤maxLen) :
  CallsK Tryz.prog 11 [.agg (inV x A),.one (.str line),.agg (modL pr rg X)] (prnF x A rl X) (fun _:Unit=>True) (fun _=>.v (.one (.sb true))) (fun _=>noF):=by
 refine CallsK.m true Tryz.func11 (fun ρ w=>?_);refine V.q ?_;refine V.c [(0,false)] sane_ (fun _ _=>?_);refine V.q ?_;refine V.kn 20 (!true) false rfl ?_;refine V.q ?_;refine V.c [(2,false),(3,false),(4,false)] (cSlim x A hf hy) (fun sl hsl=>?_);refine V.t [(⟨aShort,[]⟩:Ent Tryz.prog)] [] trivial ?_;refine V.bn 34 ((!sl||decide ((line.length:Int)>20000))||!(decide ((X.s.length:Int)≤20000)&&decide ((X.n:Int)≤4000))) (fun hh=>?_) (fun hh=>?_)
 ·refine V.q ?_;refine V.sb 6 true ?_;exact V.z
 simp only [Bool.or_eq_false_iff,Bool.not_eq_false',Bool.and_eq_true,decide_eq_true_eq,decide_eq_false_iff_not] at hh;have hx:x.okL:=hsl hh.1.1;have hln:line.length≤20000:=by omega
 have hs:X.s.length≤20000:=by omega
 have hl:rl.length≤4000:=by omega
 have k:=xTextA x A hx;obtain ⟨b,hb⟩:∃ b,cFine x=b:=⟨_,rfl⟩;rw [show txA x=bif b then (lnT x,0) else ([],170) by unfold txA; rw [hb]] at k;refine V.q ?_;cases b with
 | false =>
  refine V.c [(0,false),(2,false),(3,false),(4,false)] k (fun _ _=>?_);refine V.q ?_;refine V.kn 41 ((170:Int)==0) false (by decide) ?_;refine V.q ?_;exact V.back [1,5,60] [1] [] [true,true,false,false,false] (pt_B x A line hln rl X pr rg hX hl hs ρ w) kq kq
 | true =>
  have hlx:=lnT_len hb;have k2:=xParseA (lnT x) (by omega);rw [prA_line hb] at k2;refine V.c [(0,false),(2,false),(3,false),(4,false)] k (fun _ _=>?_);refine V.q ?_;refine V.kn 41 ((0:Int)==0) true (by decide) ?_;refine V.q ?_;refine V.c [(0,false)] k2 (fun y hy=>?_);obtain ⟨y1,B⟩:=y;have hy1:y1=x:=hy;subst hy1;refine V.q ?_;refine V.settle 49 false ((0:Int) != 0) kq (by decide) ?_;refine V.c [(5,false),(6,false),(7,false),(0,true),(1,true),(2,true)] (cSame26 y1 y1 A B hx) (fun _ _=>?_);refine V.q ?_;refine V.settle 55 false (!(eqIn y1 y1)) kq (by rw [eqIn_self]; rfl) ?_;refine V.c [] (cContains (lnT y1) 10) (fun _ _=>?_);refine V.q ?_;have hno:(10:UInt8) ∉ lnT y1:=by
   obtain ⟨o,ho,e⟩:=fine_op hb;rw [lnT_of e];exact line_no10 y1 ho
  refine V.kn 58 (decide (0≤Lib.indexByte (lnT y1) 10)) false (by rw [idxB_no hno]; rfl) ?_;refine V.q ?_;exact V.back [1,5,60] [1] [] [false,false,false,true,true,false,false,false] (pt_B y1 A line hln rl X pr rg hX hl hs ρ w) kq kq
end Go.Proofs
end
