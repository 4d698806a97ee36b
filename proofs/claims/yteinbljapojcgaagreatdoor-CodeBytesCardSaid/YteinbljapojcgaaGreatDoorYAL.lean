/- A symbolic run of the program that Lean checks, and what the functions of the program come to by it: part 12 of 12. -/
import Derived.Test.YteinbljapojcgaaGreatDoorRows
import Derived.Test.YteinbljapojcgaaGreatDoorTie
import Derived.Test.YteinbljapojcgaaGreatDoorCards
import Derived.JoinedOf
import Derived.KernelRfl
import Derived.SevenTiedAt
import Derived.ChangeMaps5
import Derived.ProofKit
import Derived.OpenShut
import Derived.Stop.Joined
import Derived.Test.YteinbljapojcgaaGreatDoorYAK
set_option linter.unusedVariables false
section
namespace Go.Proofs
open Go Go.SX
set_option maxRecDepth 10000
theorem tfAll (f : Fl) (rl : List (Int × Int)) (X : RIn) (hX : X.n = rl.length) (hl : rl.length ≤ 1000000000) (r : RSt) (x : In) (A : IA) (h : okIn X r) (hx : x.okL) : TfK f rl X r x A:=by
 cases f
 case D=>exact tf_D rl X hX hl r x A h
 case A=>exact tf_A rl X hX hl r x A h
 case B=>exact tf_B rl X hX hl r x A h
 case N=>exact tf_N rl X hX hl r x A h
 case M=>exact tf_M rl X hX hl r x A h
 case P=>exact tf_P rl X hX hl r x A h
 case T=>exact tf_T rl X hX hl r x A h
 case U=>exact tf_U rl X hX hl r x A h
 case W=>exact tf_W rl X hX hl r x A h
 case V=>exact tf_V rl X hX hl r x A h
 case L=>exact tf_L rl X r x A h hx.2.1
 case Y=>exact tf_Y rl X r x A h hx.2.2
 case F=>exact tf_F rl X r x A h hx.1
 case Sz=>exact tf_Sz rl X hX hl r x A h
 case Rg=>exact tf_Rg rl X hX hl r x A h
 case aN=>exact tf_aN rl X hX hl r x A h
 case aM=>exact tf_aM rl X hX hl r x A h
 case pN=>exact tf_pN rl X hX hl r x A h
 case pM=>exact tf_pM rl X hX hl r x A h
 case far=>exact tf_far rl X hX hl r x A h
theorem rdList_len' {α : Type} {g : RSt → α × RSt} : ∀ (k : Nat) (r : RSt),(rdList g k r).1.length = k
 | 0,_=>rfl
 | k + 1,r=>by show (_ :: (rdList g k _).1).length = _; rw [List.length_cons,rdList_len' k]
theorem tkMany_le (X : RIn) (r : RSt) : (tkMany X r).1.toNat ≤ 16:=by
 unfold tkMany
 split
 ·exact (by decide : (0 : Int).toNat ≤ 16)
 ·omega
theorem tkLst_len {α : Type} (X : RIn) (g : RSt → α × RSt) (l : List α) (r : RSt) : (tkLst X g l r).1.length ≤ l.length + 16:=by
 unfold tkLst
 rw [List.length_append,rdList_len']
 have:=tkMany_le X r
 omega
theorem tkFour_ok {X : RIn} {r : RSt} (h : okIn X r) : okIn X (tkFour X r).2:=tkRaw_ok (n:=4) h
theorem tk_ok (f : Fl) {rl : List (Int × Int)} {X : RIn} {r : RSt} {x : In} (h : okIn X r) :
  okIn X (tkFl f rl X r x).1 ∧ (tkFl f rl X r x).2.f.length ≤ x.f.length + 16 ∧ (tkFl f rl X r x).2.l.length ≤ x.l.length + 16 ∧ (tkFl f rl X r x).2.y.length ≤ x.y.length + 16:=by
 have z : ∀ n : Nat,n ≤ n + 16:=fun n=>Nat.le_add_right _ _
 have hty : okIn X (tkTy X r).2:=tText X _ (tFlag X _ (tNum X _ (tNum X _ (tNum X _ h))))
 cases f
 case D=>exact ⟨tkNum_ok h,z _,z _,z _⟩
 case A=>exact ⟨tkNum_ok h,z _,z _,z _⟩
 case B=>exact ⟨tkNum_ok h,z _,z _,z _⟩
 case N=>exact ⟨tkNum_ok h,z _,z _,z _⟩
 case M=>exact ⟨tkNum_ok h,z _,z _,z _⟩
 case P=>exact ⟨tkNum_ok h,z _,z _,z _⟩
 case T=>exact ⟨hty,z _,z _,z _⟩
 case U=>exact ⟨hty,z _,z _,z _⟩
 case W=>exact ⟨hty,z _,z _,z _⟩
 case V=>exact ⟨tText X _ (tkNum_ok h),z _,z _,z _⟩
 case L=>exact ⟨oList (g:=tkI X) (fun _ h=>tkNum_ok h) _ _ (tMany X r h),z _,tkLst_len X _ _ r,z _⟩
 case Y=>exact ⟨oList (g:=tkTy X) (fun _ h=>tText X _ (tFlag X _ (tNum X _ (tNum X _ (tNum X _ h))))) _ _ (tMany X r h),z _,z _,tkLst_len X _ _ r⟩
 case F=>exact ⟨oList (g:=tkFm X) (fun _ h=>tText X _ (tNum X _ (tNum X _ (tNum X _ h)))) _ _ (tMany X r h),tkLst_len X _ _ r,z _,z _⟩
 case Sz=>exact ⟨tkFlag_ok h,z _,z _,z _⟩
 case Rg=>exact ⟨tkFlag_ok h,z _,z _,z _⟩
 case aN=>exact ⟨tkFour_ok h,z _,z _,z _⟩
 case aM=>exact ⟨tkFour_ok h,z _,z _,z _⟩
 case pN=>exact ⟨tkFour_ok (rdRel_ok rl _ h),z _,z _,z _⟩
 case far=>exact ⟨tkFour_ok (rdRel_ok rl _ h),z _,z _,z _⟩
 case pM =>
  refine ⟨?_,?_⟩
  ·show okIn X (if _ then _ else _ : RSt × In).1
   split
   ·exact tkFour_ok h
   ·exact rdRel_ok rl (r.at_ : Int) (tkFour_ok h)
  ·show (if _ then _ else _ : RSt × In).2.f.length ≤ _ ∧ (if _ then _ else _ : RSt × In).2.l.length ≤ _ ∧ (if _ then _ else _ : RSt × In).2.y.length ≤ _
   split <;> exact ⟨z _,z _,z _⟩
structure TdI where
 r : RSt
 x : In
 A : IA
 i : Nat
def tdSt (rl : List (Int × Int)) (X : RIn) (ls : List UInt8) (j : TdI) : St :=
 { n:=80,slots:=[(6,.v (.one (.ptr 0 0))),(9,.v (.one (.ptr 1 0))),(11,.v (.one (.ptr 2 0))),(13,.v (.one (.str ls))),(14,.v (.one (.int .i64 (j.i : Int))))],gs:=[],
    heap:=[(0,⟨inZ,30,true⟩),(1,⟨[.str X.s,.val (.slice X.q X.n X.c),.int .i64 (j.r.at_ : Int),.sb j.r.bad],133,true⟩),(2,⟨inO j.x j.A,30,true⟩)],next:=3,rows:=inRows j.x j.A,nr:=3,pers:=[rowP (relRow rl X.q X.c)],wr:=true,fx:=0 }
theorem tkL_snoc (rl : List (Int × Int)) (X : RIn) (l : List Fl) (f : Fl) (s : RSt × In) : tkL rl X (l ++ [f]) s = if (tkL rl X l s).1.bad = true then tkL rl X l s else tkFl f rl X (tkL rl X l s).1 (tkL rl X l s).2:=by
 unfold tkL
 rw [List.foldl_append]
 rfl
theorem tkL_stop {rl : List (Int × Int)} {X : RIn} {l : List Fl} {s : RSt × In} {i : Nat} {r : RSt} {x : In} (h : (r,x) = tkL rl X (l.take i) s) (hb : r.bad = true) : (r,x) = tkL rl X l s:=by
 have e : tkL rl X l s = tkL rl X (l.drop i) (tkL rl X (l.take i) s):=by
  have : tkL rl X (l.take i ++ l.drop i) s = tkL rl X (l.drop i) (tkL rl X (l.take i) s):=by unfold tkL; rw [List.foldl_append]
  rw [List.take_append_drop] at this
  exact this
 rw [e,← h]
 exact (tkL_bad _ _ hb).symm
theorem tkL_fin {rl : List (Int × Int)} {X : RIn} {l : List Fl} {s e : RSt × In} {i : Nat} {r : RSt} {x : In} (h : (r,x) = tkL rl X (l.take i) s) (hi : i ≤ l.length) (he : tkL rl X l s = e) (hb : (decide ((i : Int) < ((l.map Fl.ch).length : Int)) && !r.bad) = false) : (r,x) = e:=by
 rw [← he]
 by_cases hbd : r.bad = true
 ·exact tkL_stop h hbd
 ·have hbd' : r.bad = false:=by simpa using hbd
  rw [hbd'] at hb
  have hle : i = l.length:=by simp at hb; omega
  rw [hle,List.take_length] at h
  exact h
theorem letters (o : Nat) (ho : o < 256) : (rfN (o : Int)).2 = ((opFind (o : Int)).getD []).map Fl.ch:=by
 by_cases h : 1 ≤ (o : Int) ∧ (o : Int) ≤ 38
 ·have hi : isOp o = true:=(isOp_iff o).2 (by omega)
  rw [rfN_op hi]
  unfold opFind
  rw [if_pos h]
  rfl
 ·unfold rfN opFind
  rw [if_neg (by omega),if_neg h]
  rfl
end Go.Proofs
end
section
namespace Go.SX
open Go
section
variable {C : Ctx} {T TR : List Nat} {L : Nat} {c0 : Cfg} {d : DCfg}
theorem VX.pushes {α : Type} (f : α → List SV) (dl : α) (l ys : List α) (r : Nat) (q : Option Addr) (cap : Nat) (e : TypeId) (sz : Nat) (m : Nat) (get : Nat → List SV) (bytes : Nat)
  (hA : (appX C.P c0 d).map (fun A=>(A.r,A.R,A.m,A.get,A.bytes)) = some (r,rowL f dl l q cap e sz true,m,get,bytes)) (hm : m = ys.length) (hr : hasNat TR r = true) (hlk : look c0.st.rows r = some (rowL f dl l q cap e sz true)) (hb : (l.length + m) * bytes ≤ 140737488355328) (hx : ∀ i,i < m → f (ys.getD i dl) = get i)
  (haf : ∀ q cap,(pushD c0 d r (rowL f dl (l ++ ys) q cap e sz true)).isSome = true)
  (k : ∀ q cap,VX C T TR L c0 (pushX c0 d r (rowL f dl (l ++ ys) q cap e sz true))) : VX C T TR L c0 d:=by
 intro D hD a1 a2 a3 a4 a5 a6 hL hsel aT aTR hlt hrw
 cases hA' : appX C.P c0 d with
 | none=>rw [hA'] at hA; cases hA
 | some A =>
  rw [hA'] at hA
  simp only [Option.map_some,Option.some.injEq,Prod.mk.injEq] at hA
  obtain ⟨e1,e2,e3,e4,e5⟩:=hA
  have hlen : (l ++ ys).length = l.length + m:=by simp [hm]
  have hrow : ∀ q cap,A.R.next q A.m cap (fun i=>f ((l ++ ys).getD i dl)) = rowL f dl (l ++ ys) q cap e sz true:=by
   intro q cap
   rw [e2,e3]
   simp only [Row.next,rowL,hlen]
  have hn : A.R.n + A.m = (l ++ ys).length:=by rw [e2,e3,hlen]; rfl
  unfold appX at hA'
  split at hA'
  case h_2=>cases hA'
  rename_i i o hone
  split at hA'
  case h_2=>cases hA'
  rename_i cl hg hcl
  obtain ⟨hready,⟨n,hf⟩,ho⟩:=oneX_ok hone
  have tail : ∀ q cap,∃ s',(d.st.rowTo r (rowL f dl (l ++ ys) q cap e sz true)).put o.dst (.v (.one (.row d.st.nr q (l ++ ys).length cap))) = some s' ∧
    pushX c0 d r (rowL f dl (l ++ ys) q cap e sz true) = ⟨n,d.listed.setIfInBounds i true,s'⟩:=by
   intro q cap
   have h1:=haf q cap
   unfold pushX
   unfold pushD at h1 ⊢
   rw [hone] at h1 ⊢
   simp only at h1 ⊢
   split at h1
   ·rename_i s' hs'
    refine ⟨s',hs',?_⟩
    simp only [Option.getD_some,hf,Nat.add_sub_cancel]
   ·cases h1
  refine VD.append i A (fun i=>f ((l ++ ys).getD i dl)) hready hf ho hg hcl hA' (by rw [hn,e5,hlen]; exact hb) ?_ ?_ (fun k hk=>aTR r ((hasNat_mem _ _).1 hr) _ hlk k (by rw [e2] at hk; exact hk)) (fun q cap=>?_) (fun q cap s' hs'=>?_)
  ·intro i hi
   rw [e2] at hi ⊢
   have hi' : i < l.length:=hi
   show f ((l ++ ys).getD i dl) = f (l.getD i dl)
   rw [getD_left _ _ _ _ hi']
  ·intro i hi
   rw [e3] at hi
   rw [e4,← hx i hi,e2]
   show f ((l ++ ys).getD (l.length + i) dl) = f (ys.getD i dl)
   rw [getD_right]
  ·obtain ⟨s',hs',_⟩:=tail q cap
   rw [e1,hrow,hn,hs']; rfl
  ·obtain ⟨s2,hs2,hpx⟩:=tail q cap
   rw [e1,hrow,hn,hs2] at hs'
   cases hs'
   have hW:=put_W hs2
   have hrw2 : D.rows (d.st.rowTo r (rowL f dl (l ++ ys) q cap e sz true)):=by
    refine ⟨fun q' Q hQ=>?_,hrw.2.trans' (rowTo_le _ r _)⟩
    have h1:=hrw.1 q' Q hQ
    rw [a3] at hQ
    obtain ⟨hne,hw⟩:=look_heldOf' hQ
    have hlt' : q' < d.st.nr:=Nat.lt_of_lt_of_le (hlt q' Q hw) (by rw [← a5]; exact hrw.2.nr)
    show look ((d.st.nr,_) :: eraseK r d.st.rows) q' = some Q
    simp only [look]
    have hb' : Nat.beq d.st.nr q' = false:=by
     cases hb : Nat.beq d.st.nr q' with
     | true=>have:=(beq_iff _ _).1 hb; omega
     | false=>rfl
    rw [hb']
    simp only
    rw [look_eraseK_ne (fun e=>hne (by rw [e]; exact (hasNat_mem _ _).1 hr))]
    exact h1
   have hrw3 : D.rows s':=⟨fun r R hR=>by rw [show s'.rows = _ from congrArg WF.rows hW]; exact hrw2.1 r R hR,by rw [hW]; exact hrw2.2⟩
   have:=k q cap
   rw [hpx] at this
   exact this D hD a1 a2 a3 a4 a5 a6 hL hsel aT aTR hlt hrw3
end
end Go.SX
end
section
namespace Go.Proofs
open Go Go.SX
set_option maxRecDepth 10000
def wkF (ps : List Pers) (b : WSt) : St :=
 { n:=0,slots:=[],gs:=[],heap:=[(0,⟨[.row 0 b.q b.bs.length b.c,.row 1 b.q2 b.rs.length b.c2],129,true⟩)],next:=1,rows:=[(0,rowL bsv 0 b.bs b.q b.c 5 1 true),(1,rowL rlv (0,0) b.rs b.q2 b.c2 62 2 true)],nr:=2,pers:=ps,wr:=false }
def WkR (b : WSt) (o : List UInt8) (r : List (Int × Int)) (b' : WSt) : Prop:=b'.bs = b.bs ++ o ∧ b'.rs = b.rs ++ r
theorem n32_lim {n : Int} (h : num32 n) : -4611686018427387904 < n ∧ n < 4611686018427387904:=⟨by have:=h.1; omega,by have:=h.2; omega⟩
theorem cWNum (n : Int) (b : WSt) (h : num32 n) (hb : b.bs.length ≤ 1000000000) : CallsK Tryz.prog 243 [.one (.ptr 0 0),.one (.int .i64 n)] (wkF [] b) (WkR b (encN n) []) (fun _=>.tup []) (wkF []):=by
 have hl:=groups_len 9 (zz n)
 refine CallsK.mk true Tryz.func243 kq kq (fun ρ w=>?_)
 refine V.q ?_
 refine V.drawX [] [0] 10 kq ?_
 refine @VX.run _ [] [0] 10 _ _ ([(⟨sEncR n (n32_lim h).1 (n32_lim h).2,[]⟩ : Ent Tryz.prog)] : List (Ent Tryz.prog)) [[CV.one (.int .i64 n)] = [CV.one (.int .i64 n)]] kq kq rfl ?_
 refine @VX.pushes _ [] [0] 10 _ _ _ bsv 0 b.bs (groups 9 (zz n)) 0 b.q b.c 5 1 (groups 9 (zz n)).length (fun j=>[.int .u8 (((groups 9 (zz n)).getD j 0).toNat : Int)]) 1 kq rfl kq kq (by omega) (fun _ _=>rfl) (fun _ _=>kq) (fun q' cap'=>?_)
 refine @VX.run _ [] [0] 10 _ _ ([] : List (Ent Tryz.prog)) [] kq kq trivial ?_
 refine @VX.stop _ [] [0] 10 _ _ kq ?_
 refine V.q ?_
 exact V.retK (⟨b.bs ++ groups 9 (zz n),q',cap',b.rs,b.q2,b.c2⟩ : WSt) [] kq kq kq ⟨rfl,(List.append_nil _).symm⟩
theorem cWText (l : List UInt8) (b : WSt) (hl : l.length ≤ 1000000) (hb : b.bs.length ≤ 900000000) : CallsK Tryz.prog 247 [.one (.ptr 0 0),.one (.str l)] (wkF [] b) (WkR b (encS l) []) (fun _=>.tup []) (wkF []):=by
 have hg:=groups_len 9 (zz l.length)
 refine CallsK.mk true Tryz.func247 kq kq (fun ρ w=>?_)
 refine V.q ?_
 refine V.callK [] (cWNum (l.length : Int) b ⟨by omega,by omega⟩ (by omega)) kq kq kq (fun _=>kq) (fun b1 h1=>?_)
 obtain ⟨bs,q,c,rs,q2,c2⟩:=b1
 obtain ⟨h1,h2⟩:=h1
 simp only at h1 h2
 have hbl : bs.length ≤ 900000010:=by rw [h1,List.length_append]; unfold encN; omega
 refine V.q ?_
 refine V.pushes bsv 0 bs l 2 q c 5 1 l.length (fun j=>[.int .u8 ((l.getD j 0).toNat : Int)]) 1 kq rfl (by omega) (fun _ _=>rfl) (fun _ _=>kq) (fun q' cap'=>?_)
 refine V.q ?_
 exact V.retK (⟨bs ++ l,q',cap',rs,q2,c2⟩ : WSt) [] kq kq kq ⟨by simp only; rw [h1,List.append_assoc]; rfl,h2⟩
theorem cWFlag (v : Bool) (b : WSt) (hb : b.bs.length ≤ 900000000) : CallsK Tryz.prog 248 [.one (.ptr 0 0),.one (.sb v)] (wkF [] b) (WkR b [bitB v] []) (fun _=>.tup []) (wkF []):=by
 refine CallsK.mk true Tryz.func248 kq kq (fun ρ w=>?_)
 refine V.q ?_
 refine V.branch 4 v kq (fun hh=>?_) (fun hh=>?_)
 ·subst hh
  refine V.q ?_
  refine V.push bsv 0 b.bs 1 0 b.q b.c 5 1 [.int .u8 1] 1 kq (by omega) kq (fun _ _=>kq) (fun q' cap'=>?_)
  refine V.q ?_
  exact V.retK (⟨b.bs ++ [1],q',cap',b.rs,b.q2,b.c2⟩ : WSt) [] kq kq kq ⟨rfl,(List.append_nil _).symm⟩
 ·subst hh
  refine V.q ?_
  refine V.push bsv 0 b.bs 0 0 b.q b.c 5 1 [.int .u8 0] 1 kq (by omega) kq (fun _ _=>kq) (fun q' cap'=>?_)
  refine V.q ?_
  exact V.retK (⟨b.bs ++ [0],q',cap',b.rs,b.q2,b.c2⟩ : WSt) [] kq kq kq ⟨rfl,(List.append_nil _).symm⟩
theorem cWFour (n : Int) (b : WSt) (hb : b.bs.length ≤ 900000000) : CallsK Tryz.prog 244 [.one (.ptr 0 0),.one (.int .i64 n)] (wkF [] b) (WkR b (fourB n) []) (fun _=>.tup []) (wkF []):=by
 refine CallsK.mk true Tryz.func244 kq kq (fun ρ w=>?_)
 refine V.runT [] [(0 : Int) ≤ 24,(0 : Int) ≤ 16,(0 : Int) ≤ 8] kq kq ⟨by decide,by decide,show (0 : Int) ≤ 8 by decide⟩ ?_
 refine V.pushes bsv 0 b.bs (fourB n) 0 b.q b.c 5 1 4 (fun j=>(([.int .u8 (IntKind.u8.wrap (n.fdiv (2 ^ 24))),.int .u8 (IntKind.u8.wrap (n.fdiv (2 ^ 16))),.int .u8 (IntKind.u8.wrap (n.fdiv (2 ^ 8))),.int .u8 (IntKind.u8.wrap n)] : List SV).drop (j * 1)).take 1) 1 kq rfl (by omega) (fun i hi=>?_) (fun _ _=>kq) (fun q' cap'=>?_)
 ·match i,hi with
  | 0,_=>exact byteAt_ok n 24
  | 1,_=>exact byteAt_ok n 16
  | 2,_=>exact byteAt_ok n 8
  | 3,_=>have:=byteAt_ok n 0; rw [show n.fdiv (2 ^ 0) = n from Int.fdiv_one n] at this; exact this
 refine V.q ?_
 exact V.retK (⟨b.bs ++ fourB n,q',cap',b.rs,b.q2,b.c2⟩ : WSt) [] kq kq kq ⟨rfl,(List.append_nil _).symm⟩
theorem cWRel (n p : Int) (b : WSt) (hb : b.bs.length ≤ 900000000) (hr : b.rs.length ≤ 900000000) : CallsK Tryz.prog 245 [.one (.ptr 0 0),.one (.int .i64 n),.one (.int .i64 p)] (wkF [] b) (WkR b (fourB n) [((b.bs.length : Int),p)]) (fun _=>.tup []) (wkF []):=by
 refine CallsK.mk true Tryz.func245 kq kq (fun ρ w=>?_)
 refine V.q ?_
 refine V.drawX [] [1] 16 kq ?_
 refine @VX.run _ [] [1] 16 _ _ ([] : List (Ent Tryz.prog)) [] kq kq trivial ?_
 refine @VX.push _ [] [1] 16 _ _ _ rlv (0,0) b.rs ((b.bs.length : Int),p) 1 b.q2 b.c2 62 2 [.int .i64 (b.bs.length : Int),.int .i64 p] 16 kq kq kq (by omega) rfl (fun _ _=>kq) (fun q' cap'=>?_)
 refine @VX.run _ [] [1] 16 _ _ ([] : List (Ent Tryz.prog)) [] kq kq trivial ?_
 refine @VX.stop _ [] [1] 16 _ _ kq ?_
 refine V.q ?_
 refine V.callK [] (cWFour n ⟨b.bs,b.q,b.c,b.rs ++ [((b.bs.length : Int),p)],q',cap'⟩ hb) kq kq kq (fun _=>kq) (fun b1 h1=>?_)
 obtain ⟨h1,h2⟩:=h1
 refine V.q ?_
 exact V.retK b1 [] kq kq kq ⟨h1,by rw [h2,List.append_nil]⟩
theorem encN_len10 (n : Int) : (encN n).length ≤ 10:=groups_len 9 (zz n)
theorem cWTy (t : Ty) (b : WSt) (h1 : num32 t.k) (h2 : num32 t.p) (h3 : num32 t.q) (hl : t.s.length ≤ 1000000) (hb : b.bs.length ≤ 800000000) : CallsK Tryz.prog 246 [.one (.ptr 0 0),.agg t.cells] (wkF [] b) (WkR b (encTy t) []) (fun _=>.tup []) (wkF []):=by
 have l1:=encN_len10 t.k
 have l2:=encN_len10 t.p
 have l3:=encN_len10 t.q
 refine CallsK.mk true Tryz.func246 kq kq (fun ρ w=>?_)
 refine V.q ?_
 refine V.callK [] (cWNum t.k b h1 (by omega)) kq kq kq (fun _=>kq) (fun b1 e1=>?_)
 obtain ⟨e1,r1⟩:=e1
 refine V.q ?_
 refine V.callK [] (cWNum t.p b1 h2 (by rw [e1,List.length_append]; omega)) kq kq kq (fun _=>kq) (fun b2 e2=>?_)
 obtain ⟨e2,r2⟩:=e2
 refine V.q ?_
 refine V.callK [] (cWNum t.q b2 h3 (by rw [e2,e1,List.length_append,List.length_append]; omega)) kq kq kq (fun _=>kq) (fun b3 e3=>?_)
 obtain ⟨e3,r3⟩:=e3
 refine V.q ?_
 refine V.callK [] (cWFlag t.v b3 (by rw [e3,e2,e1]; simp only [List.length_append]; omega)) kq kq kq (fun _=>kq) (fun b4 e4=>?_)
 obtain ⟨e4,r4⟩:=e4
 refine V.q ?_
 refine V.callK [] (cWText t.s b4 hl (by rw [e4,e3,e2,e1]; simp only [List.length_append,List.length_cons,List.length_nil]; omega)) kq kq kq (fun _=>kq) (fun b5 e5=>?_)
 obtain ⟨e5,r5⟩:=e5
 refine V.q ?_
 exact V.retK b5 [] kq kq kq ⟨by rw [e5,e4,e3,e2,e1]; simp [encTy,List.append_assoc],by rw [r5,r4,r3,r2,r1]; simp⟩
def WfK (f : Fl) (x : In) (A : IA) (b : WSt) : Prop :=
 CallsK Tryz.prog 138 [.one (.ptr 0 0),.agg (inV x A),.one (.int .u8 (f.ch.toNat : Int))] (wkF (lsP x A) b) (WkR b (f.enc x) (f.rel x b.bs.length)) (fun _=>.tup []) (wkF [])
theorem wf_D (x : In) (A : IA) (b : WSt) (hf : Fl.fineB .D x = true) (hb : b.bs.length ≤ 500000000) (hr : b.rs.length ≤ 500000000) : WfK .D x A b:=by
 refine CallsK.mk false Tryz.func138 kq kq (fun ρ w=>?_)
 refine V.runC [] 30 [inK .i64 (Sel.get .D x + 1)] kq kq (by have h:=isRg_iff hf; simp only [allP,inK]; omega) ?_
 refine V.callK [] (cWNum (Sel.get .D x + 1) b (by have h:=isRg_iff hf; exact ⟨by omega,by omega⟩) (by omega)) kq kq kq (fun _=>kq) (fun b1 e1=>?_)
 refine V.q ?_
 exact V.retK b1 [] kq kq kq e1
theorem wf_A (x : In) (A : IA) (b : WSt) (hf : Fl.fineB .A x = true) (hb : b.bs.length ≤ 500000000) (hr : b.rs.length ≤ 500000000) : WfK .A x A b:=by
 refine CallsK.mk false Tryz.func138 kq kq (fun ρ w=>?_)
 refine V.runC [] 30 [inK .i64 (Sel.get .A x + 1)] kq kq (by have h:=isRg_iff hf; simp only [allP,inK]; omega) ?_
 refine V.callK [] (cWNum (Sel.get .A x + 1) b (by have h:=isRg_iff hf; exact ⟨by omega,by omega⟩) (by omega)) kq kq kq (fun _=>kq) (fun b1 e1=>?_)
 refine V.q ?_
 exact V.retK b1 [] kq kq kq e1
theorem wf_B (x : In) (A : IA) (b : WSt) (hf : Fl.fineB .B x = true) (hb : b.bs.length ≤ 500000000) (hr : b.rs.length ≤ 500000000) : WfK .B x A b:=by
 refine CallsK.mk false Tryz.func138 kq kq (fun ρ w=>?_)
 refine V.runC [] 30 [inK .i64 (Sel.get .B x + 1)] kq kq (by have h:=isRg_iff hf; simp only [allP,inK]; omega) ?_
 refine V.callK [] (cWNum (Sel.get .B x + 1) b (by have h:=isRg_iff hf; exact ⟨by omega,by omega⟩) (by omega)) kq kq kq (fun _=>kq) (fun b1 e1=>?_)
 refine V.q ?_
 exact V.retK b1 [] kq kq kq e1
theorem wf_N (x : In) (A : IA) (b : WSt) (hf : Fl.fineB .N x = true) (hb : b.bs.length ≤ 500000000) (hr : b.rs.length ≤ 500000000) : WfK .N x A b:=by
 refine CallsK.mk false Tryz.func138 kq kq (fun ρ w=>?_)
 refine V.runC [] 30 [] kq kq trivial ?_
 refine V.callK [] (cWNum (Sel.get .N x) b (isNum_32 hf) (by omega)) kq kq kq (fun _=>kq) (fun b1 e1=>?_)
 refine V.q ?_
 exact V.retK b1 [] kq kq kq e1
theorem wf_M (x : In) (A : IA) (b : WSt) (hf : Fl.fineB .M x = true) (hb : b.bs.length ≤ 500000000) (hr : b.rs.length ≤ 500000000) : WfK .M x A b:=by
 refine CallsK.mk false Tryz.func138 kq kq (fun ρ w=>?_)
 refine V.runC [] 30 [] kq kq trivial ?_
 refine V.callK [] (cWNum (Sel.get .M x) b (isNum_32 hf) (by omega)) kq kq kq (fun _=>kq) (fun b1 e1=>?_)
 refine V.q ?_
 exact V.retK b1 [] kq kq kq e1
theorem wf_P (x : In) (A : IA) (b : WSt) (hf : Fl.fineB .P x = true) (hb : b.bs.length ≤ 500000000) (hr : b.rs.length ≤ 500000000) : WfK .P x A b:=by
 refine CallsK.mk false Tryz.func138 kq kq (fun ρ w=>?_)
 refine V.runC [] 30 [] kq kq trivial ?_
 refine V.callK [] (cWNum (Sel.get .P x) b (isNum_32 hf) (by omega)) kq kq kq (fun _=>kq) (fun b1 e1=>?_)
 refine V.q ?_
 exact V.retK b1 [] kq kq kq e1
theorem wf_T (x : In) (A : IA) (b : WSt) (hf : Fl.fineB .T x = true) (hb : b.bs.length ≤ 500000000) (hr : b.rs.length ≤ 500000000) : WfK .T x A b:=by
 refine CallsK.mk false Tryz.func138 kq kq (fun ρ w=>?_)
 refine V.runC [] 30 [] kq kq trivial ?_
 refine V.callK [] (cWTy (TSel.get .T x) b (isTy_ok hf).1 (isTy_ok hf).2.1 (isTy_ok hf).2.2.1 (by have:=isTy_s hf; omega) (by omega)) kq kq kq (fun _=>kq) (fun b1 e1=>?_)
 refine V.q ?_
 exact V.retK b1 [] kq kq kq e1
theorem wf_U (x : In) (A : IA) (b : WSt) (hf : Fl.fineB .U x = true) (hb : b.bs.length ≤ 500000000) (hr : b.rs.length ≤ 500000000) : WfK .U x A b:=by
 refine CallsK.mk false Tryz.func138 kq kq (fun ρ w=>?_)
 refine V.runC [] 30 [] kq kq trivial ?_
 refine V.callK [] (cWTy (TSel.get .U x) b (isTy_ok hf).1 (isTy_ok hf).2.1 (isTy_ok hf).2.2.1 (by have:=isTy_s hf; omega) (by omega)) kq kq kq (fun _=>kq) (fun b1 e1=>?_)
 refine V.q ?_
 exact V.retK b1 [] kq kq kq e1
theorem wf_W (x : In) (A : IA) (b : WSt) (hf : Fl.fineB .W x = true) (hb : b.bs.length ≤ 500000000) (hr : b.rs.length ≤ 500000000) : WfK .W x A b:=by
 refine CallsK.mk false Tryz.func138 kq kq (fun ρ w=>?_)
 refine V.runC [] 30 [] kq kq trivial ?_
 refine V.callK [] (cWTy (TSel.get .W x) b (isTy_ok hf).1 (isTy_ok hf).2.1 (isTy_ok hf).2.2.1 (by have:=isTy_s hf; omega) (by omega)) kq kq kq (fun _=>kq) (fun b1 e1=>?_)
 refine V.q ?_
 exact V.retK b1 [] kq kq kq e1
theorem wf_Sz (x : In) (A : IA) (b : WSt) (hf : Fl.fineB .Sz x = true) (hb : b.bs.length ≤ 500000000) (hr : b.rs.length ≤ 500000000) : WfK .Sz x A b:=by
 refine CallsK.mk false Tryz.func138 kq kq (fun ρ w=>?_)
 refine V.runC [] 30 [] kq kq trivial ?_
 refine V.callK [] (cWFlag (FSel.get .S x) b (by omega)) kq kq kq (fun _=>kq) (fun b1 e1=>?_)
 refine V.q ?_
 exact V.retK b1 [] kq kq kq e1
theorem wf_Rg (x : In) (A : IA) (b : WSt) (hf : Fl.fineB .Rg x = true) (hb : b.bs.length ≤ 500000000) (hr : b.rs.length ≤ 500000000) : WfK .Rg x A b:=by
 refine CallsK.mk false Tryz.func138 kq kq (fun ρ w=>?_)
 refine V.runC [] 30 [] kq kq trivial ?_
 refine V.callK [] (cWFlag (FSel.get .R x) b (by omega)) kq kq kq (fun _=>kq) (fun b1 e1=>?_)
 refine V.q ?_
 exact V.retK b1 [] kq kq kq e1
theorem wf_aN (x : In) (A : IA) (b : WSt) (hf : Fl.fineB .aN x = true) (hb : b.bs.length ≤ 500000000) (hr : b.rs.length ≤ 500000000) : WfK .aN x A b:=by
 refine CallsK.mk false Tryz.func138 kq kq (fun ρ w=>?_)
 refine V.runC [] 30 [] kq kq trivial ?_
 refine V.callK [] (cWFour (Sel.get .N x) b (by omega)) kq kq kq (fun _=>kq) (fun b1 e1=>?_)
 refine V.q ?_
 exact V.retK b1 [] kq kq kq e1
theorem wf_aM (x : In) (A : IA) (b : WSt) (hf : Fl.fineB .aM x = true) (hb : b.bs.length ≤ 500000000) (hr : b.rs.length ≤ 500000000) : WfK .aM x A b:=by
 refine CallsK.mk false Tryz.func138 kq kq (fun ρ w=>?_)
 refine V.runC [] 30 [] kq kq trivial ?_
 refine V.callK [] (cWFour (Sel.get .M x) b (by omega)) kq kq kq (fun _=>kq) (fun b1 e1=>?_)
 refine V.q ?_
 exact V.retK b1 [] kq kq kq e1
theorem wf_pN (x : In) (A : IA) (b : WSt) (hf : Fl.fineB .pN x = true) (hb : b.bs.length ≤ 500000000) (hr : b.rs.length ≤ 500000000) : WfK .pN x A b:=by
 refine CallsK.mk false Tryz.func138 kq kq (fun ρ w=>?_)
 refine V.runC [] 30 [] kq kq trivial ?_
 refine V.callK [] (cWRel 0 (Sel.get .N x) b (by omega) (by omega)) kq kq kq (fun _=>kq) (fun b1 e1=>?_)
 refine V.q ?_
 have hn : ¬ Sel.get .N x < 0:=by
  have h' : isPr false (Sel.get .N x) = true:=hf
  unfold isPr at h'
  simp at h'
  omega
 refine V.retK b1 [] kq kq kq ?_
 show WkR b (encP (Sel.get .N x)) (relP (Sel.get .N x) b.bs.length) b1
 unfold encP relP
 rw [if_neg hn,if_neg hn]
 exact e1
theorem wf_far (x : In) (A : IA) (b : WSt) (hf : Fl.fineB .far x = true) (hb : b.bs.length ≤ 500000000) (hr : b.rs.length ≤ 500000000) : WfK .far x A b:=by
 refine CallsK.mk false Tryz.func138 kq kq (fun ρ w=>?_)
 refine V.runC [] 30 [] kq kq trivial ?_
 refine V.callK [] (cWRel x.n x.p b (by omega) (by omega)) kq kq kq (fun _=>kq) (fun b1 e1=>?_)
 refine V.q ?_
 exact V.retK b1 [] kq kq kq e1
theorem wf_pM (x : In) (A : IA) (b : WSt) (hf : Fl.fineB .pM x = true) (hb : b.bs.length ≤ 500000000) (hr : b.rs.length ≤ 500000000) : WfK .pM x A b:=by
 refine CallsK.mk false Tryz.func138 kq kq (fun ρ w=>?_)
 refine V.runC [] 11 [] kq kq trivial ?_
 refine V.q ?_
 refine V.branch 79 (decide (Sel.get .M x < 0)) kq (fun hh=>?_) (fun hh=>?_)
 ·have hn : Sel.get .M x < 0:=by simpa using hh
  refine V.q ?_
  refine V.callK [] (cWFour (-1) b (by omega)) kq kq kq (fun _=>kq) (fun b1 e1=>?_)
  refine V.q ?_
  refine V.retK b1 [] kq kq kq ?_
  show WkR b (encP (Sel.get .M x)) (relP (Sel.get .M x) b.bs.length) b1
  unfold encP relP
  rw [if_pos hn,if_pos hn]
  exact e1
 ·have hn : ¬ Sel.get .M x < 0:=by simpa using hh
  refine V.q ?_
  refine V.callK [] (cWRel 0 (Sel.get .M x) b (by omega) (by omega)) kq kq kq (fun _=>kq) (fun b1 e1=>?_)
  refine V.q ?_
  refine V.retK b1 [] kq kq kq ?_
  show WkR b (encP (Sel.get .M x)) (relP (Sel.get .M x) b.bs.length) b1
  unfold encP relP
  rw [if_neg hn,if_neg hn]
  exact e1
theorem wf_V (x : In) (A : IA) (b : WSt) (hf : Fl.fineB .V x = true) (hb : b.bs.length ≤ 500000000) (hr : b.rs.length ≤ 500000000) : WfK .V x A b:=by
 refine CallsK.mk false Tryz.func138 kq kq (fun ρ w=>?_)
 refine V.runC [] 30 [] kq kq trivial ?_
 have hv : isNum x.vn = true:=and_l hf
 have hs : (x.vs.length : Int) ≤ 255:=of_decide_eq_true (and_r hf)
 have l1:=encN_len10 x.vn
 refine V.callK [] (cWNum x.vn b (isNum_32 hv) (by omega)) kq kq kq (fun _=>kq) (fun b1 e1=>?_)
 obtain ⟨e1,r1⟩:=e1
 refine V.q ?_
 refine V.callK [] (cWText x.vs b1 (by omega) (by rw [e1,List.length_append]; omega)) kq kq kq (fun _=>kq) (fun b2 e2=>?_)
 obtain ⟨e2,r2⟩:=e2
 refine V.q ?_
 exact V.retK b2 [] kq kq kq ⟨by rw [e2,e1,List.append_assoc]; rfl,by rw [r2,r1]; simp [Fl.rel]⟩
structure WLI where
 b : WSt
 i : Nat
theorem flatN {α : Type} (e : α → List UInt8) (l : List α) (d : α) (i : Nat) (h : i < l.length) : (l.take (i + 1)).flatMap e = (l.take i).flatMap e ++ e (l.getD i d):=by
 rw [List.take_add_one,List.getElem?_eq_getElem h,List.flatMap_append,List.getD,List.getElem?_eq_getElem h]
 simp
theorem getD_all {α : Type} {p : α → Bool} {l : List α} (h : l.all p = true) {i : Nat} (hi : i < l.length) (d : α) : p (l.getD i d) = true:=by
 rw [List.getD,List.getElem?_eq_getElem hi]
 exact List.all_eq_true.1 h _ (List.getElem_mem hi)
def wlL (x : In) (A : IA) (j : WLI) : St :=
 { n:=217,slots:=[(0,.v (.one (.ptr 0 0))),(4,.v (.one (.ptr 1 0))),(6,.v (.one (.int .i64 (j.i : Int))))],gs:=[],
    heap:=[(0,⟨[.row 0 j.b.q j.b.bs.length j.b.c,.row 1 j.b.q2 j.b.rs.length j.b.c2],129,true⟩),(1,⟨inV x A,30,true⟩)],next:=2,rows:=[(0,rowL bsv 0 j.b.bs j.b.q j.b.c 5 1 true),(1,rowL rlv (0,0) j.b.rs j.b.q2 j.b.c2 62 2 true)],nr:=2,pers:=lsP x A,wr:=false,fx:=1 }
theorem wf_L (x : In) (A : IA) (b : WSt) (hf : Fl.fineB .L x = true) (hb : b.bs.length ≤ 500000000) (hr : b.rs.length ≤ 500000000) : WfK .L x A b:=by
 have hfine:=and_l hf
 have hlen : (x.l.length : Int) ≤ 16:=of_decide_eq_true (and_r hf)
 have l0:=encN_len10 (x.l.length : Int)
 refine CallsK.mk false Tryz.func138 kq kq (fun ρ w=>?_)
 refine V.runC [] 30 [] kq kq trivial ?_
 refine V.callK [] (cWNum (x.l.length : Int) b ⟨by omega,by omega⟩ (by omega)) kq kq kq (fun _=>kq) (fun b1 e1=>?_)
 obtain ⟨e1,r1⟩:=e1
 refine V.q ?_
 refine V.loopK [0,4,6] [true,true,true] (fun j : WLI=>x.l.length - j.i) (wlL x A)
  (fun j=>j.i ≤ x.l.length ∧ j.b.bs = b1.bs ++ (x.l.take j.i).flatMap eI ∧ j.b.rs = b.rs ∧ j.b.bs.length ≤ b.bs.length + 10 + 400 * j.i) ⟨b1,0⟩ kq ⟨Nat.zero_le _,by simp,by rw [r1,List.append_nil],by rw [e1,List.length_append]; omega⟩ (fun j hj ih=>?_)
 obtain ⟨b2,i⟩:=j
 obtain ⟨hi,e2,r2,l2⟩:=hj
 simp only at hi e2 r2 l2
 refine V.iter ?_
 refine V.q ?_
 refine V.branch 139 (decide ((i : Int) < (x.l.length : Int))) kq (fun hc=>?_) (fun hc=>?_)
 ·have hlt : i < x.l.length:=by simpa using hc
  have hx:=getD_all hfine hlt 0
  have hnext:=flatN eI x.l 0 i hlt
  have hi2 : -1 ≤ x.l.getD i 0 ∧ x.l.getD i 0 < 4000:=isRg_iff (and_r hx)
  refine V.q ?_
  refine V.asRow 144 1 (rowI x A) kq kq kq rfl ?_
  refine V.runT [] [(0 : Int) ≤ i ∧ (i : Int) < (x.l.length : Int),inK .i64 (x.l.getD (i : Int).toNat 0 + 1)] kq kq ⟨⟨by omega,by omega⟩,by rw [Int.toNat_natCast]; simp only [allP,inK]; omega⟩ ?_
  refine V.slotAs 148 (.one (.int .i64 (x.l.getD (i : Int).toNat 0 + 1))) (.one (.int .i64 (x.l.getD i 0 + 1))) kq kq (fun _=>by rw [Int.toNat_natCast]) ?_
  refine V.callK [] (cWNum (x.l.getD i 0 + 1) b2 ⟨by omega,by omega⟩ (by omega)) kq kq kq (fun _=>kq) (fun b3 e3=>?_)
  obtain ⟨e3,r3⟩:=e3
  rw [List.append_nil] at r3
  have e3 : b3.bs = b2.bs ++ eI (x.l.getD i 0):=e3
  have l3 : b3.bs.length ≤ b.bs.length + 10 + 400 * (i + 1):=by
   have:=encN_len10 (x.l.getD i 0 + 1)
   rw [e3,List.length_append]
   unfold eI
   omega
  refine V.runT [] [inK .i64 ((i : Int) + 1)] kq kq (by simp only [allP,inK]; omega) ?_
  refine V.againK [0,4,6] [true,true,true] (ih ⟨b3,i + 1⟩ ⟨hlt,by simp only; rw [e3,e2,hnext,List.append_assoc],by simp only; rw [r3,r2],l3⟩ (by simp only; omega)) kq kq
 ·have hge : i = x.l.length:=by simp at hc; omega
  rw [hge,List.take_length] at e2
  refine V.q ?_
  exact V.retK b2 [] kq kq kq ⟨by rw [e2,e1,List.append_assoc]; rfl,by rw [r2]; exact (List.append_nil _).symm⟩
def wlY (x : In) (A : IA) (j : WLI) : St :=
 { n:=217,slots:=[(0,.v (.one (.ptr 0 0))),(4,.v (.one (.ptr 1 0))),(7,.v (.one (.int .i64 (j.i : Int))))],gs:=[],
    heap:=[(0,⟨[.row 0 j.b.q j.b.bs.length j.b.c,.row 1 j.b.q2 j.b.rs.length j.b.c2],129,true⟩),(1,⟨inV x A,30,true⟩)],next:=2,rows:=[(0,rowL bsv 0 j.b.bs j.b.q j.b.c 5 1 true),(1,rowL rlv (0,0) j.b.rs j.b.q2 j.b.c2 62 2 true)],nr:=2,pers:=lsP x A,wr:=false,fx:=1 }
theorem wf_Y (x : In) (A : IA) (b : WSt) (hf : Fl.fineB .Y x = true) (hb : b.bs.length ≤ 500000000) (hr : b.rs.length ≤ 500000000) : WfK .Y x A b:=by
 have hfine:=and_l hf
 have hlen : (x.y.length : Int) ≤ 16:=of_decide_eq_true (and_r hf)
 have l0:=encN_len10 (x.y.length : Int)
 refine CallsK.mk false Tryz.func138 kq kq (fun ρ w=>?_)
 refine V.runC [] 30 [] kq kq trivial ?_
 refine V.callK [] (cWNum (x.y.length : Int) b ⟨by omega,by omega⟩ (by omega)) kq kq kq (fun _=>kq) (fun b1 e1=>?_)
 obtain ⟨e1,r1⟩:=e1
 refine V.q ?_
 refine V.loopK [0,4,7] [true,true,true] (fun j : WLI=>x.y.length - j.i) (wlY x A)
  (fun j=>j.i ≤ x.y.length ∧ j.b.bs = b1.bs ++ (x.y.take j.i).flatMap encTy ∧ j.b.rs = b.rs ∧ j.b.bs.length ≤ b.bs.length + 10 + 400 * j.i) ⟨b1,0⟩ kq ⟨Nat.zero_le _,by simp,by rw [r1,List.append_nil],by rw [e1,List.length_append]; omega⟩ (fun j hj ih=>?_)
 obtain ⟨b2,i⟩:=j
 obtain ⟨hi,e2,r2,l2⟩:=hj
 simp only at hi e2 r2 l2
 refine V.iter ?_
 refine V.q ?_
 refine V.branch 161 (decide ((i : Int) < (x.y.length : Int))) kq (fun hc=>?_) (fun hc=>?_)
 ·have hlt : i < x.y.length:=by simpa using hc
  have hx:=getD_all hfine hlt ty0
  have hnext:=flatN encTy x.y ty0 i hlt
  obtain ⟨t1,t2,t3,t4⟩:=isTy_ok hx
  have t5:=isTy_s hx
  refine V.q ?_
  refine V.asRow 166 2 (rowT x A) kq kq kq rfl ?_
  refine V.runT [] [(0 : Int) ≤ i ∧ (i : Int) < (x.y.length : Int)] kq kq ⟨by omega,by omega⟩ ?_
  refine V.slotAs 169 (.agg (x.y.getD (i : Int).toNat ty0).cells) (.agg (x.y.getD i ty0).cells) kq kq (fun _=>by rw [Int.toNat_natCast]) ?_
  refine V.callK [] (cWTy (x.y.getD i ty0) b2 t1 t2 t3 (by omega) (by omega)) kq kq kq (fun _=>kq) (fun b3 e3=>?_)
  obtain ⟨e3,r3⟩:=e3
  rw [List.append_nil] at r3
  have l3 : b3.bs.length ≤ b.bs.length + 10 + 400 * (i + 1):=by
   have n1:=encN_len10 (x.y.getD i ty0).k
   have n2:=encN_len10 (x.y.getD i ty0).p
   have n3:=encN_len10 (x.y.getD i ty0).q
   have n4:=encN_len10 ((x.y.getD i ty0).s.length : Int)
   rw [e3,List.length_append]
   simp only [encTy,encS,List.length_append,List.length_cons,List.length_nil]
   omega
  refine V.runT [] [inK .i64 ((i : Int) + 1)] kq kq (by simp only [allP,inK]; omega) ?_
  refine V.againK [0,4,7] [true,true,true] (ih ⟨b3,i + 1⟩ ⟨hlt,by simp only; rw [e3,e2,hnext,List.append_assoc],by simp only; rw [r3,r2],l3⟩ (by simp only; omega)) kq kq
 ·have hge : i = x.y.length:=by simp at hc; omega
  rw [hge,List.take_length] at e2
  refine V.q ?_
  exact V.retK b2 [] kq kq kq ⟨by rw [e2,e1,List.append_assoc]; rfl,by rw [r2]; exact (List.append_nil _).symm⟩
def wlF (x : In) (A : IA) (j : WLI) : St :=
 { n:=217,slots:=[(0,.v (.one (.ptr 0 0))),(4,.v (.one (.ptr 1 0))),(8,.v (.one (.int .i64 (j.i : Int))))],gs:=[],
    heap:=[(0,⟨[.row 0 j.b.q j.b.bs.length j.b.c,.row 1 j.b.q2 j.b.rs.length j.b.c2],129,true⟩),(1,⟨inV x A,30,true⟩)],next:=2,rows:=[(0,rowL bsv 0 j.b.bs j.b.q j.b.c 5 1 true),(1,rowL rlv (0,0) j.b.rs j.b.q2 j.b.c2 62 2 true)],nr:=2,pers:=lsP x A,wr:=false,fx:=1 }
theorem wf_F (x : In) (A : IA) (b : WSt) (hf : Fl.fineB .F x = true) (hb : b.bs.length ≤ 500000000) (hr : b.rs.length ≤ 500000000) : WfK .F x A b:=by
 have hfine:=and_l hf
 have hlen : (x.f.length : Int) ≤ 16:=of_decide_eq_true (and_r hf)
 have l0:=encN_len10 (x.f.length : Int)
 refine CallsK.mk false Tryz.func138 kq kq (fun ρ w=>?_)
 refine V.runC [] 30 [] kq kq trivial ?_
 refine V.callK [] (cWNum (x.f.length : Int) b ⟨by omega,by omega⟩ (by omega)) kq kq kq (fun _=>kq) (fun b1 e1=>?_)
 obtain ⟨e1,r1⟩:=e1
 refine V.q ?_
 refine V.loopK [0,4,8] [true,true,true] (fun j : WLI=>x.f.length - j.i) (wlF x A)
  (fun j=>j.i ≤ x.f.length ∧ j.b.bs = b1.bs ++ (x.f.take j.i).flatMap encFm ∧ j.b.rs = b.rs ∧ j.b.bs.length ≤ b.bs.length + 10 + 400 * j.i) ⟨b1,0⟩ kq ⟨Nat.zero_le _,by simp,by rw [r1,List.append_nil],by rw [e1,List.length_append]; omega⟩ (fun j hj ih=>?_)
 obtain ⟨b2,i⟩:=j
 obtain ⟨hi,e2,r2,l2⟩:=hj
 simp only at hi e2 r2 l2
 refine V.iter ?_
 refine V.q ?_
 refine V.branch 182 (decide ((i : Int) < (x.f.length : Int))) kq (fun hc=>?_) (fun hc=>?_)
 ·have hlt : i < x.f.length:=by simpa using hc
  have hx:=getD_all hfine hlt fm0
  have hnext:=flatN encFm x.f fm0 i hlt
  obtain ⟨⟨⟨t1,t2⟩,t3⟩,t4⟩ : ((isNum (x.f.getD i fm0).k = true ∧ isNum (x.f.getD i fm0).w = true) ∧ isNum (x.f.getD i fm0).d = true) ∧ ((x.f.getD i fm0).s.length : Int) ≤ 255:=by
   unfold isFm at hx
   simpa only [Bool.and_eq_true,decide_eq_true_eq] using hx
  have n1:=encN_len10 (x.f.getD i fm0).k
  have n2:=encN_len10 (x.f.getD i fm0).w
  have n3:=encN_len10 (x.f.getD i fm0).d
  have n4:=encN_len10 ((x.f.getD i fm0).s.length : Int)
  refine V.q ?_
  refine V.asRow 187 0 (rowF x A) kq kq kq rfl ?_
  refine V.runT [] [(0 : Int) ≤ i ∧ (i : Int) < (x.f.length : Int)] kq kq ⟨by omega,by omega⟩ ?_
  refine V.slotAs 191 (.one (.int .i64 (x.f.getD (i : Int).toNat fm0).k)) (.one (.int .i64 (x.f.getD i fm0).k)) kq kq (fun _=>by rw [Int.toNat_natCast]) ?_
  refine V.callK [] (cWNum (x.f.getD i fm0).k b2 (isNum_32 t1) (by omega)) kq kq kq (fun _=>kq) (fun c0 g0=>?_)
  obtain ⟨g0,h0⟩:=g0
  rw [List.append_nil] at h0
  refine V.q ?_
  refine V.asRow 195 0 (rowF x A) kq kq kq rfl ?_
  refine V.runT [] [(0 : Int) ≤ i ∧ (i : Int) < (x.f.length : Int)] kq kq ⟨by omega,by omega⟩ ?_
  refine V.slotAs 199 (.one (.int .i64 (x.f.getD (i : Int).toNat fm0).w)) (.one (.int .i64 (x.f.getD i fm0).w)) kq kq (fun _=>by rw [Int.toNat_natCast]) ?_
  refine V.callK [] (cWNum (x.f.getD i fm0).w c0 (isNum_32 t2) (by rw [g0]; simp only [List.length_append]; omega)) kq kq kq (fun _=>kq) (fun c1 g1=>?_)
  obtain ⟨g1,h1⟩:=g1
  rw [List.append_nil] at h1
  refine V.q ?_
  refine V.asRow 203 0 (rowF x A) kq kq kq rfl ?_
  refine V.runT [] [(0 : Int) ≤ i ∧ (i : Int) < (x.f.length : Int)] kq kq ⟨by omega,by omega⟩ ?_
  refine V.slotAs 207 (.one (.int .i64 (x.f.getD (i : Int).toNat fm0).d)) (.one (.int .i64 (x.f.getD i fm0).d)) kq kq (fun _=>by rw [Int.toNat_natCast]) ?_
  refine V.callK [] (cWNum (x.f.getD i fm0).d c1 (isNum_32 t3) (by rw [g1,g0]; simp only [List.length_append]; omega)) kq kq kq (fun _=>kq) (fun c2 g2=>?_)
  obtain ⟨g2,h2⟩:=g2
  rw [List.append_nil] at h2
  refine V.q ?_
  refine V.asRow 211 0 (rowF x A) kq kq kq rfl ?_
  refine V.runT [] [(0 : Int) ≤ i ∧ (i : Int) < (x.f.length : Int)] kq kq ⟨by omega,by omega⟩ ?_
  refine V.slotAs 215 (.one (.str (x.f.getD (i : Int).toNat fm0).s)) (.one (.str (x.f.getD i fm0).s)) kq kq (fun _=>by rw [Int.toNat_natCast]) ?_
  refine V.callK [] (cWText (x.f.getD i fm0).s c2 (by omega) (by rw [g2,g1,g0]; simp only [List.length_append]; omega)) kq kq kq (fun _=>kq) (fun b3 g3=>?_)
  obtain ⟨g3,h3⟩:=g3
  rw [List.append_nil] at h3
  have e3 : b3.bs = b2.bs ++ encFm (x.f.getD i fm0):=by rw [g3,g2,g1,g0]; simp [encFm,List.append_assoc]
  have r3 : b3.rs = b2.rs:=by rw [h3,h2,h1,h0]
  have l3 : b3.bs.length ≤ b.bs.length + 10 + 400 * (i + 1):=by
   rw [e3,List.length_append]
   simp only [encFm,encS,List.length_append]
   omega
  refine V.runT [] [inK .i64 ((i : Int) + 1)] kq kq (by simp only [allP,inK]; omega) ?_
  refine V.againK [0,4,8] [true,true,true] (ih ⟨b3,i + 1⟩ ⟨hlt,by simp only; rw [e3,e2,hnext,List.append_assoc],by simp only; rw [r3,r2],l3⟩ (by simp only; omega)) kq kq
 ·have hge : i = x.f.length:=by simp at hc; omega
  rw [hge,List.take_length] at e2
  refine V.q ?_
  exact V.retK b2 [] kq kq kq ⟨by rw [e2,e1,List.append_assoc]; rfl,by rw [r2]; exact (List.append_nil _).symm⟩
theorem wfAll (f : Fl) (x : In) (A : IA) (b : WSt) (hf : f.fineB x = true) (hb : b.bs.length ≤ 500000000) (hr : b.rs.length ≤ 500000000) : WfK f x A b:=by
 cases f
 case D=>exact wf_D x A b hf hb hr
 case A=>exact wf_A x A b hf hb hr
 case B=>exact wf_B x A b hf hb hr
 case N=>exact wf_N x A b hf hb hr
 case M=>exact wf_M x A b hf hb hr
 case P=>exact wf_P x A b hf hb hr
 case T=>exact wf_T x A b hf hb hr
 case U=>exact wf_U x A b hf hb hr
 case W=>exact wf_W x A b hf hb hr
 case V=>exact wf_V x A b hf hb hr
 case L=>exact wf_L x A b hf hb hr
 case Y=>exact wf_Y x A b hf hb hr
 case F=>exact wf_F x A b hf hb hr
 case Sz=>exact wf_Sz x A b hf hb hr
 case Rg=>exact wf_Rg x A b hf hb hr
 case aN=>exact wf_aN x A b hf hb hr
 case aM=>exact wf_aM x A b hf hb hr
 case pN=>exact wf_pN x A b hf hb hr
 case pM=>exact wf_pM x A b hf hb hr
 case far=>exact wf_far x A b hf hb hr
structure WII where
 b : WSt
 i : Nat
def wiSt (x : In) (A : IA) (ls : List UInt8) (j : WII) : St :=
 { n:=37,slots:=[(0,.v (.one (.ptr 0 0))),(3,.v (.one (.ptr 1 0))),(5,.v (.one (.str ls))),(6,.v (.one (.int .i64 (j.i : Int))))],gs:=[],
    heap:=[(0,⟨[.row 0 j.b.q j.b.bs.length j.b.c,.row 1 j.b.q2 j.b.rs.length j.b.c2],129,true⟩),(1,⟨inV x A,30,true⟩)],next:=2,rows:=[(0,rowL bsv 0 j.b.bs j.b.q j.b.c 5 1 true),(1,rowL rlv (0,0) j.b.rs j.b.q2 j.b.c2 62 2 true)],nr:=2,pers:=lsP x A,wr:=true,fx:=1 }
theorem cWIns (x : In) (A : IA) (b : WSt) (hx : cFine x = true) (hb : b.bs.length ≤ 400000000) (hr : b.rs.length ≤ 400000000) :
  CallsK Tryz.prog 72 [.one (.ptr 0 0),.agg (inV x A)] (wkF (lsP x A) b) (fun b' : WSt=>(b'.bs,b'.rs) = putL x (opFls x.op.toNat) (b.bs ++ [UInt8.ofNat x.op.toNat],b.rs)) (fun _=>.tup []) (wkF []):=by
 obtain ⟨hop,hfin⟩:=cFine_ok hx
 have hfind : opFind x.op = some (opFls x.op.toNat):=by unfold opFind; rw [if_pos hop]
 rw [hfind] at hfin
 have hfl : (opFls x.op.toNat).length ≤ 7:=by
  have:=opFind_len x.op
  rw [hfind] at this
  exact this
 have hlet:=letters x.op.toNat (by omega)
 rw [Int.toNat_of_nonneg (by omega),hfind] at hlet
 simp only [Option.getD_some] at hlet hfin
 generalize hfls : opFls x.op.toNat = fls at hlet hfin hfl
 refine CallsK.mk true Tryz.func72 kq kq (fun ρ w=>?_)
 refine V.q ?_
 refine V.callK [] (cFieldsR x.op) kq kq kq (fun _=>kq) (fun _ _=>?_)
 refine V.q ?_
 refine V.slotAs 5 (.one (.str (rfN x.op).2)) (.one (.str (fls.map Fl.ch))) kq kq (fun _=>by rw [hlet]) ?_
 refine V.drawX [] [0] 12 kq ?_
 refine @VX.run _ [] [0] 12 _ _ ([] : List (Ent Tryz.prog)) [] kq kq trivial ?_
 refine @VX.push _ [] [0] 12 _ _ _ bsv 0 b.bs (UInt8.ofNat x.op.toNat) 0 b.q b.c 5 1 [.int .u8 (IntKind.u8.wrap x.op)] 1 kq kq kq (by omega) (by
  have:=opByte (o:=x.op.toNat) (by omega)
  rw [Int.toNat_of_nonneg (by omega)] at this
  rw [this]; rfl) (fun _ _=>kq) (fun q' cap'=>?_)
 refine @VX.run _ [] [0] 12 _ _ ([] : List (Ent Tryz.prog)) [] kq kq trivial ?_
 refine @VX.stop _ [] [0] 12 _ _ kq ?_
 refine V.q ?_
 refine V.loopK [0,3,5,6] [true,true,true] (fun j : WII=>fls.length - j.i) (wiSt x A (fls.map Fl.ch))
  (fun j=>j.i ≤ fls.length ∧ (j.b.bs,j.b.rs) = putL x (fls.take j.i) (b.bs ++ [UInt8.ofNat x.op.toNat],b.rs)) ⟨⟨b.bs ++ [UInt8.ofNat x.op.toNat],q',cap',b.rs,b.q2,b.c2⟩,0⟩ kq ⟨Nat.zero_le _,rfl⟩ (fun j hj ih=>?_)
 obtain ⟨b2,i⟩:=j
 obtain ⟨hi,hput⟩:=hj
 simp only at hi hput
 have hpl:=putL_len x (fls.take i) (b.bs ++ [UInt8.ofNat x.op.toNat],b.rs) (List.all_eq_true.2 fun f hf=>List.all_eq_true.1 hfin f (List.mem_of_mem_take hf))
 rw [← hput] at hpl
 simp only [List.length_append,List.length_cons,List.length_nil,List.length_take] at hpl
 refine V.iter ?_
 refine V.q ?_
 refine V.branch 28 (decide ((i : Int) < ((fls.map Fl.ch).length : Int))) kq (fun hc=>?_) (fun hc=>?_)
 ·have hlt : i < fls.length:=by simpa using hc
  obtain ⟨f,hf⟩ : ∃ f,fls.getD i .D = f:=⟨_,rfl⟩
  have hch : (fls.map Fl.ch).getD (i : Int).toNat 0 = f.ch:=by
   rw [Int.toNat_natCast,← hf,List.getD,List.getElem?_map,List.getElem?_eq_getElem hlt,List.getD,List.getElem?_eq_getElem hlt]
   rfl
  have htk : fls.take (i + 1) = fls.take i ++ [f]:=by
   rw [List.take_add_one,List.getElem?_eq_getElem hlt]
   rw [List.getD,List.getElem?_eq_getElem hlt] at hf
   simp only [Option.getD_some] at hf
   rw [hf]; rfl
  have hff : f.fineB x = true:=by rw [← hf]; exact getD_all (p:=fun f=>f.fineB x) hfin hlt .D
  have hW:=wfAll f x A b2 hff (by omega) (by omega)
  unfold WfK at hW
  rw [← hch] at hW
  refine V.q ?_
  refine V.drawX [0] [0,1] 6 kq ?_
  refine @VX.run _ [0] [0,1] 6 _ _ ([] : List (Ent Tryz.prog)) [(0 : Int) ≤ i ∧ (i : Int) < ((fls.map Fl.ch).length : Int)] kq kq ⟨by omega,by rw [List.length_map]; omega⟩ ?_
  refine @VX.callR _ [0] [0,1] 6 _ _ _ _ _ _ _ _ _ [(0,false),(1,false),(2,false)] hW kq kq kq (fun _=>kq) (fun b3 h3=>?_)
  refine @VX.stop _ [0] [0,1] 6 _ _ kq ?_
  refine V.q ?_
  refine V.slotAs 6 (.one (.int .i64 (IntKind.i64.wrap ((i : Int) + 1)))) (.one (.int .i64 ((i + 1 : Nat) : Int))) kq kq (fun _=>by rw [wrap_up (by omega)]) ?_
  refine V.againK [0,3,5,6] [true,true,true] (ih ⟨b3,i + 1⟩ ⟨hlt,?_⟩ (by simp only; omega)) kq kq
  simp only
  rw [htk,putL_snoc,← hput,h3.1,h3.2]
 ·have hge : i = fls.length:=by simp at hc; omega
  rw [hge,List.take_length] at hput
  refine V.q ?_
  exact V.retK b2 [] kq kq kq hput
theorem cEnc_put {x : In} (hx : cFine x = true) : cEnc x = putL x (opFls x.op.toNat) ([UInt8.ofNat x.op.toNat],[]):=by
 obtain ⟨hop,_⟩:=cFine_ok hx
 unfold cEnc opFind
 rw [if_pos hop]
 rfl
theorem xEncR (x : In) (A : IA) (hx : x.okL) (h : cFine x = true) : CallsK Tryz.prog 32 [.agg (inV x A)] (stP (lsP x A)) (fun _ : Option Addr × Nat=>True) (fun qc=>.tup [.one (.str (cEnc x).1),.one (.row 0 qc.1 (cEnc x).2.length qc.2),.one (.int .i64 0)]) (rsF (cEnc x).2):=by
 have hE:=cEnc_put h
 refine CallsK.mk true Tryz.func32 kq kq (fun ρ w=>?_)
 refine V.q ?_
 refine V.callK [(0,false),(1,false),(2,false)] (xCheckR x A hx) kq kq kq (fun _=>kq) (fun _ _=>?_)
 refine V.q ?_
 refine V.known 10 ((bif cFine x then (0 : Int) else 170) != 0) false kq (by rw [h]; rfl) ?_
 refine V.q ?_
 refine V.nilB bsv 0 1 0 ⟨[.val (.slice none 0 0),.val (.slice none 0 0)],129,true⟩ 5 1 kq rfl ?_
 refine V.nilB rlv (0,0) 1 1 ⟨[.row 0 none 0 0,.val (.slice none 0 0)],129,true⟩ 62 2 kq rfl ?_
 refine V.callK [(0,false),(1,false),(2,false)] (cWIns x A ⟨[],none,0,[],none,0⟩ h (by show (0 : Nat) ≤ _; omega) (by show (0 : Nat) ≤ _; omega)) kq kq kq (fun _=>kq) (fun b hb=>?_)
 obtain ⟨bs,q,c,rs,q2,c2⟩:=b
 simp only [List.nil_append] at hb
 rw [← hE] at hb
 have h1 : bs = (cEnc x).1:=congrArg Prod.fst hb
 have h2 : rs = (cEnc x).2:=congrArg Prod.snd hb
 subst h1 h2
 refine V.q ?_
 refine V.drawX [] [] 12 kq ?_
 refine @VX.run _ [] [] 12 _ _ ([] : List (Ent Tryz.prog)) [] kq kq trivial ?_
 refine @VX.bytes _ [] [] 12 _ _ 2 (rowL bsv 0 (cEnc x).1 q c 5 1 true) (cEnc x).1 kq rfl (fun _ _=>rfl) kq ?_
 refine @VX.run _ [] [] 12 _ _ ([] : List (Ent Tryz.prog)) [] kq kq trivial ?_
 refine @VX.stop _ [] [] 12 _ _ kq ?_
 refine V.q ?_
 exact V.retK ((q2,c2) : Option Addr × Nat) [] kq kq kq trivial
theorem xEncRNo (x : In) (A : IA) (hx : x.okL) (h : cFine x = false) : CallsK Tryz.prog 32 [.agg (inV x A)] (stP (lsP x A)) (fun _ : Unit=>True) (fun _=>.tup [.one (.str []),.one (.val (.slice none 0 0)),.one (.int .i64 170)]) (fun _=>noF):=by
 refine CallsK.mk true Tryz.func32 kq kq (fun ρ w=>?_)
 refine V.q ?_
 refine V.callK [(0,false),(1,false),(2,false)] (xCheckR x A hx) kq kq kq (fun _=>kq) (fun _ _=>?_)
 refine V.q ?_
 refine V.known 10 ((bif cFine x then (0 : Int) else 170) != 0) true kq (by rw [h]; rfl) ?_
 refine V.q ?_
 refine V.slotAs 4 (.one (.int .i64 (bif cFine x then 0 else 170))) (.one (.int .i64 170)) kq kq (fun _=>by rw [h]; rfl) ?_
 exact V.z
def lnV (x : In) : RV:=.tup [.one (.int .i64 (bif cFine x then ((cEnc x).1.length : Int) else 0)),.one (.int .i64 (bif cFine x then 0 else 170))]
theorem xLenR (x : In) (A : IA) (hx : x.okL) : CallsK Tryz.prog 35 [.agg (inV x A)] (stP (lsP x A)) (fun _ : Unit=>True) (fun _=>lnV x) (fun _=>noF):=by
 refine CallsK.mk true Tryz.func35 kq kq (fun ρ w=>?_)
 refine V.q ?_
 by_cases h : cFine x = true
 case pos =>
  refine V.callK [(0,false),(1,false),(2,false)] (xEncR x A hx h) kq kq kq (fun _=>kq) (fun _ _=>?_)
  refine V.q ?_
  refine V.slotAs 2 (.one (.int .i64 ((cEnc x).1.length : Int))) (.one (.int .i64 (bif cFine x then ((cEnc x).1.length : Int) else 0))) kq kq (fun _=>by rw [h]; rfl) ?_
  refine V.slotAs 3 (.one (.int .i64 0)) (.one (.int .i64 (bif cFine x then 0 else 170))) kq kq (fun _=>by rw [h]; rfl) ?_
  exact V.z
 case neg =>
  have h : cFine x = false:=by simpa using h
  refine V.callK [(0,false),(1,false),(2,false)] (xEncRNo x A hx h) kq kq kq (fun _=>kq) (fun _ _=>?_)
  refine V.q ?_
  refine V.slotAs 2 (.one (.int .i64 (([] : List UInt8).length : Int))) (.one (.int .i64 (bif cFine x then ((cEnc x).1.length : Int) else 0))) kq kq (fun _=>by rw [h]; rfl) ?_
  refine V.slotAs 3 (.one (.int .i64 170)) (.one (.int .i64 (bif cFine x then 0 else 170))) kq kq (fun _=>by rw [h]; rfl) ?_
  exact V.z
theorem xLen (x : In) (A : IA) (hx : x.okL) : CallsK Tryz.prog 34 [.agg (inV x A)] (stP (glbP :: lsP x A)) (fun _ : Unit=>True) (fun _=>lnV x) (fun _=>noF):=by
 refine CallsK.mk true Tryz.func34 kq kq (fun ρ w=>?_)
 refine V.q ?_
 by_cases h : cFine x = true
 case pos =>
  refine V.callK [(0,false),(1,false),(2,false),(3,false)] (xEncode x A hx h) kq kq kq (fun _=>kq) (fun _ _=>?_)
  refine V.q ?_
  refine V.slotAs 2 (.one (.int .i64 ((cEnc x).1.length : Int))) (.one (.int .i64 (bif cFine x then ((cEnc x).1.length : Int) else 0))) kq kq (fun _=>by rw [h]; rfl) ?_
  refine V.slotAs 3 (.one (.int .i64 0)) (.one (.int .i64 (bif cFine x then 0 else 170))) kq kq (fun _=>by rw [h]; rfl) ?_
  exact V.z
 case neg =>
  have h : cFine x = false:=by simpa using h
  refine V.callK [(0,false),(1,false),(2,false),(3,false)] (xEncodeNo x A hx h) kq kq kq (fun _=>kq) (fun _ _=>?_)
  refine V.q ?_
  refine V.slotAs 2 (.one (.int .i64 (([] : List UInt8).length : Int))) (.one (.int .i64 (bif cFine x then ((cEnc x).1.length : Int) else 0))) kq kq (fun _=>by rw [h]; rfl) ?_
  refine V.slotAs 3 (.one (.int .i64 170)) (.one (.int .i64 (bif cFine x then 0 else 170))) kq kq (fun _=>by rw [h]; rfl) ?_
  exact V.z
end Go.Proofs
end
section
namespace Go.SX
open Go
section
variable {C : Ctx} {ρ : Nat → Nat} {s : St} {a : Act} {w w' : World}
end
end Go.SX
namespace Go.SX
open Go
end Go.SX
end
section
namespace Go.SX
open Go
section
variable {P : Program} {w : World}
end
variable {C : Ctx}
section
variable {ρ : Nat → Nat} {s : St} {a : Act} {w : World}
end
end Go.SX
end
section
namespace Go.Proofs
open Go Go.SX
set_option maxRecDepth 10000
noncomputable def slSt (x : In) (A : IA) (n : Int) (i : Nat) : St :=
 { n:=73,slots:=[(1,.v (.one (.ptr 0 0))),(3,.v (.one (.int .i64 n))),(28,.v (.one (.row 2 A.qy x.y.length A.cy))),(29,.v (.one (.int .i64 (x.y.length : Int)))),(30,.v (.one (.int .i64 (i : Int))))],gs:=[],
    heap:=[(0,seB x A 0)],next:=1,rows:=[(0,rowF x A),(1,rowI x A),(2,rowT x A)],nr:=3,pers:=[],wr:=true,fx:=0 }
noncomputable def slSt2 (x : In) (A : IA) (n : Int) (i : Nat) : St :=
 { n:=73,slots:=[(1,.v (.one (.ptr 0 0))),(3,.v (.one (.int .i64 n))),(41,.v (.one (.row 0 A.qf x.f.length A.cf))),(42,.v (.one (.int .i64 (x.f.length : Int)))),(43,.v (.one (.int .i64 (i : Int))))],gs:=[],
    heap:=[(0,seB x A 0)],next:=1,rows:=[(0,rowF x A),(1,rowI x A),(2,rowT x A)],nr:=3,pers:=[],wr:=true,fx:=0 }
structure SlI where
 n : Int
 i : Nat
theorem wrapL {i n : Nat} (h : i < n) (hn : n ≤ maxLen) : IntKind.i64.wrap ((i : Int) + 1) = ((i + 1 : Nat) : Int):=by
 unfold maxLen at hn
 simp [IntKind.wrap,IntKind.bits,IntKind.signed]
 omega
set_option maxHeartbeats 2000000 in
theorem cSlimF (x : In) (A : IA) (hf : x.f.length ≤ maxLen) (hy : x.y.length ≤ maxLen) : CallsK Tryz.prog 52 [.agg (inV x A)] (stP (lsP x A)) (fun b : Bool=>b = false → x.okL) (fun b=>.v (.one (.sb b))) (fun _=>noF):=by
 refine CallsK.mk true Tryz.func52 kq kq (fun ρ0 w0=>?_)
 refine V.q ?_
 refine V.factRow 0 (rowF x A) kq rfl ?_
 refine V.factRow 1 (rowI x A) kq rfl ?_
 refine V.factRow 2 (rowT x A) kq rfl ?_
 refine V.cellRow 0 24 0 ⟨inV x A,30,true⟩ (rowF x A) kq kq kq ?_
 refine V.cellRow 0 25 1 ⟨inC x (.row 0 A.qf x.f.length A.cf) (.val (.slice A.ql x.l.length A.cl)) (.val (.slice A.qy x.y.length A.cy)),30,true⟩ (rowI x A) kq kq kq ?_
 refine V.cellRow 0 26 2 ⟨inC x (.row 0 A.qf x.f.length A.cf) (.row 1 A.ql x.l.length A.cl) (.val (.slice A.qy x.y.length A.cy)),30,true⟩ (rowT x A) kq kq kq ?_
 refine V.slotRow 28 2 (rowT x A) kq kq kq ?_
 refine V.iter ?_
 refine V.loopTo [1,3,28,29,30] [0] [0,1,2] [] (fun j : SlI=>x.y.length - j.i) (fun j=>slSt x A j.n j.i) (fun j=>j.i ≤ x.y.length) ⟨IntKind.i64.wrap (IntKind.i64.wrap (IntKind.i64.wrap ((x.vs.length : Int) + x.t.s.length) + x.u.s.length) + x.w.s.length),0⟩ kq (Nat.zero_le _) (fun j hj ih=>?_)
 obtain ⟨n,i⟩:=j
 simp only at hj
 refine V.q ?_
 refine V.branch 31 (decide ((i : Int) < (x.y.length : Int))) kq (fun hc=>?_) (fun hc=>?_)
 ·have hlt : i < x.y.length:=by simpa using hc
  have key:=ih ⟨IntKind.i64.wrap (n + ((x.y.getD i ty0).s.length : Int)),i + 1⟩ hlt (by simp only; omega)
  refine V.runT [] [(0 : Int) ≤ i ∧ (i : Int) < x.y.length] kq kq ⟨by omega,by omega⟩ ?_
  refine V.slotAs 30 (.one (.int .i64 (IntKind.i64.wrap ((i : Int) + 1)))) (.one (.int .i64 ((i + 1 : Nat) : Int))) kq kq (fun _=>by rw [wrapL hlt hy]) ?_
  refine V.iter ?_
  exact V.back [1,3,28,29,30] [0] [0,1,2] [] key kq kq
 ·refine V.q ?_
  refine V.iter ?_
  refine V.loopTo [1,3,41,42,43] [0] [0,1,2] [] (fun j : SlI=>x.f.length - j.i) (fun j=>slSt2 x A j.n j.i) (fun j=>j.i ≤ x.f.length) ⟨n,0⟩ kq (Nat.zero_le _) (fun j hj ih=>?_)
  obtain ⟨n,i⟩:=j
  simp only at hj
  refine V.q ?_
  refine V.branch 44 (decide ((i : Int) < (x.f.length : Int))) kq (fun hc=>?_) (fun hc=>?_)
  ·have hlt : i < x.f.length:=by simpa using hc
   have key:=ih ⟨IntKind.i64.wrap (n + ((x.f.getD i fm0).s.length : Int)),i + 1⟩ hlt (by simp only; omega)
   refine V.runT [] [(0 : Int) ≤ i ∧ (i : Int) < x.f.length] kq kq ⟨by omega,by omega⟩ ?_
   refine V.slotAs 43 (.one (.int .i64 (IntKind.i64.wrap ((i : Int) + 1)))) (.one (.int .i64 ((i + 1 : Nat) : Int))) kq kq (fun _=>by rw [wrapL hlt hf]) ?_
   refine V.iter ?_
   exact V.back [1,3,41,42,43] [0] [0,1,2] [] key kq kq
  ·refine V.q ?_
   exact V.retK (decide ((x.f.length : Int) > 20) || decide ((x.l.length : Int) > 20) || decide ((x.y.length : Int) > 20) || decide (n > 20000) : Bool) [] kq kq kq (fun h=>by
    simp only [Bool.or_eq_false_iff,decide_eq_false_iff_not] at h
    exact ⟨by omega,by omega,by omega⟩)
def slF (x : In) (A : IA) (ps : List Pers) : St:={ n:=0,slots:=[],gs:=[],heap:=[(0,⟨inV x A,30,true⟩)],next:=1,rows:=[],nr:=0,pers:=ps,wr:=false }
theorem cSlim88 (x : In) (A : IA) (hf : x.f.length ≤ maxLen) (hy : x.y.length ≤ maxLen) : CallsK Tryz.prog 88 [.one (.sli 0 1 1),.one (.fn 52 [])] (slF x A (lsP x A)) (fun b : Bool=>b = false → x.okL) (fun b=>.v (.one (.int .i64 (bif b then 0 else -1)))) (fun _=>slF x A []):=by
 refine CallsK.mk true Tryz.func88 kq kq (fun ρ0 w0=>?_)
 refine V.runC [] 2 [] kq kq trivial ?_
 refine V.runT [] [(0 : Int) ≤ 0 ∧ (0 : Int) < ((1 : Nat) : Int)] kq kq ⟨by decide,by decide⟩ ?_
 refine V.callK [(0,false),(1,false),(2,false)] (cSlimF x A hf hy) kq kq kq (fun _=>kq) (fun b hb=>?_)
 refine V.q ?_
 refine V.branch 16 b kq (fun hh=>?_) (fun hh=>?_)
 ·subst hh
  refine V.q ?_
  exact V.retK (true : Bool) [] kq kq kq hb
 ·subst hh
  refine V.runC [] 5 [] kq kq trivial ?_
  exact V.retK (false : Bool) [] kq kq kq hb
theorem cSlim51 (x : In) (A : IA) (hf : x.f.length ≤ maxLen) (hy : x.y.length ≤ maxLen) : CallsK Tryz.prog 51 [.one (.sli 0 1 1),.one (.fn 52 [])] (slF x A (lsP x A)) (fun b : Bool=>b = false → x.okL) (fun b=>.v (.one (.sb (decide ((bif b then (0 : Int) else -1) ≥ 0))))) (fun _=>slF x A []):=by
 refine CallsK.mk true Tryz.func51 kq kq (fun ρ0 w0=>?_)
 refine V.q ?_
 refine V.callK [(0,false),(1,false),(2,false)] (cSlim88 x A hf hy) kq kq kq (fun _=>kq) (fun b hb=>?_)
 refine V.q ?_
 exact V.retK (b : Bool) [] kq kq kq hb
theorem cSlim (x : In) (A : IA) (hf : x.f.length ≤ maxLen) (hy : x.y.length ≤ maxLen) : CallsK Tryz.prog 15 [.one (.sli 0 1 1)] (slF x A (lsP x A)) (fun b : Bool=>b = true → x.okL) (fun b=>.v (.one (.sb b))) (fun _=>slF x A []):=by
 refine CallsK.mk true Tryz.func15 kq kq (fun ρ0 w0=>?_)
 refine V.q ?_
 refine V.callK [(0,false),(1,false),(2,false)] (cSlim51 x A hf hy) kq kq kq (fun _=>kq) (fun b hb=>?_)
 refine V.q ?_
 cases b
 ·refine V.slotAs 2 (.one (.sb (!(decide ((bif false then (0 : Int) else -1) ≥ 0))))) (.one (.sb true)) kq kq (fun _=>rfl) ?_
  exact V.retK (true : Bool) [] kq kq kq (fun _=>hb rfl)
 ·refine V.slotAs 2 (.one (.sb (!(decide ((bif true then (0 : Int) else -1) ≥ 0))))) (.one (.sb false)) kq kq (fun _=>rfl) ?_
  exact V.retK (false : Bool) [] kq kq kq (fun h=>by cases h)
theorem blk_row {α : Type} (f : α → List SV) (d : α) (l : List α) (g : Nat) (e : TypeId) (sz : Nat) (hf : ∀ x,(f x).length = sz) (hpl : ∀ x,∀ y ∈ f x,y.plain) (hm : l.length ≤ maxLen) :
  (∀ k,(rowP (rowL f d l (some ⟨g,0,none⟩) l.length e sz false)).D k → ∃ q ∈ [blkP g (l.flatMap f) e],q.D k) ∧ (∀ w,(∀ q ∈ [blkP g (l.flatMap f) e],q.φ w) → (rowP (rowL f d l (some ⟨g,0,none⟩) l.length e sz false)).φ w) :=
 ⟨fun k hk=>⟨_,List.mem_singleton.2 rfl,by
  obtain ⟨a,h1,h2,_⟩:=hk
  have h1' : (some ⟨g,0,none⟩ : Option Addr) = some a:=h1
  cases h1'
  exact h2.symm⟩,fun w hw=>rowP_of_blk hf hpl hm w (hw _ (List.mem_singleton.2 rfl))⟩
def pastL : List Item → List Item
 | .inLoop _ :: k=>k
 | _ :: k=>pastL k
 | []=>[]
noncomputable def snT2 : List Item:=skipU 100 (pastL (skipU 100 [.code (bodyOf Tryz.f14)]))
noncomputable def snSt2 (n0 : Nat) (S : Nat → Prop) (g : Nat) : St :=
 { n:=242,slots:=[(11,.v (.one (.ptr 0 0))),(101,.v (.one (.int .i64 4))),(102,.v (.one (.int .i64 4)))],gs:=[],heap:=[(0,⟨inV sx4 (sA4 g),30,true⟩)],next:=1,rows:=[],nr:=0,
    pers:=[newP n0 S (rowP (rowI sx4 (sA4 g))),newP n0 S (rowP (rowT zeroI IA0)),newP n0 S (rowP (rowI zeroI IA0)),newP n0 S (rowP (rowF zeroI IA0)),glbP],wr:=true,fx:=0 }
theorem rlv_plain (x : Int × Int) : ∀ y ∈ rlv x,y.plain:=fun y hy=>by
 simp only [rlv,List.mem_cons,List.not_mem_nil,or_false] at hy
 rcases hy with rfl | rfl <;> trivial
theorem e3_okL : (emptyI 3).okL:=⟨by decide,by decide,by decide⟩
theorem e0_okL : (emptyI 0).okL:=⟨by decide,by decide,by decide⟩
noncomputable def aBlank5 : Con Tryz.prog:=Con.auto Tryz.func49 true [] [] kq kq
def blankC (op : Int) : List SV:=(inV (emptyI op) IA0).map fun y=>match y with
 | .sb b=>.bool b
 | y=>y
set_option maxHeartbeats 4000000 in
theorem sane_rest (ρ0 : Nat → Nat) (w0 : World) (g : Nat) : V ⟨Tryz.prog,14,GivesK ρ0 glbF (fun _ : Unit=>True) (fun _=>.v (.one (.sb true))) (fun _=>noF) w0,touch ρ0 glbF,w0,ρ0,none⟩ ⟨snT2,snSt2 w0.heap.size (touch ρ0 glbF) g⟩:=by
 refine V.q ?_
 refine V.known 103 (decide ((4 : Int) < 4)) false kq (by decide) ?_
 refine V.q ?_
 refine V.callK [(4,false),(3,true),(0,true),(1,true)] (xEncode sx4 (sA4 g) sx4_okL sx4_fine) kq kq kq (fun _=>kq) (fun qc4 _=>?_)
 refine V.q ?_
 refine V.freeze 0 (rowL rlv (0,0) [(2,5)] qc4.1 qc4.2 62 2 true) kq kq ?_
 refine V.callK [] (xReadNumber [128,0] 0 (by decide)) kq kq kq (fun _=>kq) (fun _ _=>?_)
 refine V.q ?_
 refine V.callK [(5,false)] (xParseNo [83,84,69,80,32,48,49,48] [[83,84,69,80],[48,49,48]] kq (by decide) kq (by decide) (pok_of (o0:=1) kq kq) kq) kq kq kq (fun _=>kq) (fun _ _=>?_)
 refine V.q ?_
 refine V.callK [(5,false)] xAsm kq kq kq (fun _=>kq) (fun qc5 _=>?_)
 refine V.q ?_
 refine V.callK [(6,false),(0,true)] (xPlaces [] ⟨asB,qc5.1,0,qc5.2⟩ rfl (by decide) (by show 7 ≤ 100000000; decide) 0 4 ([asX1,asX2],[0,2,7]) (asV _ _)) kq kq kq (fun _=>kq) (fun qc6 _=>?_)
 refine V.q ?_
 refine V.settle 205 true ((0 : Int) == 0) kq (by decide) ?_
 refine V.q ?_
 refine V.absB 3 ⟨[.int .i64 2,.int .i64 5],62,true⟩ kq kq (fun _=>kq) (fun g1=>?_)
 refine V.persNew [(0,true)] [blkP g1 [.int .i64 2,.int .i64 5] 62] (rowP (rowL rlv (0,0) [(2,5)] (some ⟨g1,0,none⟩) 1 62 2 false)) kq kq (blk_row rlv (0,0) [(2,5)] g1 62 2 (fun _=>rfl) rlv_plain (by decide)).1 (blk_row rlv (0,0) [(2,5)] g1 62 2 (fun _=>rfl) rlv_plain (by decide)).2 (rowP_stab _) ?_
 refine V.callK [(4,true),(0,true)] (cEqR [(2,5)] [(2,5)] qc4.1 (some ⟨g1,0,none⟩) qc4.2 1 (by decide)) kq kq kq (fun _=>kq) (fun _ _=>?_)
 refine V.q ?_
 refine V.settle 227 true true kq rfl ?_
 refine V.q ?_
 refine V.absB 3 ⟨[.int .i64 0,.int .i64 2,.int .i64 7],3,true⟩ kq kq (fun _=>kq) (fun g2=>?_)
 refine V.persNew [(0,true)] [blkP g2 [.int .i64 0,.int .i64 2,.int .i64 7] 3] (rowP (rowL intv 0 [0,2,7] (some ⟨g2,0,none⟩) 3 3 1 false)) kq kq (blk_row intv 0 [0,2,7] g2 3 1 (fun _=>rfl) intv_plain (by decide)).1 (blk_row intv 0 [0,2,7] g2 3 1 (fun _=>rfl) intv_plain (by decide)).2 (rowP_stab _) ?_
 refine V.callK [(4,true),(0,true)] (cEqI [0,2,7] [0,2,7] qc6.1 (some ⟨g2,0,none⟩) qc6.2 3 (by decide)) kq kq kq (fun _=>kq) (fun _ _=>?_)
 refine V.q ?_
 refine V.settle 232 true true kq rfl ?_
 refine V.runT [⟨aBlank5,[]⟩] [] kq kq trivial ?_
 refine V.slotAs 233 (.agg (blankC 3)) (.agg (inV (emptyI 3) IA0)) kq kq (fun _=>rfl) ?_
 refine V.callK [(11,false),(10,true),(9,true),(8,true)] (xCheck (emptyI 3) IA0 e3_okL) kq kq kq (fun _=>kq) (fun _ _=>?_)
 refine V.q ?_
 refine V.settle 237 true true kq rfl ?_
 refine V.runT [⟨aBlank5,[]⟩] [] kq kq trivial ?_
 refine V.slotAs 238 (.agg (blankC 0)) (.agg (inV (emptyI 0) IA0)) kq kq (fun _=>rfl) ?_
 refine V.callK [(11,false),(10,true),(9,true),(8,true)] (xCheck (emptyI 0) IA0 e0_okL) kq kq kq (fun _=>kq) (fun _ _=>?_)
 refine V.q ?_
 exact V.z
def snT : List (Int × List UInt8):=[(0,[0]),(-1,[1]),(1,[2]),(63,[126]),(64,[128,1]),(-64,[127]),(-65,[129,1])]
def snL : Nat → List (Int × List UInt8) → List MapEntry
 | _,[]=>[]
 | i,p :: l=>{ key:=.int .i64 p.1,val:=.string ⟨p.2.toArray⟩,born:=i } :: snL (i + 1) l
def snEs : Array MapEntry:=(snL 0 snT).toArray
theorem snL_mem : ∀ {l : List (Int × List UInt8)} {i : Nat} {e : MapEntry},e ∈ snL i l → ∃ p ∈ l,e.key = .int .i64 p.1 ∧ e.val = .string ⟨p.2.toArray⟩ ∧ e.born < i + l.length
 | [],i,e,h=>by simp [snL] at h
 | p :: l,i,e,h=>by
  simp only [snL,List.mem_cons] at h
  rcases h with rfl | h
  ·exact ⟨p,List.mem_cons_self ..,rfl,rfl,by simp⟩
  ·obtain ⟨p',h1,h2,h3,h4⟩:=snL_mem h
   exact ⟨p',List.mem_cons_of_mem _ h1,h2,h3,by simp only [List.length_cons]; omega⟩
theorem snT_num (p : Int × List UInt8) (h : p ∈ snT) : isNum p.1 = true ∧ encN p.1 = p.2 ∧ rnV p.2 0 = .tup [.one (.int .i64 p.1),.one (.int .i64 (p.2.length : Int)),.one (.int .i64 0)] ∧ p.2.length ≤ 1000000000:=by
 unfold snT at h
 simp only [List.mem_cons,List.not_mem_nil,or_false] at h
 rcases h with rfl | rfl | rfl | rfl | rfl | rfl | rfl <;> exact ⟨by decide,by decide,kq,by decide⟩
theorem snN (p : Int × List UInt8) (h : p ∈ snT) : CallsK Tryz.prog 16 [.one (.int .i64 p.1)] noF (fun _ : Unit=>True) (fun _=>.tup [.one (.str p.2),.one (.int .i64 0)]) (fun _=>noF):=by
 have h1:=xNumber p.1
 rw [(snT_num p h).1,(snT_num p h).2.1] at h1
 exact h1
theorem snR (p : Int × List UInt8) (h : p ∈ snT) : CallsK Tryz.prog 18 [.one (.str p.2),.one (.int .i64 0)] noF (fun _ : Unit=>True) (fun _=>.tup [.one (.int .i64 p.1),.one (.int .i64 (p.2.length : Int)),.one (.int .i64 0)]) (fun _=>noF):=by
 have h1:=xReadNumber p.2 0 (snT_num p h).2.2.2
 rw [(snT_num p h).2.2.1] at h1
 exact h1
def snSt (n0 : Nat) (S : Nat → Prop) (gL it : Nat) (seen : Array Nat) : St :=
 { n:=242,slots:=[(39,.v (.one (.val (.pointer (some ⟨it,0,none⟩)))))],gs:=[],heap:=[],next:=0,
    rows:=[(0,objRow it (.mapIter (some gL) 7 seen 7))],nr:=1,pers:=[newP n0 S (objP gL (.map snEs 7)),glbP],wr:=true,fx:=0 }
theorem sn_born : ∀ x ∈ snEs.toList,x.born < 7:=fun e he=>by
 obtain ⟨p,_,_,_,h⟩:=snL_mem (l:=snT) (i:=0) he
 simpa [snT] using h
theorem sn_nodup : (snEs.toList.map (·.born)).Nodup:=by
 show [0,1,2,3,4,5,6].Nodup
 decide
noncomputable def aBlank : Con Tryz.prog:=Con.auto Tryz.func49 true [] [] kq kq
theorem sx4_l (g : Nat) : (∀ k,(rowP (rowI sx4 (sA4 g))).D k → ∃ q ∈ [blkP g [.int .i64 2] 3],q.D k) ∧ (∀ w,(∀ q ∈ [blkP g [.int .i64 2] 3],q.φ w) → (rowP (rowI sx4 (sA4 g))).φ w) :=
 ⟨fun k hk=>⟨_,List.mem_singleton.2 rfl,by
  obtain ⟨a,h1,h2,_⟩:=hk
  have h1' : (some ⟨g,0,none⟩ : Option Addr) = some a:=h1
  cases h1'
  exact h2.symm⟩,fun w hw=>rowP_of_blk (f:=intv) (d:=0) (l:=[2]) (e:=3) (sz:=1) (fun _=>rfl) (fun x y hy=>by rw [List.mem_singleton.1 hy]; trivial) (by decide) w (hw _ (List.mem_singleton.2 rfl))⟩
set_option maxHeartbeats 4000000 in
theorem sane_ : CallsK Tryz.prog 14 [] glbF (fun _ : Unit=>True) (fun _=>.v (.one (.sb true))) (fun _=>noF):=by
 refine CallsK.mk true Tryz.func14 kq kq (fun ρ0 w0=>?_)
 refine V.q ?_
 refine V.mkMap 86 kq (fun _=>kq) (fun gL=>?_)
 refine V.runM [] 0 7 [] (List.replicate 7 (gL,gL)) kq kq trivial (fun p hp=>by rw [List.eq_of_mem_replicate hp]) ?_
 refine V.q ?_
 refine V.freezeObj 0 gL (.map snEs 7) kq ?_
 refine V.range 86 3 9 gL snEs 7 kq kq (fun ρ a w hS=>hS.objN (n0:=w0.heap.size) (S:=touch ρ0 glbF) 0 kq) (fun _=>kq) (fun it=>?_)
 refine V.q ?_
 refine V.iter ?_
 refine V.loopTo [39] [] [1] [true,true] (fun seen : Array Nat=>(leftOf snEs seen).size) (snSt w0.heap.size (touch ρ0 glbF) gL it) (fun _=>True) #[] kq trivial (fun seen _ ih=>?_)
 refine V.q ?_
 refine V.next it 0 gL 7 7 7 seen snEs kq kq (fun ρ a w hS=>hS.objN (n0:=w0.heap.size) (S:=touch ρ0 glbF) 0 kq) sn_born (Nat.le_refl _) kq (fun e he=>kq) (fun hsz=>?_) (fun e he=>?_)
 ·refine V.runT [⟨aBlank,[]⟩] [] kq kq trivial ?_
  refine V.soft 5 ?_
  refine V.soft 3 ?_
  refine V.absB 4 ⟨[.int .i64 2],3,true⟩ kq kq (fun _=>kq) (fun g=>?_)
  refine V.persNew [] [] (rowP (rowF zeroI IA0)) kq kq (fun k hk=>absurd hk ((row_none (R:=rowF zeroI IA0) rfl rfl rfl).1 k)) (fun w _=>(row_none (R:=rowF zeroI IA0) rfl rfl rfl).2 w) (rowP_stab _) ?_
  refine V.persNew [] [] (rowP (rowI zeroI IA0)) kq kq (fun k hk=>absurd hk ((row_none (R:=rowI zeroI IA0) rfl rfl rfl).1 k)) (fun w _=>(row_none (R:=rowI zeroI IA0) rfl rfl rfl).2 w) (rowP_stab _) ?_
  refine V.persNew [] [] (rowP (rowT zeroI IA0)) kq kq (fun k hk=>absurd hk ((row_none (R:=rowT zeroI IA0) rfl rfl rfl).1 k)) (fun w _=>(row_none (R:=rowT zeroI IA0) rfl rfl rfl).2 w) (rowP_stab _) ?_
  refine V.persNew [(3,true)] [blkP g [.int .i64 2] 3] (rowP (rowI sx4 (sA4 g))) kq kq (sx4_l g).1 (sx4_l g).2 (rowP_stab _) ?_
  refine V.iter ?_
  refine V.q ?_
  refine V.known 103 (decide ((0 : Int) < 4)) true kq (by decide) ?_
  refine V.runT [] [(0 : Int) ≤ 0 ∧ (0 : Int) < 4] kq kq ⟨by decide,by decide⟩ ?_
  refine V.callK [(6,false),(3,true),(2,true),(1,true)] (xEncode sx1 IA0 sx1_okL sx1_fine) kq kq kq (fun _=>kq) (fun qc0 _=>?_)
  refine V.q ?_
  refine V.freeze 1 (rowL rlv (0,0) [] qc0.1 qc0.2 62 2 true) kq kq ?_
  refine V.callK [(7,false),(0,true)] (xDecode [] ⟨[3,8,2],qc0.1,0,qc0.2⟩ rfl (by decide) 0 ⟨by show 3 ≤ 1000000000; decide,Nat.zero_le _⟩ kq) kq kq kq (fun _=>kq) (fun yd0 hd0=>?_)
  obtain ⟨d0,D0⟩:=yd0
  have ed0 : d0 = sx1:=hd0.trans (sx1_dec qc0.1 qc0.2)
  subst ed0
  refine V.q ?_
  refine V.callK [(10,false),(7,true),(6,true),(5,true)] (xText sx1 IA0 sx1_okL 3 kq kq kq sx1_fine) kq kq kq (fun _=>kq) (fun _ _=>?_)
  refine V.q ?_
  refine V.callK [(10,false)] (xParse [77,79,86,69,32,114,51,32,114,48] [[77,79,86,69],[114,51],[114,48]] sx1 kq (by decide) kq (by decide) (pok_of sx1_find sx1_pok) sx1_read) kq kq kq (fun _=>kq) (fun yp0 hp0=>?_)
  obtain ⟨p0,P0⟩:=yp0
  have ep0 : p0 = sx1:=hp0
  subst ep0
  refine V.persAs [(10,true)] [rowP (rowF sx1 IA0)] (rowP (rowF sx1 IA0)) kq (fun k hk=>⟨_,List.mem_singleton.2 rfl,hk⟩) (fun w hw=>hw _ (List.mem_singleton.2 rfl)) (rowP_stab _) ?_
  refine V.persAs [(10,true)] [rowP (rowI sx1 IA0)] (rowP (rowI sx1 IA0)) kq (fun k hk=>⟨_,List.mem_singleton.2 rfl,hk⟩) (fun w hw=>hw _ (List.mem_singleton.2 rfl)) (rowP_stab _) ?_
  refine V.persAs [(10,true)] [rowP (rowT sx1 IA0)] (rowP (rowT sx1 IA0)) kq (fun k hk=>⟨_,List.mem_singleton.2 rfl,hk⟩) (fun w hw=>hw _ (List.mem_singleton.2 rfl)) (rowP_stab _) ?_
  refine V.persAs [(6,true)] [rowP (rowF sx1 D0)] (rowP (rowF sx1 D0)) kq (fun k hk=>⟨_,List.mem_singleton.2 rfl,hk⟩) (fun w hw=>hw _ (List.mem_singleton.2 rfl)) (rowP_stab _) ?_
  refine V.persAs [(8,true)] [rowP (rowI sx1 D0)] (rowP (rowI sx1 D0)) kq (fun k hk=>⟨_,List.mem_singleton.2 rfl,hk⟩) (fun w hw=>hw _ (List.mem_singleton.2 rfl)) (rowP_stab _) ?_
  refine V.persAs [(10,true)] [rowP (rowT sx1 D0)] (rowP (rowT sx1 D0)) kq (fun k hk=>⟨_,List.mem_singleton.2 rfl,hk⟩) (fun w hw=>hw _ (List.mem_singleton.2 rfl)) (rowP_stab _) ?_
  refine V.persAs [(6,true)] [rowP (rowF sx1 P0)] (rowP (rowF sx1 P0)) kq (fun k hk=>⟨_,List.mem_singleton.2 rfl,hk⟩) (fun w hw=>hw _ (List.mem_singleton.2 rfl)) (rowP_stab _) ?_
  refine V.persAs [(8,true)] [rowP (rowI sx1 P0)] (rowP (rowI sx1 P0)) kq (fun k hk=>⟨_,List.mem_singleton.2 rfl,hk⟩) (fun w hw=>hw _ (List.mem_singleton.2 rfl)) (rowP_stab _) ?_
  refine V.persAs [(10,true)] [rowP (rowT sx1 P0)] (rowP (rowT sx1 P0)) kq (fun k hk=>⟨_,List.mem_singleton.2 rfl,hk⟩) (fun w hw=>hw _ (List.mem_singleton.2 rfl)) (rowP_stab _) ?_
  refine V.runT [⟨sSame2 sx1 IA0 P0 D0 sx1_okL,[17,18,19,20,21,22,14,15,16]⟩] [((false = false) → (([.agg (inV sx1 D0),.agg (inV sx1 IA0)] : List CV) = [.agg (inV sx1 D0),.agg (inV sx1 IA0)] ∨ ([.agg (inV sx1 D0),.agg (inV sx1 IA0)] : List CV) = [.agg (inV sx1 P0),.agg (inV sx1 IA0)])),((false = false) → (([.agg (inV sx1 P0),.agg (inV sx1 IA0)] : List CV) = [.agg (inV sx1 D0),.agg (inV sx1 IA0)] ∨ ([.agg (inV sx1 P0),.agg (inV sx1 IA0)] : List CV) = [.agg (inV sx1 P0),.agg (inV sx1 IA0)]))] kq kq ⟨fun _=>.inl rfl,fun _=>.inr rfl⟩ ?_
  refine V.known 176 false false kq rfl ?_
  refine V.q ?_
  refine V.iter ?_
  refine V.ungrd ?_
  refine V.q ?_
  refine V.known 103 (decide ((1 : Int) < 4)) true kq (by decide) ?_
  refine V.runT [] [(0 : Int) ≤ 1 ∧ (1 : Int) < 4] kq kq ⟨by decide,by decide⟩ ?_
  refine V.callK [(22,false),(19,true),(18,true),(17,true)] (xEncode sx2 IA0 sx2_okL sx2_fine) kq kq kq (fun _=>kq) (fun qc1 _=>?_)
  refine V.q ?_
  refine V.freeze 2 (rowL rlv (0,0) [] qc1.1 qc1.2 62 2 true) kq kq ?_
  refine V.callK [(23,false),(0,true)] (xDecode [] ⟨[14,0,0,1,2],qc1.1,0,qc1.2⟩ rfl (by decide) 0 ⟨by show 5 ≤ 1000000000; decide,Nat.zero_le _⟩ kq) kq kq kq (fun _=>kq) (fun yd1 hd1=>?_)
  obtain ⟨d1,D1⟩:=yd1
  have ed1 : d1 = sx2:=hd1.trans (sx2_dec qc1.1 qc1.2)
  subst ed1
  refine V.q ?_
  refine V.callK [(26,false),(23,true),(22,true),(21,true)] (xText sx2 IA0 sx2_okL 14 kq kq kq sx2_fine) kq kq kq (fun _=>kq) (fun _ _=>?_)
  refine V.q ?_
  refine V.callK [(26,false)] (xParse [74,85,77,80,32,64,50,53,56] [[74,85,77,80],[64,50,53,56]] sx2 kq (by decide) kq (by decide) (pok_of sx2_find sx2_pok) sx2_read) kq kq kq (fun _=>kq) (fun yp1 hp1=>?_)
  obtain ⟨p1,P1⟩:=yp1
  have ep1 : p1 = sx2:=hp1
  subst ep1
  refine V.persAs [(26,true)] [rowP (rowF sx2 IA0)] (rowP (rowF sx2 IA0)) kq (fun k hk=>⟨_,List.mem_singleton.2 rfl,hk⟩) (fun w hw=>hw _ (List.mem_singleton.2 rfl)) (rowP_stab _) ?_
  refine V.persAs [(26,true)] [rowP (rowI sx2 IA0)] (rowP (rowI sx2 IA0)) kq (fun k hk=>⟨_,List.mem_singleton.2 rfl,hk⟩) (fun w hw=>hw _ (List.mem_singleton.2 rfl)) (rowP_stab _) ?_
  refine V.persAs [(26,true)] [rowP (rowT sx2 IA0)] (rowP (rowT sx2 IA0)) kq (fun k hk=>⟨_,List.mem_singleton.2 rfl,hk⟩) (fun w hw=>hw _ (List.mem_singleton.2 rfl)) (rowP_stab _) ?_
  refine V.persAs [(6,true)] [rowP (rowF sx2 D1)] (rowP (rowF sx2 D1)) kq (fun k hk=>⟨_,List.mem_singleton.2 rfl,hk⟩) (fun w hw=>hw _ (List.mem_singleton.2 rfl)) (rowP_stab _) ?_
  refine V.persAs [(8,true)] [rowP (rowI sx2 D1)] (rowP (rowI sx2 D1)) kq (fun k hk=>⟨_,List.mem_singleton.2 rfl,hk⟩) (fun w hw=>hw _ (List.mem_singleton.2 rfl)) (rowP_stab _) ?_
  refine V.persAs [(10,true)] [rowP (rowT sx2 D1)] (rowP (rowT sx2 D1)) kq (fun k hk=>⟨_,List.mem_singleton.2 rfl,hk⟩) (fun w hw=>hw _ (List.mem_singleton.2 rfl)) (rowP_stab _) ?_
  refine V.persAs [(6,true)] [rowP (rowF sx2 P1)] (rowP (rowF sx2 P1)) kq (fun k hk=>⟨_,List.mem_singleton.2 rfl,hk⟩) (fun w hw=>hw _ (List.mem_singleton.2 rfl)) (rowP_stab _) ?_
  refine V.persAs [(8,true)] [rowP (rowI sx2 P1)] (rowP (rowI sx2 P1)) kq (fun k hk=>⟨_,List.mem_singleton.2 rfl,hk⟩) (fun w hw=>hw _ (List.mem_singleton.2 rfl)) (rowP_stab _) ?_
  refine V.persAs [(10,true)] [rowP (rowT sx2 P1)] (rowP (rowT sx2 P1)) kq (fun k hk=>⟨_,List.mem_singleton.2 rfl,hk⟩) (fun w hw=>hw _ (List.mem_singleton.2 rfl)) (rowP_stab _) ?_
  refine V.runT [⟨sSame2 sx2 IA0 P1 D1 sx2_okL,[33,34,35,36,37,38,30,31,32]⟩] [((false = false) → (([.agg (inV sx2 D1),.agg (inV sx2 IA0)] : List CV) = [.agg (inV sx2 D1),.agg (inV sx2 IA0)] ∨ ([.agg (inV sx2 D1),.agg (inV sx2 IA0)] : List CV) = [.agg (inV sx2 P1),.agg (inV sx2 IA0)])),((false = false) → (([.agg (inV sx2 P1),.agg (inV sx2 IA0)] : List CV) = [.agg (inV sx2 D1),.agg (inV sx2 IA0)] ∨ ([.agg (inV sx2 P1),.agg (inV sx2 IA0)] : List CV) = [.agg (inV sx2 P1),.agg (inV sx2 IA0)]))] kq kq ⟨fun _=>.inl rfl,fun _=>.inr rfl⟩ ?_
  refine V.known 176 false false kq rfl ?_
  refine V.q ?_
  refine V.iter ?_
  refine V.ungrd ?_
  refine V.q ?_
  refine V.known 103 (decide ((2 : Int) < 4)) true kq (by decide) ?_
  refine V.runT [] [(0 : Int) ≤ 2 ∧ (2 : Int) < 4] kq kq ⟨by decide,by decide⟩ ?_
  refine V.callK [(38,false),(35,true),(34,true),(33,true)] (xEncode sx3 IA0 sx3_okL sx3_fine) kq kq kq (fun _=>kq) (fun qc2 _=>?_)
  refine V.q ?_
  refine V.freeze 3 (rowL rlv (0,0) [] qc2.1 qc2.2 62 2 true) kq kq ?_
  refine V.callK [(39,false),(0,true)] (xDecode [] ⟨[8,2,4,4,30,0,0,0],qc2.1,0,qc2.2⟩ rfl (by decide) 0 ⟨by show 8 ≤ 1000000000; decide,Nat.zero_le _⟩ kq) kq kq kq (fun _=>kq) (fun yd2 hd2=>?_)
  obtain ⟨d2,D2⟩:=yd2
  have ed2 : d2 = sx3:=hd2.trans (sx3_dec qc2.1 qc2.2)
  subst ed2
  refine V.q ?_
  refine V.callK [(42,false),(39,true),(38,true),(37,true)] (xText sx3 IA0 sx3_okL 8 kq kq kq sx3_fine) kq kq kq (fun _=>kq) (fun _ _=>?_)
  refine V.q ?_
  refine V.callK [(42,false)] (xParse [76,79,65,68,32,114,48,32,114,49,32,50,44,49,53,44,48,44,48,44,61] [[76,79,65,68],[114,48],[114,49],[50,44,49,53,44,48,44,48,44,61]] sx3 kq (by decide) kq (by decide) (pok_of sx3_find sx3_pok) sx3_read) kq kq kq (fun _=>kq) (fun yp2 hp2=>?_)
  obtain ⟨p2,P2⟩:=yp2
  have ep2 : p2 = sx3:=hp2
  subst ep2
  refine V.persAs [(42,true)] [rowP (rowF sx3 IA0)] (rowP (rowF sx3 IA0)) kq (fun k hk=>⟨_,List.mem_singleton.2 rfl,hk⟩) (fun w hw=>hw _ (List.mem_singleton.2 rfl)) (rowP_stab _) ?_
  refine V.persAs [(42,true)] [rowP (rowI sx3 IA0)] (rowP (rowI sx3 IA0)) kq (fun k hk=>⟨_,List.mem_singleton.2 rfl,hk⟩) (fun w hw=>hw _ (List.mem_singleton.2 rfl)) (rowP_stab _) ?_
  refine V.persAs [(42,true)] [rowP (rowT sx3 IA0)] (rowP (rowT sx3 IA0)) kq (fun k hk=>⟨_,List.mem_singleton.2 rfl,hk⟩) (fun w hw=>hw _ (List.mem_singleton.2 rfl)) (rowP_stab _) ?_
  refine V.persAs [(6,true)] [rowP (rowF sx3 D2)] (rowP (rowF sx3 D2)) kq (fun k hk=>⟨_,List.mem_singleton.2 rfl,hk⟩) (fun w hw=>hw _ (List.mem_singleton.2 rfl)) (rowP_stab _) ?_
  refine V.persAs [(8,true)] [rowP (rowI sx3 D2)] (rowP (rowI sx3 D2)) kq (fun k hk=>⟨_,List.mem_singleton.2 rfl,hk⟩) (fun w hw=>hw _ (List.mem_singleton.2 rfl)) (rowP_stab _) ?_
  refine V.persAs [(10,true)] [rowP (rowT sx3 D2)] (rowP (rowT sx3 D2)) kq (fun k hk=>⟨_,List.mem_singleton.2 rfl,hk⟩) (fun w hw=>hw _ (List.mem_singleton.2 rfl)) (rowP_stab _) ?_
  refine V.persAs [(6,true)] [rowP (rowF sx3 P2)] (rowP (rowF sx3 P2)) kq (fun k hk=>⟨_,List.mem_singleton.2 rfl,hk⟩) (fun w hw=>hw _ (List.mem_singleton.2 rfl)) (rowP_stab _) ?_
  refine V.persAs [(8,true)] [rowP (rowI sx3 P2)] (rowP (rowI sx3 P2)) kq (fun k hk=>⟨_,List.mem_singleton.2 rfl,hk⟩) (fun w hw=>hw _ (List.mem_singleton.2 rfl)) (rowP_stab _) ?_
  refine V.persAs [(10,true)] [rowP (rowT sx3 P2)] (rowP (rowT sx3 P2)) kq (fun k hk=>⟨_,List.mem_singleton.2 rfl,hk⟩) (fun w hw=>hw _ (List.mem_singleton.2 rfl)) (rowP_stab _) ?_
  refine V.runT [⟨sSame2 sx3 IA0 P2 D2 sx3_okL,[49,50,51,52,53,54,46,47,48]⟩] [((false = false) → (([.agg (inV sx3 D2),.agg (inV sx3 IA0)] : List CV) = [.agg (inV sx3 D2),.agg (inV sx3 IA0)] ∨ ([.agg (inV sx3 D2),.agg (inV sx3 IA0)] : List CV) = [.agg (inV sx3 P2),.agg (inV sx3 IA0)])),((false = false) → (([.agg (inV sx3 P2),.agg (inV sx3 IA0)] : List CV) = [.agg (inV sx3 D2),.agg (inV sx3 IA0)] ∨ ([.agg (inV sx3 P2),.agg (inV sx3 IA0)] : List CV) = [.agg (inV sx3 P2),.agg (inV sx3 IA0)]))] kq kq ⟨fun _=>.inl rfl,fun _=>.inr rfl⟩ ?_
  refine V.known 176 false false kq rfl ?_
  refine V.q ?_
  refine V.iter ?_
  refine V.ungrd ?_
  refine V.q ?_
  refine V.known 103 (decide ((3 : Int) < 4)) true kq (by decide) ?_
  refine V.runT [] [(0 : Int) ≤ 3 ∧ (3 : Int) < 4] kq kq ⟨by decide,by decide⟩ ?_
  refine V.callK [(54,false),(51,true),(48,true),(49,true)] (xEncode sx4 (sA4 g) sx4_okL sx4_fine) kq kq kq (fun _=>kq) (fun qc3 _=>?_)
  refine V.q ?_
  refine V.freeze 4 (rowL rlv (0,0) [(2,5)] qc3.1 qc3.2 62 2 true) kq kq ?_
  refine V.callK [(55,false),(0,true)] (xDecode [(2,5)] ⟨[17,0,0,0,0,0,2,6],qc3.1,1,qc3.2⟩ rfl (by decide) 0 ⟨by show 8 ≤ 1000000000; decide,Nat.zero_le _⟩ kq) kq kq kq (fun _=>kq) (fun yd3 hd3=>?_)
  obtain ⟨d3,D3⟩:=yd3
  have ed3 : d3 = sx4:=hd3.trans (sx4_dec qc3.1 qc3.2)
  subst ed3
  refine V.q ?_
  refine V.callK [(58,false),(55,true),(52,true),(53,true)] (xText sx4 (sA4 g) sx4_okL 17 kq kq kq sx4_fine) kq kq kq (fun _=>kq) (fun _ _=>?_)
  refine V.q ?_
  refine V.callK [(58,false)] (xParse [67,65,76,76,32,45,32,33,53,32,91,114,50,93] [[67,65,76,76],[45],[33,53],[91,114,50,93]] sx4 kq (by decide) kq (by decide) (pok_of sx4_find sx4_pok) sx4_read) kq kq kq (fun _=>kq) (fun yp3 hp3=>?_)
  obtain ⟨p3,P3⟩:=yp3
  have ep3 : p3 = sx4:=hp3
  subst ep3
  refine V.persAs [(58,true)] [rowP (rowF sx4 (sA4 g))] (rowP (rowF sx4 (sA4 g))) kq (fun k hk=>⟨_,List.mem_singleton.2 rfl,hk⟩) (fun w hw=>hw _ (List.mem_singleton.2 rfl)) (rowP_stab _) ?_
  refine V.persAs [(56,true)] [rowP (rowI sx4 (sA4 g))] (rowP (rowI sx4 (sA4 g))) kq (fun k hk=>⟨_,List.mem_singleton.2 rfl,hk⟩) (fun w hw=>hw _ (List.mem_singleton.2 rfl)) (rowP_stab _) ?_
  refine V.persAs [(58,true)] [rowP (rowT sx4 (sA4 g))] (rowP (rowT sx4 (sA4 g))) kq (fun k hk=>⟨_,List.mem_singleton.2 rfl,hk⟩) (fun w hw=>hw _ (List.mem_singleton.2 rfl)) (rowP_stab _) ?_
  refine V.persAs [(6,true)] [rowP (rowF sx4 D3)] (rowP (rowF sx4 D3)) kq (fun k hk=>⟨_,List.mem_singleton.2 rfl,hk⟩) (fun w hw=>hw _ (List.mem_singleton.2 rfl)) (rowP_stab _) ?_
  refine V.persAs [(8,true)] [rowP (rowI sx4 D3)] (rowP (rowI sx4 D3)) kq (fun k hk=>⟨_,List.mem_singleton.2 rfl,hk⟩) (fun w hw=>hw _ (List.mem_singleton.2 rfl)) (rowP_stab _) ?_
  refine V.persAs [(10,true)] [rowP (rowT sx4 D3)] (rowP (rowT sx4 D3)) kq (fun k hk=>⟨_,List.mem_singleton.2 rfl,hk⟩) (fun w hw=>hw _ (List.mem_singleton.2 rfl)) (rowP_stab _) ?_
  refine V.persAs [(6,true)] [rowP (rowF sx4 P3)] (rowP (rowF sx4 P3)) kq (fun k hk=>⟨_,List.mem_singleton.2 rfl,hk⟩) (fun w hw=>hw _ (List.mem_singleton.2 rfl)) (rowP_stab _) ?_
  refine V.persAs [(8,true)] [rowP (rowI sx4 P3)] (rowP (rowI sx4 P3)) kq (fun k hk=>⟨_,List.mem_singleton.2 rfl,hk⟩) (fun w hw=>hw _ (List.mem_singleton.2 rfl)) (rowP_stab _) ?_
  refine V.persAs [(10,true)] [rowP (rowT sx4 P3)] (rowP (rowT sx4 P3)) kq (fun k hk=>⟨_,List.mem_singleton.2 rfl,hk⟩) (fun w hw=>hw _ (List.mem_singleton.2 rfl)) (rowP_stab _) ?_
  refine V.runT [⟨sSame2 sx4 (sA4 g) P3 D3 sx4_okL,[65,66,67,68,69,70,62,63,64]⟩] [((false = false) → (([.agg (inV sx4 D3),.agg (inV sx4 (sA4 g))] : List CV) = [.agg (inV sx4 D3),.agg (inV sx4 (sA4 g))] ∨ ([.agg (inV sx4 D3),.agg (inV sx4 (sA4 g))] : List CV) = [.agg (inV sx4 P3),.agg (inV sx4 (sA4 g))])),((false = false) → (([.agg (inV sx4 P3),.agg (inV sx4 (sA4 g))] : List CV) = [.agg (inV sx4 D3),.agg (inV sx4 (sA4 g))] ∨ ([.agg (inV sx4 P3),.agg (inV sx4 (sA4 g))] : List CV) = [.agg (inV sx4 P3),.agg (inV sx4 (sA4 g))]))] kq kq ⟨fun _=>.inl rfl,fun _=>.inr rfl⟩ ?_
  refine V.known 176 false false kq rfl ?_
  refine V.q ?_
  refine V.iter ?_
  exact V.backK [11,101,102] [false,false,false,false,false,false,false,false,false,false,false,false,false,false,false,false,false,false,false,false,false,false,false,false,false,false,false,false,false,false,false,false,false,false,false,false,false,false,false,false,false,false,false,false,false,false,false,false,false,false,false,false,false,false,false,false,false,false,false,false,false,false,false,false,true,true,true,true,false,false,true] (sane_rest ρ0 w0 g) kq kq
 ·have hin:=left_in' he
  have hlt:=leftOf_push_lt he
  obtain ⟨p,hp,hkey,hval,hb⟩:=snL_mem hin
  obtain ⟨ek,ev,eb⟩:=e
  simp only at hkey hval hlt
  subst hkey hval
  refine V.q ?_
  refine V.entry it 0 gL 7 7 seen snEs _ kq kq (fun ρ a w hS=>hS.objN (n0:=w0.heap.size) (S:=touch ρ0 glbF) 0 kq) hin sn_nodup kq ?_
  refine V.q ?_
  refine V.slotAs 1 (.one (.val (.int .i64 p.1))) (.one (.int .i64 p.1)) kq kq (fun _=>rfl) ?_
  refine V.slotAs 46 (.one (.val (.int .i64 p.1))) (.one (.int .i64 p.1)) kq kq (fun _=>rfl) ?_
  refine V.slotAs 2 (.one (.val (.string ⟨p.2.toArray⟩))) (.one (.str p.2)) kq kq (fun _=>rfl) ?_
  refine V.q ?_
  refine V.callK [] (snN p hp) kq kq kq (fun _=>kq) (fun _ _=>?_)
  refine V.q ?_
  refine V.callK [] (snR p hp) kq kq kq (fun _=>kq) (fun _ _=>?_)
  refine V.q ?_
  refine V.known 77 (((((0 : Int) != 0 || !p.2 == p.2) || (0 : Int) != 0) || p.1 != p.1) || (p.2.length : Int) != (p.2.length : Int)) false kq (by simp) ?_
  refine V.q ?_
  refine V.iter ?_
  exact V.back [39] [] [0] [true,true] (ih (seen.push eb) trivial hlt) kq kq
theorem eqL_self {α : Type} {f : α → α → Bool} (h : ∀ a,f a a = true) : ∀ l,eqL f l l = true
 | []=>rfl
 | a :: l=>by
  simp only [eqL,h,eqL_self h l,Bool.and_self]
theorem eqIn_self (x : In) : eqIn x x = true:=by
 have hF : eqL eqF x.f x.f = true:=eqL_self (fun a=>by simp [eqF]) _
 have hI : eqL eqI x.l x.l = true:=eqL_self (fun a=>by simp [eqI]) _
 have hT : eqL eqT x.y x.y = true:=eqL_self (fun a=>by simp [eqT]) _
 unfold eqIn eqIn1
 rw [hF,hI,hT]
 simp [eqT]
def dS (ok : Bool) (s : RSt × In) : In × Int × Int:=bif ok then (s.2,(s.1.at_ : Int),0) else (zeroI,0,220)
def dyV (n : Int × Int) (y : In × IA) : RV:=.tup [.agg (inV y.1 y.2),.one (.int .i64 n.1),.one (.int .i64 n.2)]
def dA (rl : List (Int × Int)) (X : RIn) (n : Int) : In × Int × Int :=
 bif decide (n < 0) || decide (n > (X.s.length : Int)) then (zeroI,0,1) else dS (cDecOk rl X n.toNat) (cDecR rl X n.toNat)
theorem xDecOut (rl : List (Int × Int)) (X : RIn) (n : Int) (h : (decide (n < 0) || decide (n > (X.s.length : Int))) = true) :
  CallsK Tryz.prog 30 [.one (.str X.s),.one (.val (.slice X.q X.n X.c)),.one (.int .i64 n)] (psOf [glbP,rowP (relRow rl X.q X.c)]) (fun y : In × IA=>y.1 = zeroI) (dyV (0,1)) (fun y=>psOf (lsP y.1 y.2)):=by
 refine CallsK.mk true Tryz.func30 kq kq (fun ρ w=>?_)
 refine V.q ?_
 refine V.known 19 (decide (n < 0) || decide (n > (X.s.length : Int))) true kq h ?_
 refine V.q ?_
 refine V.soft 0 ?_
 refine V.persNew [] [] (rowP (rowF zeroI IA0)) kq kq (fun k hk=>absurd hk ((row_none (R:=rowF zeroI IA0) rfl rfl rfl).1 k)) (fun w _=>(row_none (R:=rowF zeroI IA0) rfl rfl rfl).2 w) (rowP_stab _) ?_
 refine V.persNew [] [] (rowP (rowI zeroI IA0)) kq kq (fun k hk=>absurd hk ((row_none (R:=rowI zeroI IA0) rfl rfl rfl).1 k)) (fun w _=>(row_none (R:=rowI zeroI IA0) rfl rfl rfl).2 w) (rowP_stab _) ?_
 refine V.persNew [] [] (rowP (rowT zeroI IA0)) kq kq (fun k hk=>absurd hk ((row_none (R:=rowT zeroI IA0) rfl rfl rfl).1 k)) (fun w _=>(row_none (R:=rowT zeroI IA0) rfl rfl rfl).2 w) (rowP_stab _) ?_
 exact V.retK ((zeroI,IA0) : In × IA) [(2,true),(1,true),(0,true)] kq kq kq rfl
theorem xDecROut (rl : List (Int × Int)) (X : RIn) (n : Int) (h : (decide (n < 0) || decide (n > (X.s.length : Int))) = true) :
  CallsK Tryz.prog 33 [.one (.str X.s),.one (.val (.slice X.q X.n X.c)),.one (.int .i64 n)] (psOf [rowP (relRow rl X.q X.c)]) (fun y : In × IA=>y.1 = zeroI) (dyV (0,1)) (fun y=>psOf (lsP y.1 y.2)):=by
 refine CallsK.mk true Tryz.func33 kq kq (fun ρ w=>?_)
 refine V.q ?_
 refine V.known 22 (decide (n < 0) || decide (n > (X.s.length : Int))) true kq h ?_
 refine V.q ?_
 refine V.soft 0 ?_
 refine V.persNew [] [] (rowP (rowF zeroI IA0)) kq kq (fun k hk=>absurd hk ((row_none (R:=rowF zeroI IA0) rfl rfl rfl).1 k)) (fun w _=>(row_none (R:=rowF zeroI IA0) rfl rfl rfl).2 w) (rowP_stab _) ?_
 refine V.persNew [] [] (rowP (rowI zeroI IA0)) kq kq (fun k hk=>absurd hk ((row_none (R:=rowI zeroI IA0) rfl rfl rfl).1 k)) (fun w _=>(row_none (R:=rowI zeroI IA0) rfl rfl rfl).2 w) (rowP_stab _) ?_
 refine V.persNew [] [] (rowP (rowT zeroI IA0)) kq kq (fun k hk=>absurd hk ((row_none (R:=rowT zeroI IA0) rfl rfl rfl).1 k)) (fun w _=>(row_none (R:=rowT zeroI IA0) rfl rfl rfl).2 w) (rowP_stab _) ?_
 exact V.retK ((zeroI,IA0) : In × IA) [(2,true),(1,true),(0,true)] kq kq kq rfl
theorem xDecodeS (rl : List (Int × Int)) (X : RIn) (hX : X.n = rl.length) (hl : rl.length ≤ 1000000000) (at_ : Nat) (hok : okIn X ⟨at_,false⟩) :
  CallsK Tryz.prog 30 [.one (.str X.s),.one (.val (.slice X.q X.n X.c)),.one (.int .i64 (at_ : Int))] (psOf [glbP,rowP (relRow rl X.q X.c)]) (fun y : In × IA=>y.1 = (dS (cDecOk rl X at_) (cDecR rl X at_)).1) (dyV (dS (cDecOk rl X at_) (cDecR rl X at_)).2) (fun y=>psOf (lsP y.1 y.2)):=by
 cases h : cDecOk rl X at_ with
 | true=>exact (xDecode rl X hX hl at_ hok h).to (fun y hy=>⟨y,hy,rfl,rfl⟩)
 | false =>
  refine CallsK.mk true Tryz.func30 kq kq (fun ρ w=>?_)
  refine V.q ?_
  refine V.known 19 (decide ((at_ : Int) < 0) || decide ((at_ : Int) > (X.s.length : Int))) false kq (by have:=hok.2; simp only at this; simp; omega) ?_
  refine V.q ?_
  refine V.callK [(0,false)] cNew0 kq kq kq (fun _=>kq) (fun K hK=>?_)
  refine V.q ?_
  refine V.callK [(0,true),(2,false)] (cDecode K hK rl X hX hl at_ hok) kq kq kq (fun _=>kq) (fun y hy=>?_)
  refine V.q ?_
  refine V.known 31 (!(cDecOk rl X at_)) true kq (by rw [h]; rfl) ?_
  refine V.q ?_
  refine V.soft 0 ?_
  refine V.persNew [] [] (rowP (rowF zeroI IA0)) kq kq (fun k hk=>absurd hk ((row_none (R:=rowF zeroI IA0) rfl rfl rfl).1 k)) (fun w _=>(row_none (R:=rowF zeroI IA0) rfl rfl rfl).2 w) (rowP_stab _) ?_
  refine V.persNew [] [] (rowP (rowI zeroI IA0)) kq kq (fun k hk=>absurd hk ((row_none (R:=rowI zeroI IA0) rfl rfl rfl).1 k)) (fun w _=>(row_none (R:=rowI zeroI IA0) rfl rfl rfl).2 w) (rowP_stab _) ?_
  refine V.persNew [] [] (rowP (rowT zeroI IA0)) kq kq (fun k hk=>absurd hk ((row_none (R:=rowT zeroI IA0) rfl rfl rfl).1 k)) (fun w _=>(row_none (R:=rowT zeroI IA0) rfl rfl rfl).2 w) (rowP_stab _) ?_
  exact V.retK ((zeroI,IA0) : In × IA) [(2,true),(1,true),(0,true)] kq kq kq rfl
theorem xDecRS (rl : List (Int × Int)) (X : RIn) (hX : X.n = rl.length) (hl : rl.length ≤ 1000000000) (a : Nat) (hok : okIn X ⟨a,false⟩) :
  CallsK Tryz.prog 33 [.one (.str X.s),.one (.val (.slice X.q X.n X.c)),.one (.int .i64 (a : Int))] (psOf [rowP (relRow rl X.q X.c)]) (fun y : In × IA=>y.1 = (dS (tkDecOk rl X a) (tkDecR rl X a)).1) (dyV (dS (tkDecOk rl X a) (tkDecR rl X a)).2) (fun y=>psOf (lsP y.1 y.2)):=by
 have hraw0 : tkRaw X 1 ⟨a,false⟩ = _:=raw_in (X:=X) (r:=⟨a,false⟩) (k:=1) rfl (by decide)
 by_cases ha : a < X.s.length
 case neg =>
  have hOk : tkDecOk rl X a = false:=by unfold tkDecOk; rw [show decide (a < X.s.length) = false by simpa using ha]; rfl
  rw [if_neg (by show ¬ a + 1 ≤ _; omega)] at hraw0
  rw [hOk]
  refine CallsK.mk true Tryz.func33 kq kq (fun ρ w=>?_)
  refine V.q ?_
  refine V.known 22 (decide ((a : Int) < 0) || decide ((a : Int) > (X.s.length : Int))) false kq (by have:=hok.2; simp only at this; simp; omega) ?_
  refine V.q ?_
  refine V.cellAs 1 3 ⟨[.str X.s,.val (.slice X.q X.n X.c),.int .i64 (a : Int),.bool false],133,true⟩ (.bool false) (.sb false) kq rfl kq (fun _=>rfl) ?_
  refine V.callK [] (cTRaw X 1 ⟨a,false⟩ hok) kq kq kq (fun _=>kq) (fun r1 e1=>?_)
  rw [hraw0] at e1
  simp only at e1
  subst e1
  refine V.q ?_
  refine V.known 34 true true kq rfl ?_
  refine V.q ?_
  refine V.soft 0 ?_
  refine V.persNew [] [] (rowP (rowF zeroI IA0)) kq kq (fun k hk=>absurd hk ((row_none (R:=rowF zeroI IA0) rfl rfl rfl).1 k)) (fun w _=>(row_none (R:=rowF zeroI IA0) rfl rfl rfl).2 w) (rowP_stab _) ?_
  refine V.persNew [] [] (rowP (rowI zeroI IA0)) kq kq (fun k hk=>absurd hk ((row_none (R:=rowI zeroI IA0) rfl rfl rfl).1 k)) (fun w _=>(row_none (R:=rowI zeroI IA0) rfl rfl rfl).2 w) (rowP_stab _) ?_
  refine V.persNew [] [] (rowP (rowT zeroI IA0)) kq kq (fun k hk=>absurd hk ((row_none (R:=rowT zeroI IA0) rfl rfl rfl).1 k)) (fun w _=>(row_none (R:=rowT zeroI IA0) rfl rfl rfl).2 w) (rowP_stab _) ?_
  exact V.retK ((zeroI,IA0) : In × IA) [(2,true),(1,true),(0,true)] kq kq kq rfl
 obtain ⟨c,hc⟩ : ∃ c,X.s.getD a 0 = c:=⟨_,rfl⟩
 have hraw : tkRaw X 1 ⟨a,false⟩ = ([c],⟨a + 1,false⟩):=by
  rw [hraw0,if_pos (by show a + 1 ≤ _; omega)]
  simp only
  rw [cut_get _ _ 0 (by omega),cut_nil,hc]
 have hcl:=c.toNat_lt
 have hwr : IntKind.i64.wrap (c.toNat : Int) = (c.toNat : Int):=by simp [IntKind.wrap,IntKind.bits,IntKind.signed]; omega
 obtain ⟨fls,hfls⟩ : ∃ fls,(opFind (c.toNat : Int)).getD [] = fls:=⟨_,rfl⟩
 have hlet:=letters c.toNat hcl
 rw [hfls] at hlet
 have hfl : fls.length ≤ 7:=by rw [← hfls]; exact opFind_len _
 have hR : tkDecR rl X a = tkL rl X fls (⟨a + 1,false⟩,emptyI (c.toNat : Int)):=by unfold tkDecR; rw [hc,hfls]
 have hOk : tkDecOk rl X a = (!(tkDecR rl X a).1.bad && cFine (tkDecR rl X a).2):=by unfold tkDecOk; rw [show decide (a < X.s.length) = true by simpa using ha]; rfl
 rw [hOk,hR]
 generalize hE : tkL rl X fls (⟨a + 1,false⟩,emptyI (c.toNat : Int)) = sE
 obtain ⟨rE,xE⟩:=sE
 simp only
 obtain ⟨ok,hokE⟩ : ∃ ok,(!rE.bad && cFine xE) = ok:=⟨_,rfl⟩
 rw [hokE]
 refine CallsK.mk true Tryz.func33 kq kq (fun ρ w=>?_)
 refine V.q ?_
 refine V.known 22 (decide ((a : Int) < 0) || decide ((a : Int) > (X.s.length : Int))) false kq (by simp; omega) ?_
 refine V.q ?_
 refine V.cellAs 1 3 ⟨[.str X.s,.val (.slice X.q X.n X.c),.int .i64 (a : Int),.bool false],133,true⟩ (.bool false) (.sb false) kq rfl kq (fun _=>rfl) ?_
 refine V.callK [] (cTRaw X 1 ⟨a,false⟩ hok) kq kq kq (fun _=>kq) (fun r1 e1=>?_)
 rw [hraw] at e1
 simp only at e1
 subst e1
 refine V.q ?_
 refine V.known 34 false false kq rfl ?_
 refine V.slotAs 10 (.one (.str (tkRaw X 1 ⟨a,false⟩).1)) (.one (.str [c])) kq kq (fun _=>by rw [hraw]) ?_
 refine V.runT [] [(0 : Int) ≤ 0 ∧ (0 : Int) < ((1 : Nat) : Int)] kq kq ⟨by decide,by decide⟩ ?_
 refine V.slotAs 38 (.one (.int .i64 (IntKind.i64.wrap (c.toNat : Int)))) (.one (.int .i64 (c.toNat : Int))) kq kq (fun _=>by rw [hwr]) ?_
 refine V.callK [] (cBlankR (c.toNat : Int)) kq kq kq (fun _=>kq) (fun _ _=>?_)
 refine V.q ?_
 refine V.callK [] (cFieldsR (c.toNat : Int)) kq kq kq (fun _=>kq) (fun _ _=>?_)
 refine V.q ?_
 refine V.slotAs 13 (.one (.str (rfN (c.toNat : Int)).2)) (.one (.str (fls.map Fl.ch))) kq kq (fun _=>by rw [hlet]) ?_
 refine V.nilB Fm.cells fm0 2 24 ⟨inC (emptyI (c.toNat : Int)) (.val (.slice none 0 0)) (.val (.slice none 0 0)) (.val (.slice none 0 0)),30,true⟩ 93 4 kq rfl ?_
 refine V.nilB intv 0 2 25 ⟨inC (emptyI (c.toNat : Int)) (.row 0 none 0 0) (.val (.slice none 0 0)) (.val (.slice none 0 0)),30,true⟩ 3 1 kq rfl ?_
 refine V.nilB Ty.cells ty0 2 26 ⟨inC (emptyI (c.toNat : Int)) (.row 0 none 0 0) (.row 1 none 0 0) (.val (.slice none 0 0)),30,true⟩ 23 5 kq rfl ?_
 refine V.loopK [6,9,11,13,14] [true] (fun j : TdI=>fls.length - j.i) (tdSt rl X (fls.map Fl.ch)) (fun j=>j.i ≤ fls.length ∧ (j.r,j.x) = tkL rl X (fls.take j.i) (⟨a + 1,false⟩,emptyI (c.toNat : Int)) ∧ okIn X j.r ∧ j.x.f.length ≤ 16 * j.i ∧ j.x.l.length ≤ 16 * j.i ∧ j.x.y.length ≤ 16 * j.i)
  ⟨⟨a + 1,false⟩,emptyI (c.toNat : Int),IA0,0⟩ kq ⟨Nat.zero_le _,rfl,⟨hok.1,ha⟩,Nat.le_refl _,Nat.le_refl _,Nat.le_refl _⟩ (fun j hj ih=>?_)
 obtain ⟨r,x,A,i⟩:=j
 obtain ⟨hi,hrx,hokr,hf1,hl1,hy1⟩:=hj
 simp only at hi hrx hokr hf1 hl1 hy1
 have hxl : x.okL:=⟨by omega,by omega,by omega⟩
 refine V.iter ?_
 refine V.q ?_
 refine V.branch 56 (decide ((i : Int) < ((fls.map Fl.ch).length : Int)) && !r.bad) kq (fun hb=>?_) (fun hb=>?_)
 ·simp only [Bool.and_eq_true,decide_eq_true_eq,Bool.not_eq_true',List.length_map] at hb
  obtain ⟨hlt0,hbd⟩:=hb
  have hlt : i < fls.length:=by omega
  obtain ⟨f,hf⟩ : ∃ f,fls.getD i .D = f:=⟨_,rfl⟩
  have hch : (fls.map Fl.ch).getD (i : Int).toNat 0 = f.ch:=by
   rw [Int.toNat_natCast,← hf,List.getD,List.getElem?_map,List.getElem?_eq_getElem hlt,List.getD,List.getElem?_eq_getElem hlt]
   rfl
  have htk : fls.take (i + 1) = fls.take i ++ [f]:=by
   rw [List.take_add_one,List.getElem?_eq_getElem hlt]
   rw [List.getD,List.getElem?_eq_getElem hlt] at hf
   simp only [Option.getD_some] at hf
   rw [hf]; rfl
  have hT:=tfAll f rl X hX hl r x A hokr hxl
  unfold TfK at hT
  rw [← hch] at hT
  refine V.q ?_
  refine V.drawX [1] [0,1,2] 6 kq ?_
  refine @VX.run _ [1] [0,1,2] 6 _ _ ([] : List (Ent Tryz.prog)) [(0 : Int) ≤ i ∧ (i : Int) < ((fls.map Fl.ch).length : Int)] kq kq ⟨by omega,by rw [List.length_map]; omega⟩ ?_
  refine @VX.callR _ [1] [0,1,2] 6 _ _ _ _ _ _ _ _ _ [(0,false)] hT kq kq kq (fun _=>kq) (fun y hy=>?_)
  have k:=tk_ok f (rl:=rl) (x:=x) hokr
  refine @VX.run _ [1] [0,1,2] 6 _ _ ([] : List (Ent Tryz.prog)) [] kq kq trivial ?_
  refine @VX.stop _ [1] [0,1,2] 6 _ _ kq ?_
  refine V.q ?_
  refine V.slotAs 14 (.one (.int .i64 (IntKind.i64.wrap ((i : Int) + 1)))) (.one (.int .i64 ((i + 1 : Nat) : Int))) kq kq (fun _=>by rw [wrap_up (by omega)]) ?_
  refine V.againK [6,9,11,13,14] [true] (ih ⟨y.1,y.2.1,y.2.2,i + 1⟩ ⟨hlt,?_,by rw [hy.1]; exact k.1,le16 k.2.1 hf1 (by rw [hy.2]),le16 k.2.2.1 hl1 (by rw [hy.2]),le16 k.2.2.2 hy1 (by rw [hy.2])⟩ (by simp only; omega)) kq kq
  simp only
  rw [htk,tkL_snoc,← hrx,if_neg (by rw [hbd]; decide),hy.1,hy.2]
 ·have hfin:=tkL_fin hrx hi hE hb
  have hr:=(Prod.mk.inj hfin).1
  have hx:=(Prod.mk.inj hfin).2
  subst hr hx
  refine V.freeze 0 (rowL Fm.cells fm0 x.f A.qf A.cf 93 4 true) kq kq ?_
  refine V.freeze 1 (rowL intv 0 x.l A.ql A.cl 3 1 true) kq kq ?_
  refine V.freeze 2 (rowL Ty.cells ty0 x.y A.qy A.cy 23 5 true) kq kq ?_
  by_cases hbd : r.bad = true
  case pos =>
   have ho : ok = false:=by rw [← hokE,hbd]; rfl
   subst ho
   refine V.q ?_
   refine V.settle 69 true r.bad kq hbd ?_
   refine V.q ?_
   refine V.soft 0 ?_
   refine V.persNew [] [] (rowP (rowF zeroI IA0)) kq kq (fun k hk=>absurd hk ((row_none (R:=rowF zeroI IA0) rfl rfl rfl).1 k)) (fun w _=>(row_none (R:=rowF zeroI IA0) rfl rfl rfl).2 w) (rowP_stab _) ?_
   refine V.persNew [] [] (rowP (rowI zeroI IA0)) kq kq (fun k hk=>absurd hk ((row_none (R:=rowI zeroI IA0) rfl rfl rfl).1 k)) (fun w _=>(row_none (R:=rowI zeroI IA0) rfl rfl rfl).2 w) (rowP_stab _) ?_
   refine V.persNew [] [] (rowP (rowT zeroI IA0)) kq kq (fun k hk=>absurd hk ((row_none (R:=rowT zeroI IA0) rfl rfl rfl).1 k)) (fun w _=>(row_none (R:=rowT zeroI IA0) rfl rfl rfl).2 w) (rowP_stab _) ?_
   exact V.retK ((zeroI,IA0) : In × IA) [(2,true),(1,true),(0,true)] kq kq kq rfl
  case neg =>
   have hbd : r.bad = false:=by simpa using hbd
   refine V.q ?_
   refine V.settle 69 false r.bad kq hbd ?_
   refine V.callK [(2,true),(1,true),(0,true)] (cWell x A hxl _ rfl) kq kq kq (fun _=>kq) (fun _ _=>?_)
   refine V.q ?_
   by_cases hf : cFine x = true
   case pos =>
    have ho : ok = true:=by rw [← hokE,hbd,hf]; rfl
    subst ho
    refine V.known 73 (!cFine x) false kq (by rw [hf]; rfl) ?_
    refine V.q ?_
    refine V.drawX [0] [] 8 kq ?_
    refine @VX.run _ [0] [] 8 _ _ ([] : List (Ent Tryz.prog)) [] kq kq trivial ?_
    refine @VX.store _ [0] [] 8 _ _ 5 kq kq kq ?_
    refine @VX.run _ [0] [] 8 _ _ ([] : List (Ent Tryz.prog)) [] kq kq trivial ?_
    refine @VX.stop _ [0] [] 8 _ _ kq ?_
    refine V.q ?_
    exact V.retK ((x,A) : In × IA) [(2,true),(1,true),(0,true)] kq kq kq rfl
   case neg =>
    have hf : cFine x = false:=by simpa using hf
    have ho : ok = false:=by rw [← hokE,hbd,hf]; rfl
    subst ho
    refine V.known 73 (!cFine x) true kq (by rw [hf]; rfl) ?_
    refine V.q ?_
    refine V.soft 0 ?_
    refine V.persNew [] [] (rowP (rowF zeroI IA0)) kq kq (fun k hk=>absurd hk ((row_none (R:=rowF zeroI IA0) rfl rfl rfl).1 k)) (fun w _=>(row_none (R:=rowF zeroI IA0) rfl rfl rfl).2 w) (rowP_stab _) ?_
    refine V.persNew [] [] (rowP (rowI zeroI IA0)) kq kq (fun k hk=>absurd hk ((row_none (R:=rowI zeroI IA0) rfl rfl rfl).1 k)) (fun w _=>(row_none (R:=rowI zeroI IA0) rfl rfl rfl).2 w) (rowP_stab _) ?_
    refine V.persNew [] [] (rowP (rowT zeroI IA0)) kq kq (fun k hk=>absurd hk ((row_none (R:=rowT zeroI IA0) rfl rfl rfl).1 k)) (fun w _=>(row_none (R:=rowT zeroI IA0) rfl rfl rfl).2 w) (rowP_stab _) ?_
    exact V.retK ((zeroI,IA0) : In × IA) [(2,true),(1,true),(0,true)] kq kq kq rfl
theorem xDecA (rl : List (Int × Int)) (X : RIn) (hX : X.n = rl.length) (hl : rl.length ≤ 1000000000) (hs : X.s.length ≤ 1000000000) (n : Int) :
  CallsK Tryz.prog 30 [.one (.str X.s),.one (.val (.slice X.q X.n X.c)),.one (.int .i64 n)] (psOf [glbP,rowP (relRow rl X.q X.c)]) (fun y : In × IA=>y.1 = (dA rl X n).1) (dyV (dA rl X n).2) (fun y=>psOf (lsP y.1 y.2)):=by
 cases h : (decide (n < 0) || decide (n > (X.s.length : Int))) with
 | true =>
  have e : dA rl X n = (zeroI,0,1):=by unfold dA; rw [h]; rfl
  rw [e]
  exact xDecOut rl X n h
 | false =>
  have e : dA rl X n = dS (cDecOk rl X n.toNat) (cDecR rl X n.toNat):=by unfold dA; rw [h]; rfl
  rw [e]
  simp only [Bool.or_eq_false_iff,decide_eq_false_iff_not] at h
  have en : ((n.toNat : Nat) : Int) = n:=by omega
  have k:=xDecodeS rl X hX hl n.toNat ⟨hs,by show n.toNat ≤ X.s.length; omega⟩
  rw [en] at k
  exact k
theorem xDecRA (rl : List (Int × Int)) (X : RIn) (hX : X.n = rl.length) (hl : rl.length ≤ 1000000000) (hs : X.s.length ≤ 1000000000) (n : Int) :
  CallsK Tryz.prog 33 [.one (.str X.s),.one (.val (.slice X.q X.n X.c)),.one (.int .i64 n)] (psOf [rowP (relRow rl X.q X.c)]) (fun y : In × IA=>y.1 = (dA rl X n).1) (dyV (dA rl X n).2) (fun y=>psOf (lsP y.1 y.2)):=by
 cases h : (decide (n < 0) || decide (n > (X.s.length : Int))) with
 | true =>
  have e : dA rl X n = (zeroI,0,1):=by unfold dA; rw [h]; rfl
  rw [e]
  exact xDecROut rl X n h
 | false =>
  have e : dA rl X n = dS (cDecOk rl X n.toNat) (cDecR rl X n.toNat):=by unfold dA; rw [h]; rfl
  rw [e]
  simp only [Bool.or_eq_false_iff,decide_eq_false_iff_not] at h
  have en : ((n.toNat : Nat) : Int) = n:=by omega
  have ho : okIn X ⟨n.toNat,false⟩:=⟨hs,by show n.toNat ≤ X.s.length; omega⟩
  have k:=xDecRS rl X hX hl n.toNat ho
  rw [en] at k
  obtain ⟨t1,t2⟩:=tk_dec rl X n.toNat ho
  have e2 : dS (tkDecOk rl X n.toNat) (tkDecR rl X n.toNat) = dS (cDecOk rl X n.toNat) (cDecR rl X n.toNat):=by
   rw [t1]
   cases hc : cDecOk rl X n.toNat with
   | false=>rfl
   | true=>rw [t2 hc]
  rw [e2] at k
  exact k
theorem dA_okL (rl : List (Int × Int)) (X : RIn) (hs : X.s.length ≤ 1000000000) (n : Int) : (dA rl X n).1.okL:=by
 unfold dA
 cases h : (decide (n < 0) || decide (n > (X.s.length : Int))) with
 | true=>exact ⟨Nat.zero_le _,Nat.zero_le _,Nat.zero_le _⟩
 | false =>
  simp only [Bool.or_eq_false_iff,decide_eq_false_iff_not] at h
  cases hc : cDecOk rl X n.toNat with
  | false=>exact ⟨Nat.zero_le _,Nat.zero_le _,Nat.zero_le _⟩
  | true=>exact cDecR_okL rl X n.toNat ⟨hs,by show n.toNat ≤ X.s.length; omega⟩
def enS (x : In) : List UInt8 × List (Int × Int) × Int:=bif cFine x then ((cEnc x).1,(cEnc x).2,0) else ([],[],170)
def enV (s : List UInt8 × List (Int × Int) × Int) (qc : Option Addr × Nat) : RV:=.tup [.one (.str s.1),.one (.val (.slice qc.1 s.2.1.length qc.2)),.one (.int .i64 s.2.2)]
theorem xEncA (x : In) (A : IA) (hx : x.okL) : CallsK Tryz.prog 29 [.agg (inV x A)] (stP (glbP :: lsP x A)) (fun _ : Option Addr × Nat=>True) (enV (enS x)) (fun qc=>psOf [rowP (relRow (enS x).2.1 qc.1 qc.2)]):=by
 cases h : cFine x with
 | true =>
  have e : enS x = ((cEnc x).1,(cEnc x).2,0):=by unfold enS; rw [h]; rfl
  rw [e]
  have hf:=cFine_ok h
  refine CallsK.mk true Tryz.func29 kq kq (fun ρ w=>?_)
  refine V.q ?_
  refine V.callK [(0,false)] cNew0 kq kq kq (fun _=>kq) (fun K hK=>?_)
  refine V.q ?_
  refine V.callK [(0,true),(2,false),(3,false),(4,false)] (cFineK K hK x A hx) kq kq kq (fun _=>kq) (fun _ _=>?_)
  refine V.q ?_
  refine V.known 12 (!(cFine x)) false kq (by rw [h]; rfl) ?_
  refine V.q ?_
  refine V.callK [(0,true),(2,false),(3,false),(4,false)] (cEncode K hK x A hx hf.1 hf.2) kq kq kq (fun _=>kq) (fun qc _=>?_)
  refine V.q ?_
  refine V.freeze 0 (rowL rlv (0,0) (cEnc x).2 qc.1 qc.2 62 2 true) kq kq ?_
  exact V.retK (qc : Option Addr × Nat) [(0,true)] kq kq kq trivial
 | false =>
  have e : enS x = ([],[],170):=by unfold enS; rw [h]; rfl
  rw [e]
  refine CallsK.mk true Tryz.func29 kq kq (fun ρ w=>?_)
  refine V.q ?_
  refine V.callK [(0,false)] cNew0 kq kq kq (fun _=>kq) (fun K hK=>?_)
  refine V.q ?_
  refine V.callK [(0,true),(2,false),(3,false),(4,false)] (cFineK K hK x A hx) kq kq kq (fun _=>kq) (fun _ _=>?_)
  refine V.q ?_
  refine V.known 12 (!(cFine x)) true kq (by rw [h]; rfl) ?_
  refine V.q ?_
  refine V.persNew [] [] (rowP (relRow [] none 0)) kq kq (fun k hk=>absurd hk ((row_none (R:=relRow [] none 0) rfl rfl rfl).1 k)) (fun w _=>(row_none (R:=relRow [] none 0) rfl rfl rfl).2 w) (rowP_stab _) ?_
  exact V.retK ((none,0) : Option Addr × Nat) [(0,true)] kq kq kq trivial
theorem xEncRA (x : In) (A : IA) (hx : x.okL) : CallsK Tryz.prog 32 [.agg (inV x A)] (stP (lsP x A)) (fun _ : Option Addr × Nat=>True) (enV (enS x)) (fun qc=>psOf [rowP (relRow (enS x).2.1 qc.1 qc.2)]):=by
 cases h : cFine x with
 | true =>
  have e : enS x = ((cEnc x).1,(cEnc x).2,0):=by unfold enS; rw [h]; rfl
  rw [e]
  have hE:=cEnc_put h
  refine CallsK.mk true Tryz.func32 kq kq (fun ρ w=>?_)
  refine V.q ?_
  refine V.callK [(0,false),(1,false),(2,false)] (xCheckR x A hx) kq kq kq (fun _=>kq) (fun _ _=>?_)
  refine V.q ?_
  refine V.known 10 ((bif cFine x then (0 : Int) else 170) != 0) false kq (by rw [h]; rfl) ?_
  refine V.q ?_
  refine V.nilB bsv 0 1 0 ⟨[.val (.slice none 0 0),.val (.slice none 0 0)],129,true⟩ 5 1 kq rfl ?_
  refine V.nilB rlv (0,0) 1 1 ⟨[.row 0 none 0 0,.val (.slice none 0 0)],129,true⟩ 62 2 kq rfl ?_
  refine V.callK [(0,false),(1,false),(2,false)] (cWIns x A ⟨[],none,0,[],none,0⟩ h (by show (0 : Nat) ≤ _; omega) (by show (0 : Nat) ≤ _; omega)) kq kq kq (fun _=>kq) (fun b hb=>?_)
  obtain ⟨bs,q,c,rs,q2,c2⟩:=b
  simp only [List.nil_append] at hb
  rw [← hE] at hb
  have h1 : bs = (cEnc x).1:=congrArg Prod.fst hb
  have h2 : rs = (cEnc x).2:=congrArg Prod.snd hb
  subst h1 h2
  refine V.q ?_
  refine V.drawX [] [] 12 kq ?_
  refine @VX.run _ [] [] 12 _ _ ([] : List (Ent Tryz.prog)) [] kq kq trivial ?_
  refine @VX.bytes _ [] [] 12 _ _ 2 (rowL bsv 0 (cEnc x).1 q c 5 1 true) (cEnc x).1 kq rfl (fun _ _=>rfl) kq ?_
  refine @VX.run _ [] [] 12 _ _ ([] : List (Ent Tryz.prog)) [] kq kq trivial ?_
  refine @VX.stop _ [] [] 12 _ _ kq ?_
  refine V.q ?_
  refine V.freeze 3 (rowL rlv (0,0) (cEnc x).2 q2 c2 62 2 true) kq kq ?_
  exact V.retK ((q2,c2) : Option Addr × Nat) [(0,true)] kq kq kq trivial
 | false =>
  have e : enS x = ([],[],170):=by unfold enS; rw [h]; rfl
  rw [e]
  refine CallsK.mk true Tryz.func32 kq kq (fun ρ w=>?_)
  refine V.q ?_
  refine V.callK [(0,false),(1,false),(2,false)] (xCheckR x A hx) kq kq kq (fun _=>kq) (fun _ _=>?_)
  refine V.q ?_
  refine V.known 10 ((bif cFine x then (0 : Int) else 170) != 0) true kq (by rw [h]; rfl) ?_
  refine V.q ?_
  refine V.slotAs 4 (.one (.int .i64 (bif cFine x then 0 else 170))) (.one (.int .i64 170)) kq kq (fun _=>by rw [h]; rfl) ?_
  refine V.persNew [] [] (rowP (relRow [] none 0)) kq kq (fun k hk=>absurd hk ((row_none (R:=relRow [] none 0) rfl rfl rfl).1 k)) (fun w _=>(row_none (R:=relRow [] none 0) rfl rfl rfl).2 w) (rowP_stab _) ?_
  exact V.retK ((none,0) : Option Addr × Nat) [(0,true)] kq kq kq trivial
def byF (rl : List (Int × Int)) (X : RIn) (x : In) (A : IA) : St:=stP (glbP :: rowP (relRow rl X.q X.c) :: lsP x A)
set_option maxHeartbeats 2000000 in
theorem xBytes (x : In) (A : IA) (n : Int) (rl : List (Int × Int)) (X : RIn) (hX : X.n = rl.length) (hf : x.f.length ≤ maxLen) (hy : x.y.length ≤ maxLen) :
  CallsK Tryz.prog 7 [.agg (inV x A),.one (.str X.s),.one (.val (.slice X.q X.n X.c)),.one (.int .i64 n)] (byF rl X x A) (fun _ : Unit=>True) (fun _=>.v (.one (.sb true))) (fun _=>noF):=by
 refine CallsK.mk true Tryz.func7 kq kq (fun ρ w=>?_)
 refine V.q ?_
 refine V.callK [(0,false)] sane_ kq kq kq (fun _=>kq) (fun _ _=>?_)
 refine V.q ?_
 refine V.known 26 (!true) false kq rfl ?_
 refine V.q ?_
 by_cases hl : X.s.length ≤ 20000 ∧ X.n ≤ 4000
 case neg =>
  refine V.settle 35 true (decide ((X.s.length : Int) > 20000) || decide ((X.n : Int) > 4000)) kq (by simp; omega) ?_
  refine V.q ?_
  refine V.slotAs 8 (.one (.bool true)) (.one (.sb true)) kq kq (fun _=>rfl) ?_
  exact V.z
 case pos =>
  refine V.settle 35 false (decide ((X.s.length : Int) > 20000) || decide ((X.n : Int) > 4000)) kq (by simp; omega) ?_
  refine V.q ?_
  refine V.callK [(2,false),(3,false),(4,false)] (cSlim x A hf hy) kq kq kq (fun _=>kq) (fun sl hsl=>?_)
  refine V.q ?_
  refine V.branch 40 (!sl) kq (fun hh=>?_) (fun hh=>?_)
  ·refine V.q ?_
   refine V.slotAs 8 (.one (.bool true)) (.one (.sb true)) kq kq (fun _=>rfl) ?_
   exact V.z
  have hx : x.okL:=hsl (by simpa using hh)
  have hs : X.s.length ≤ 1000000000:=by omega
  have hrl : rl.length ≤ 1000000000:=by omega
  have hen : (enS x).2.1.length ≤ 1000000000:=by
   unfold enS
   cases hc : cFine x with
   | true=>have:=cEnc_rel1 hc; show (cEnc x).2.length ≤ _; omega
   | false=>exact Nat.zero_le _
  refine V.q ?_
  refine V.callK [(0,false),(2,false),(3,false),(4,false)] (xEncA x A hx) kq kq kq (fun _=>kq) (fun qc _=>?_)
  refine V.q ?_
  refine V.callK [(3,false),(4,false),(5,false)] (xEncRA x A hx) kq kq kq (fun _=>kq) (fun qd _=>?_)
  refine V.q ?_
  refine V.callK [(2,false),(3,false)] (xDecA rl X hX hrl hs n) kq kq kq (fun _=>kq) (fun yB hyB=>?_)
  obtain ⟨y,B⟩:=yB
  simp only at hyB
  refine V.q ?_
  refine V.callK [(6,false)] (xDecRA rl X hX hrl hs n) kq kq kq (fun _=>kq) (fun zD hzD=>?_)
  obtain ⟨z,D⟩:=zD
  simp only at hzD
  have ezy : z = y:=hzD.trans hyB.symm
  subst ezy
  have hyo : z.okL:=hyB ▸ dA_okL rl X hs n
  refine V.q ?_
  refine V.callK [(8,false),(10,false),(11,false),(12,false)] (xLen x A hx) kq kq kq (fun _=>kq) (fun _ _=>?_)
  refine V.q ?_
  refine V.callK [(10,false),(11,false),(12,false)] (xLenR x A hx) kq kq kq (fun _=>kq) (fun _ _=>?_)
  refine V.q ?_
  refine V.settle 82 true ((enS x).1 == (enS x).1) kq (by simp) ?_
  refine V.callK [(7,true),(6,true)] (cEqR (enS x).2.1 (enS x).2.1 qc.1 qd.1 qc.2 qd.2 hen) kq kq kq (fun _=>kq) (fun _ _=>?_)
  refine V.q ?_
  refine V.settle 92 true (eqL eqR (enS x).2.1 (enS x).2.1 && (enS x).2.2 == (enS x).2.2) kq (by rw [eqL_self (fun a=>by simp [eqR])]; simp) ?_
  refine V.callK [(3,true),(4,true),(5,true),(0,true),(1,true),(2,true)] (cSame26 z z B D hyo) kq kq kq (fun _=>kq) (fun _ _=>?_)
  refine V.q ?_
  refine V.slotAs 8 (.one (.sb (eqIn z z && (dA rl X n).2.1 == (dA rl X n).2.1 && (dA rl X n).2.2 == (dA rl X n).2.2 && (bif cFine x then ((cEnc x).1.length : Int) else 0) == (bif cFine x then ((cEnc x).1.length : Int) else 0) && (bif cFine x then (0 : Int) else 170) == (bif cFine x then (0 : Int) else 170)))) (.one (.sb true)) kq kq (fun _=>by rw [eqIn_self]; simp) ?_
  exact V.z
end Go.Proofs
end
section
namespace Go.Proofs.YteinbljapojcgaaGreatDoor
open Go
set_option maxRecDepth 100000
theorem kn0 : (Rows.codeBytesRow.wf (OpenSpec.ofChange Rows.codeBytesSpec)) = true:=kq
theorem kn1 : (laidOutB Tryz.prog) = true:=kq
theorem kn2 : (mapsRowed Tryz.prog) = true:=kq
theorem kn3 : (Tryz.f7.params.all (Tryz.prog.readableRec ·)) = true:=kq
theorem kn4 : (namedTie Tryz.prog Rows.codeBytesRow.named Rows.codeBytesSpec.vars) = true:=kq
theorem kn5 : ((Rows.codeBytesRow.stops == [])) = true:=kq
theorem kn6 : ((Tryz.prog.stops == [])) = true:=kq
theorem kn7 : ((Rows.codeBytesRow.knobs == [])) = true:=kq
theorem kn8 : ((Tryz.prog.stopKnobs == [])) = true:=kq
theorem kn9 : ((Rows.codeBytesRow.inPlace == Tryz.prog.inPlace 7)) = true:=kq
theorem kn10 : ((Rows.codeBytesRow.unfollowed == Tryz.prog.unfollowed 7)) = true:=kq
theorem kn11 : ((Rows.codeBytesRow.recurses == Tryz.prog.recurses 7)) = true:=kq
theorem kn12 : ((Rows.codeBytesRow.named == Tryz.prog.varsNamed 7)) = true:=kq
theorem kn13 : ((Rows.codeBytesRow.maps == (Tryz.f7.params.toList ++ Rows.codeBytesSpec.plain.varTypes Tryz.prog).any (Tryz.prog.mapsRec ·))) = true:=kq
theorem kn14 : ((Rows.codeBytesRow.ifaces == (Tryz.f7.params.toList ++ Rows.codeBytesSpec.plain.varTypes Tryz.prog).any (Tryz.prog.ifacesRec ·))) = true:=kq
theorem kn15 : ((Rows.codeBytesRow.mapsOut == Tryz.prog.mapsAmong Tryz.f7.resultTypes.toList)) = true:=kq
theorem kn16 : ((Rows.codeBytesRow.loops == (Tryz.f7.params.toList ++ Rows.codeBytesSpec.plain.varTypes Tryz.prog).any (Tryz.prog.loopsFrom ·))) = true:=kq
theorem kn17 : ((Rows.codeBytesRow.wideKeys == (Tryz.f7.params.toList ++ Rows.codeBytesSpec.plain.varTypes Tryz.prog ++ Tryz.f7.resultTypes.toList).any (Tryz.prog.wideKeysFrom ·))) = true:=kq
theorem kn18 : (Rows.codeBytesSpec.vars.all (Tryz.prog.varReadable ·)) = true:=kq
theorem kn19 : (Tryz.f7.resultTypes.all (fun t=>Tryz.prog.readableRec t && decide (t < Tryz.prog.types.size))) = true:=kq
theorem kn20 : ((Rows.codeBytesRow.ifacesOut == Tryz.f7.resultTypes.toList.any (Tryz.prog.ifacesRec ·))) = true:=kq
theorem kn21 : ((Rows.codeBytesRow.loopsOut == Tryz.f7.resultTypes.toList.any (Tryz.prog.loopsFrom ·))) = true:=kq
theorem kn22 : ((Rows.codeBytesRow.plainKeys == Tryz.prog.plainKeys)) = true:=kq
theorem kn23 : (Rows.codeBytesRow.shortTexts.isNone) = true:=kq
theorem kn24 : (Tryz.prog.stopsHeard) = true:=kq
theorem kn25 : (Tryz.prog.mayEnter) = true:=kq
theorem kn26 : ((Rows.codeBytesRow.lifted == Tryz.prog.liftsFinal)) = true:=kq
theorem kn27 : ((Tryz.prog.make == some Rows.codeBytesRow.make)) = true:=kq
theorem kn28 : ((Rows.codeBytesRow.kinds == (if Rows.codeBytesRow.domain.isEmpty then [] else Tryz.f7.params.toList.map fun t=>match Tryz.prog.underlying t with | some (.int k)=>some k | _=>none))) = true:=kq
theorem kn29 : ((Rows.codeBytesRow.pinned == Rows.codeBytesRow.pinnedBy)) = true:=kq
theorem kn30 : ((Rows.codeBytesRow.veiled == (Tryz.f7.params.toList ++ Rows.codeBytesSpec.plain.varTypes Tryz.prog ++ Tryz.f7.resultTypes.toList).any (Tryz.prog.veiledRec ·))) = true:=kq
theorem kn31 : (Rows.codeBytesRow.veiledFits Tryz.prog Tryz.f7.params.toList (Tryz.f7.params.toList ++ Rows.codeBytesSpec.plain.varTypes Tryz.prog ++ Tryz.f7.resultTypes.toList)) = true:=kq
theorem kand {a b : Bool} (ha : a = true) (hb : b = true) : (a && b) = true:=by rw [ha,hb]; rfl
theorem codeBytes_joined : joinedFacts Tryz.prog 7 Tryz.f7 Rows.codeBytesSpec Rows.codeBytesRow = true:=by
 unfold joinedFacts
 exact kand (kand (kand (kand (kand (kand (kand (kand (kand (kand (kand (kand (kand (kand (kand (kand (kand (kand (kand (kand (kand (kand (kand (kand (kand (kand (kand (kand (kand (kand (kand (kn0) kn1) kn2) kn3) kn4) kn5) kn6) kn7) kn8) kn9) kn10) kn11) kn12) kn13) kn14) kn15) kn16) kn17) kn18) kn19) kn20) kn21) kn22) kn23) kn24) kn25) kn26) kn27) kn28) kn29) kn30) kn31
theorem codeBytes_fn : Tryz.prog.funcNamed "pliant/pliantlaw22.CodeBytes" = some 7:=kq
theorem codeBytes_inst : Tryz.f7.isInstance Tryz.prog Rows.codeBytesRow.origin Rows.codeBytesRow.targs:=of_decide_eq_true kq
theorem codeBytes_wrap : Tryz.f7.isWrapper Tryz.prog Rows.codeBytesRow.wrapper Rows.codeBytesRow.mainSum:=by
 unfold Func.isWrapper
 first | (rw [if_pos (by decide +kernel)]; kernel_rfl) | (rw [if_neg (by decide +kernel)]; exact ⟨rfl,rfl⟩)
theorem codeBytes_looks : true = Tryz.prog.looks []:=kq
theorem codeBytes_goes : false = Rows.codeBytesRow.goesBy Tryz.prog:=kq
theorem codeBytes_wft : Rows.codeBytesRow.wfByText (OpenSpec.ofChange Rows.codeBytesSpec) = true:=kq
theorem codeBytes_main : Tryz.prog.mainIs = some (true,"8a234a80a232a3bf12a1f1e0dffb9d9eab25744cd05c38bdd5c3d3d044cc81c8".toList):=kq
theorem codeBytes_stand : ([30,9,47,3].all fun u=>!Tryz.prog.wantsStandIn u) = true:=kq
theorem codeBytes_par : Tryz.f7.params = #[30,9,47,3]:=kq
end Go.Proofs.YteinbljapojcgaaGreatDoor
end
section
namespace Go.Proofs.YteinbljapojcgaaGreatDoor
open Go
set_option maxRecDepth 100000
theorem codeBytes_holds (lifted : ∀ os : Os,os.Started → ∀ (H : Type) (enc : TypeId × Value → H),ReturnsInHanded {} Tryz.checked os 7 .any (fun w args=>(Rows.codeBytesSpec.pre enc Tryz.prog Tryz.f7 [] false w args ∧ laidMetH Tryz.prog Rows.codeBytesRow.laid w) ∧ sizedMet enc Tryz.prog Tryz.f7 (OpenSpec.ofChange Rows.codeBytesSpec) false w args)
   (Rows.codeBytesSpec.post enc Tryz.prog Tryz.f7 false true false false)) : Rows.CodeBytesSaid :=
 OpenClaim.holds_of_wide 7 Tryz.f7 rfl rfl rfl rfl rfl rfl rfl ⟨rfl,rfl,rfl,rfl,rfl⟩ rfl rfl rfl rfl rfl codeBytes_fn Tryz.func7 codeBytes_joined codeBytes_inst codeBytes_wrap (fun os started H enc _=>lifted os started H enc)
theorem codeBytes_card (hh : Rows.CodeBytesSaid) : Rows.CodeBytesCardSaid :=
 Claim7.holds_tied_plain_at .later [] [.data,.data,.data,.data,.sentinel,.sentinel,.listed,.data,.pinned,.pinned] true (true,"8a234a80a232a3bf12a1f1e0dffb9d9eab25744cd05c38bdd5c3d3d044cc81c8") true hh (fun _ h=>by cases h) codeBytes_wft (fun _ h=>by cases h) codeBytes_row_tie rfl ⟨rfl,rfl⟩ codeBytes_main rfl
  (fun f fn hf hfn=>by
   obtain rfl : f = 7:=Option.some.inj (codeBytes_fn.symm.trans hf) |>.symm
   obtain rfl : fn = Tryz.f7:=(Option.some.inj (Tryz.func7.symm.trans hfn)).symm
   exact ⟨codeBytes_looks,fun j t ht=>by
    rw [codeBytes_par] at ht
    have hm : t ∈ [30,9,47,3]:=by simpa using Array.mem_of_getElem? ht
    exact (show Tryz.prog.wantsStandIn t = false by simpa using List.all_eq_true.1 codeBytes_stand t hm)⟩)
  codeBytes_goes
end Go.Proofs.YteinbljapojcgaaGreatDoor
end
section
namespace Go.Proofs.YteinbljapojcgaaGreatDoor
open Go Go.SX Go.ChangeShapes Go.WideShapes Go.ChangeAt Go.RowKit Go.ChangeMaps
set_option maxRecDepth 100000
theorem ownK : ownKnob Tryz.prog.godebug = none:=kq
theorem persOk_of {ps : List Pers} {w : World} (h : ∀ p ∈ ps,LastP p w ∧ Stab p) : PersOk ps w:=fun p hp =>
 ⟨(h p hp).1.1,fun w' hk=>(h p hp).2 w w' hk (h p hp).1.1,(h p hp).1.2⟩
theorem laid_shaped (os : Os) (args : Array Value) : ((World.laidAll Tryz.prog os laidL).forCall (fun _ _=>0) ⟨#[],args,[]⟩).Shaped Tryz.prog:=World.shaped_of_ZipB kq kq
theorem laid_met (os : Os) (args : Array Value) : laidMetH Tryz.prog laidL ((World.laidAll Tryz.prog os laidL).forCall (fun _ _=>0) ⟨#[],args,[]⟩).memory:=by
 rw [MakeChecks.laidMetH_plain _ _ _ kq]
 exact laidMet_laidAll _ kq kq
theorem ls_stab (x : In) (A : IA) : ∀ p ∈ lsP x A,Stab p:=fun p hp=>by
 simp only [lsP,List.mem_cons,List.not_mem_nil,or_false] at hp
 rcases hp with rfl | rfl | rfl <;> exact rowP_stab _
section
variable {H : Type} {enc : TypeId × Value → H} {w : World} {base : Nat} {sp : Nat → Bool} {held : Bool}
theorem open_rels {r : Reach} {b0 : Nat} {v : Value} {dd : DataW H} {ps : List MemPlace} (hval : Value.okWide Tryz.prog w r b0 47 v) (h : DataW.Trod enc Tryz.prog w base sp held 47 v dd ps) :
  ∃ (rl : List (Int × Int)) (q : Option Addr) (c : Nat),v = .slice q rl.length c ∧ LastP (rowP (relRow rl q c)) w:=by
 obtain ⟨a,n,k,rfl⟩:=okWide_slice (P:=Tryz.prog) (t:=47) (e:=62) kq hval
 obtain ⟨fuel,hf⟩:=h
 obtain ⟨rl,q,c,e,_,h1⟩:=o_rels hf
 have e' : ([.slice a n k] : List Value) = [.slice q rl.length c]:=e
 exact ⟨rl,q,c,(List.cons.inj e').1,h1⟩
end
def insZ : Value:=.agg #[.int .i64 0,.int .i64 0,.int .i64 0,.int .i64 0,.int .i64 0,.int .i64 0,.int .i64 0,.bool false,.string ⟨#[]⟩,.int .i64 0,.int .i64 0,.int .i64 0,.bool false,.string ⟨#[]⟩,.int .i64 0,.int .i64 0,.int .i64 0,.bool false,.string ⟨#[]⟩,
  .int .i64 0,.int .i64 0,.int .i64 0,.int .i64 0,.string ⟨#[]⟩,.slice none 0 0,.slice none 0 0,.slice none 0 0,.bool false,.bool false]
theorem bytes_lifted (os : Os) (started : os.Started) (H : Type) (enc : TypeId × Value → H) :
  ReturnsInHanded {} Tryz.checked os 7 .any (fun w args=>(Rows.codeBytesSpec.pre enc Tryz.prog Tryz.f7 [] false w args ∧ laidMetH Tryz.prog laidL w) ∧ sizedMet enc Tryz.prog Tryz.f7 (OpenSpec.ofChange Rows.codeBytesSpec) false w args)
   (Rows.codeBytesSpec.post enc Tryz.prog Tryz.f7 false true false false):=by
 refine returns_wrap (C:=Tryz.checked) (X:=fun w _=>laidMetH Tryz.prog laidL w) (fun _ _ _ hh h=>h.of_heap hh) ownK started kq Tryz.func7
  (ChangeSpec.witness_shaped (enc:=enc) (C:=Tryz.checked) (os:=os) (X:=fun w _=>laidMetH Tryz.prog laidL w) false (World.laidAll Tryz.prog os laidL) #[insZ,.string ⟨#[]⟩,.slice none 0 0,.int .i64 0] 8 (World.laidAll_os _ _ _)
   (laid_shaped os _) kq kq kq (laid_met os _)) ?_
 intro W base args ds gs before hval0 hW hL hsh
 have hval : ∀ (j : Nat) t v,Tryz.f7.params[j]? = some t → args[j]? = some v → Value.okWide Tryz.prog W .any base t v:=hval0
 have hW':=hW
 obtain ⟨p,q,hA0,hV,rfl,_,_⟩:=hW
 have hA : DataW.TrodAll enc Tryz.prog W 0 (fun _=>true) true Tryz.f7.params.toList args.toList ds p:=hA0
 have hpar : Tryz.f7.params = #[30,9,47,3]:=kq
 rw [hpar] at hA hval
 obtain ⟨v0,v1,v2,v3,d0,d1,d2,d3,p0,p1,p2,p3,rfl,rfl,rfl,h0,h1,h2,h3⟩:=trodAll_four hA
 obtain ⟨rfl,rfl⟩:=trodVars_none hV
 obtain ⟨x,A,rfl,hf,_,hy,hls⟩:=open_in (hval 0 30 v0 rfl rfl) h0
 obtain ⟨s,rfl,_,_,_⟩:=open_string Tryz.underlying9 (hval 1 9 v1 rfl rfl) h1
 obtain ⟨rl,q,c,rfl,hrl⟩:=open_rels (hval 2 47 v2 rfl rfl) h2
 obtain ⟨n,rfl,_,_,_⟩:=open_int Tryz.underlying3 (hval 3 3 v3 rfl rfl) h3
 have hP : PersOk (glbP :: rowP (relRow rl q c) :: lsP x A) W:=persOk_of (fun p hp=>by
  rcases List.mem_cons.1 hp with rfl | hp
  ·exact ⟨glb_of_laid hL hsh,glbP_stab⟩
  rcases List.mem_cons.1 hp with rfl | hp
  ·exact ⟨hrl,rowP_stab _⟩
  ·exact ⟨hls p hp,ls_stab x A p hp⟩)
 refine (CallsK.gives (xBytes x A n rl ⟨s.data.toList,q,rl.length,c⟩ rfl hf hy) ⟨rfl,rfl,rfl⟩ (fun _ _=>rfl) (fun _=>0) W hP).mono fun e W' ⟨he,hc⟩=>?_
 subst he
 exact ⟨_,rfl,post_true rfl kq (by rw [hpar]; exact fun t ht=>of_decide_eq_true (List.all_eq_true.1 (show ([30,9,47,3].all fun u=>decide (u < Tryz.prog.types.size)) = true by kernel_rfl) t ht)) hW' rfl hc⟩
theorem bytes_card_holds : Rows.CodeBytesCardSaid:=codeBytes_card (codeBytes_holds (fun os started H enc=>bytes_lifted os started H enc))
end Go.Proofs.YteinbljapojcgaaGreatDoor
end
