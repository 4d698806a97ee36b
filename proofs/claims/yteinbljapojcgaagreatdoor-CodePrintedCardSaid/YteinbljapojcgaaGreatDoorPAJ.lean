/- A symbolic run of the program that Lean checks, and what the functions of the program come to by it: part 10 of 12. -/
import Derived.ProofKit
import Derived.ReadAgain
import Derived.Deep.Onto
import Derived.Test.YteinbljapojcgaaGreatDoorRows
import Derived.LaidMore
import Derived.Lay
import Derived.Lib.LaidTab
import Derived.Shelf.Vars
import Derived.MakeChecks
import Derived.Test.YteinbljapojcgaaGreatDoorPAI
set_option linter.unusedVariables false
section
namespace Go.SX
open Go
section
variable {C:Ctx} {T TR:List Nat} {L:Nat} {c0:Cfg} {d:DCfg}
theorem Sat.freeze {ρ:Nat→Nat} {s:St} {a:Act} {w:World} (hS:Sat C ρ s a w) (r:Nat) (R:Row) (hR:look s.rows r=some R) (ho:(R.own&&R.obj.isNone)=true):Sat C ρ (s.froze r (newP C.w0.heap.size C.S (rowP R.lent))) a w:=by
 rw [Bool.and_eq_true] at ho;obtain ⟨ho,hob⟩:=ho;have hob:R.obj=none:=by simpa using hob
 obtain ⟨r1,r2,r3⟩:=hS.rows r R hR;have huse:∀ k,R.lent.uses k→R.uses k:=by
  rintro k ⟨ad,h1,h2,h3⟩;refine ⟨ad,h1,h2,.inl ho⟩
 have hok:R.lent.ok w:=⟨r2.len,r2.addr,(fun e=>by cases e),(fun o e=>by rw [show R.lent.obj=R.obj from rfl,hob] at e; cases e)⟩;have hle:s.W.le (s.froze r (newP C.w0.heap.size C.S (rowP R.lent))).W:=⟨Nat.le_refl _,Nat.le_refl _,fun q _ Q hQ=>(look_eraseK hQ).2⟩;refine ⟨hS.n,?_,?_,?_,hS.inj,hS.lt,hS.defers,hS.chg,?_,?_,?_,hS.fix⟩
 ·intro i v hv;simp only [St.froze,look_mapK] at hv;obtain ⟨u,hu,rfl⟩:=Option.map_eq_some_iff.1 hv;obtain ⟨k1,k2⟩:=hS.slots i u hu;exact ⟨by rw [RV.froze_den]; exact k1,RV.froze_wf hle u k2⟩
 ·intro i g pol b x hv;simp only [St.froze,look_mapK] at hv ⊢;obtain ⟨u,hu,hu'⟩:=Option.map_eq_some_iff.1 hv;cases u with
  | grd g' pol' b' x' =>
   simp only [RV.froze,RV.grd.injEq] at hu';obtain ⟨rfl,rfl,rfl,rfl⟩:=hu';obtain ⟨k1,k2⟩:=hS.grds i _ _ _ _ hu;exact ⟨k1,by rw [k2]; rfl⟩
  | v x=>cases hu'
  | tup x=>cases hu'
 ·intro b blk hb;simp only [St.froze,look_mapK] at hb;obtain ⟨u,hu,rfl⟩:=Option.map_eq_some_iff.1 hb;obtain ⟨k1,k2,k3,k4⟩:=hS.heap b u hu;refine ⟨k1,?_,?_,k4⟩
  ·have:(u.cells.map (SV.froze r)).map (SV.den ρ)=u.cells.map (SV.den ρ):=by rw [List.map_map]; exact List.map_congr_left fun x _=>SV.froze_den x
   simp only [this]; exact k2
  ·intro x hx; obtain ⟨y,hy,rfl⟩:=List.mem_map.1 hx; exact SV.froze_wf hle y (k3 y hy)
 ·intro q Q hQ;obtain ⟨_,h2⟩:=look_eraseK hQ;exact hS.rows q Q h2
 ·intro q q' Q Q' h1 h2;exact hS.rowsD q q' Q Q' (look_eraseK h1).2 (look_eraseK h2).2
 ·intro p hp;rcases List.mem_cons.1 hp with rfl | hp
  ·have hpure:∀ k,(rowP R.lent).D k→C.w0.heap.size≤k∨C.S k:=fun k hk=>(r3 k (huse k hk)).2.2 ho;refine ⟨⟨hok,hpure⟩,fun w2 hw2=>⟨hok.congr hw2,hpure⟩,fun k hk=>?_⟩;obtain ⟨q1,q2,q3⟩:=r3 k (huse k hk);refine ⟨q1,q2,fun q Q hQ hQo hu=>?_⟩;obtain ⟨hne,h2⟩:=look_eraseK hQ;exact hS.rowsD r q R Q hR h2 (fun e=>hne e.symm) ho k (huse k hk) hu
  ·obtain ⟨p1,p2,p3⟩:=hS.pers p hp;exact ⟨p1,p2,fun k hk=>⟨(p3 k hk).1,(p3 k hk).2.1,fun q Q hQ=>(p3 k hk).2.2 q Q (look_eraseK hQ).2⟩⟩
theorem VX.freeze (r:Nat) (R:Row) (hR:look d.st.rows r=some R) (ho:(R.own&&R.obj.isNone)=true) (hr:Nat.ble c0.st.nr r=true)
  (h:VX C T TR L c0 ⟨d.fuel,d.listed,d.st.froze r (newP C.w0.heap.size C.S (rowP R.lent))⟩):VX C T TR L c0 d:=by
 intro D hD a1 a2 a3 a4 a5 a6 hL hsel aT aTR hlt hrw ρ a w hS hρ hn0 hch hcl hsz;have hr':c0.st.nr≤r:=Nat.le_of_ble_eq_true hr;refine h D hD a1 a2 a3 a4 a5 a6 hL hsel aT aTR hlt ⟨fun q Q hQ=>?_,hrw.2.trans' ⟨Nat.le_refl _,Nat.le_refl _,fun q _ Q hQ=>(look_eraseK hQ).2⟩⟩ ρ a w (hS.freeze r R hR ho) hρ hn0 hch hcl hsz;have h1:=hrw.1 q Q hQ;rw [a3] at hQ;have h2:=hlt q Q (look_heldOf' hQ).2;show look (eraseK r d.st.rows) q=some Q;rw [look_eraseK_ne (by omega)];exact h1
end
end Go.SX
end
section
namespace Go.Proofs
open Go Go.SX
set_option maxRecDepth 10000
def tgS (x:In):List Int:=if x.op=14∨x.op=15 then [x.n] else if x.op=28∨x.op=29 then [x.m] else []
def oneF (n:Int):St:={ noF with heap:=[(0,⟨[.int .i64 n],3,true⟩)],next:=1 }
theorem cTgtN (x:In) (A:IA) (h:x.op=14∨x.op=15):CallsK Tryz.prog 136 [.agg (inV x A)] noF (fun _:Unit=>True) (fun _=>.v (.one (.sli 0 1 1))) (fun _=>oneF x.n):=by
 refine CallsK.m true Tryz.func136 (fun ρ w=>?_);refine V.q ?_;by_cases h1:x.op=14
 ·refine V.kn 5 (x.op==14) true (by simp [h1]) ?_;refine V.q ?_;exact V.z
 ·have h2:x.op=15:=by omega
  refine V.kn 5 (x.op==14) false (by simp [h2]) ?_;refine V.q ?_;refine V.kn 5 (x.op==15) true (by simp [h2]) ?_;refine V.q ?_;exact V.z
theorem cTgtM (x:In) (A:IA) (h:x.op=28∨x.op=29):CallsK Tryz.prog 136 [.agg (inV x A)] noF (fun _:Unit=>True) (fun _=>.v (.one (.sli 0 1 1))) (fun _=>oneF x.m):=by
 refine CallsK.m true Tryz.func136 (fun ρ w=>?_);refine V.q ?_;refine V.kn 5 (x.op==14) false (by rcases h with h | h<;>simp [h]) ?_;refine V.q ?_;refine V.kn 5 (x.op==15) false (by rcases h with h | h<;>simp [h]) ?_;refine V.q ?_;by_cases h1:x.op=28
 ·refine V.kn 11 (x.op==28) true (by simp [h1]) ?_;refine V.q ?_;exact V.z
 ·have h2:x.op=29:=by omega
  refine V.kn 11 (x.op==28) false (by simp [h2]) ?_;refine V.q ?_;refine V.kn 11 (x.op==29) true (by simp [h2]) ?_;refine V.q ?_;exact V.z
theorem cTgt0 (x:In) (A:IA) (h:¬ (x.op=14∨x.op=15)) (h':¬ (x.op=28∨x.op=29)):CallsK Tryz.prog 136 [.agg (inV x A)] noF (fun _:Unit=>True) (fun _=>.v (.one (.val (.slice none 0 0)))) (fun _=>noF):=by
 refine CallsK.m true Tryz.func136 (fun ρ w=>?_);refine V.q ?_;refine V.kn 5 (x.op==14) false (by simp; omega) ?_;refine V.q ?_;refine V.kn 5 (x.op==15) false (by simp; omega) ?_;refine V.q ?_;refine V.kn 11 (x.op==28) false (by simp; omega) ?_;refine V.q ?_;refine V.kn 11 (x.op==29) false (by simp; omega) ?_;refine V.q ?_;exact V.z
theorem cBs (p:List Int) (q:Option Addr) (c:Nat) (x:Int) (hp:0<p.length) (hl:p.length<4611686018427387904) (hs:p.Pairwise (· ≤ ·)) :
  CallsK Tryz.prog 137 [.one (.val (.slice q p.length c)),.one (.int .i64 x)] (stP [rowP (rowL intv 0 p q c 3 1 false)]) (fun _:Unit=>True) (fun _=>.tup [.one (.int .i64 (p.countP (· < x):Nat)),.one (.sb (p.contains x))]) (fun _=>stP []):=by
 refine CallsK.ofGives rfl (fun ρ w hps=>?_);have hok:(rowL intv 0 p q c 3 1 false).ok w:=(hps _ (List.mem_singleton.2 rfl)).1;obtain ⟨b,off,h1,h2⟩:=hok.addr hp;have h1':q=some ⟨b,off,none⟩:=h1;subst h1';have h3:=Tryz.slices_BinarySearch_int b off p.length c p x w (Nat.le_refl _) hl (fun j hj=>by
  have h4:w.cell? ⟨b,off+(j*1+0),none⟩=some (SV.den0 (.int .i64 (p.getD j 0))):=h2 j 0 _ hj rfl;rw [Nat.mul_one,Nat.add_zero] at h4;exact h4) (by rw [List.take_length]; exact hs)
 rw [List.take_length] at h3;exact h3.mono fun e w' ⟨e1,k,e2⟩=>⟨e1,by rw [e2]; exact chg_drewN w k⟩
theorem rdL_lens (rl:List (Int×Int)) (X:RIn):∀ (l:List Fl) (s:RSt×In),okIn X s.1→(rdL rl X l s).2.f.length≤s.2.f.length+16*l.length∧(rdL rl X l s).2.l.length≤s.2.l.length+16*l.length∧(rdL rl X l s).2.y.length≤s.2.y.length+16*l.length
 | [],s,h=>⟨Nat.le_refl _,Nat.le_refl _,Nat.le_refl _⟩
 | f::l,s,h=>by
  have e:rdL rl X (f::l) s=rdL rl X l (if s.1.bad=true then s else f.rd rl X s.1 s.2):=rfl;rw [e,List.length_cons];split
  ·have:=rdL_lens rl X l s h;omega
  ·have h1:=rd_ok f (rl:=rl) (x:=s.2) h;have:=rdL_lens rl X l (f.rd rl X s.1 s.2) h1.1;omega
theorem opFind_len (n:Int):((opFind n).getD []).length≤7:=by
 unfold opFind;split
 ·rename_i h;have:=all_ops (p:=fun o=>decide ((opFls o).length≤7)) kq (o:=n.toNat) ((isOp_iff _).2 (by omega));simpa using this
 ·exact Nat.zero_le _
theorem cDecR_okL (rl:List (Int×Int)) (X:RIn) (n:Nat) (hok:okIn X ⟨n,false⟩):(cDecR rl X n).2.okL:=by
 have h1:=rdL_lens rl X ((opFind ((takeB X ⟨n,false⟩).1.toNat:Int)).getD []) ((takeB X ⟨n,false⟩).2,emptyI ((takeB X ⟨n,false⟩).1.toNat:Int)) (takeB_ok hok);have h2:=opFind_len ((takeB X ⟨n,false⟩).1.toNat:Int);have h3:(cDecR rl X n).2.f.length≤0+16*_∧(cDecR rl X n).2.l.length≤0+16*_∧(cDecR rl X n).2.y.length≤0+16*_:=h1;exact ⟨by omega,by omega,by omega⟩
theorem cDecOk_fine {rl:List (Int×Int)} {X:RIn} {n:Nat} (h:cDecOk rl X n=true):cFine (cDecR rl X n).2=true:=by
 unfold cDecOk at h;rw [Bool.and_eq_true] at h;exact h.2
structure TkOk (X:RIn) (n:Nat) (s:List In×List Int):Prop where
 fine:∀ x∈s.1,cFine x=true∧x.okL
 up:s.2.Pairwise (· ≤ ·)
 gt:∀ m∈s.2,(n:Int)<m
 len:s.1.length+n≤X.s.length
 same:s.2.length=s.1.length
theorem tkS_ok (rl:List (Int×Int)) (X:RIn):∀ (k n:Nat) (s:List In×List Int),okIn X ⟨n,false⟩→tkS rl X k n=some s→TkOk X n s
 | 0,n,s,_,h=>by cases h
 | k+1,n,s,hok,h=>by
  rw [tkS_succ] at h;split at h
  ·rename_i hlt;split at h
   ·rename_i hd;obtain ⟨s',hs',rfl⟩:=Option.map_eq_some_iff.1 h;have hnx:=cDecR_next rl X n hok hlt;have ih:=tkS_ok rl X k (cDecR rl X n).1.at_ s' ⟨hnx.2.1,hnx.2.2⟩ hs';refine ⟨fun x hx=>?_,List.pairwise_cons.2 ⟨fun m hm=>by have:=ih.gt m hm; omega,ih.up⟩,fun m hm=>?_,?_,?_⟩
    ·rcases List.mem_cons.1 hx with rfl | hx
     ·exact ⟨cDecOk_fine hd,cDecR_okL rl X n hok⟩
     ·exact ih.fine x hx
    ·rcases List.mem_cons.1 hm with rfl | hm
     ·have:=hnx.1; omega
     ·have h1:=ih.gt m hm;have h2:=hnx.1;omega
    ·have h1:=ih.len;have h2:=hnx.1;simp only [List.length_cons];omega
    ·simp only [List.length_cons,ih.same]
   ·cases h
  ·cases h;refine ⟨fun x hx=>absurd hx (List.not_mem_nil),List.Pairwise.nil,fun m hm=>absurd hm (List.not_mem_nil),?_,rfl⟩;have:=hok.2;simp only at this;simp only [List.length_nil];omega
theorem takenS_ok {rl:List (Int×Int)} {X:RIn} (hs:X.s.length≤1000000000) {s:List In×List Int} (h:takenS rl X=some s):(∀ x∈s.1,cFine x=true∧x.okL)∧s.2.Pairwise (· ≤ ·)∧0<s.2.length∧s.1.length≤X.s.length∧s.2.length=s.1.length+1:=by
 unfold takenS at h;obtain ⟨s',hs',rfl⟩:=Option.map_eq_some_iff.1 h;have ih:=tkS_ok rl X _ 0 s' ⟨hs,Nat.zero_le _⟩ hs';exact ⟨ih.fine,List.pairwise_cons.2 ⟨fun m hm=>by have:=ih.gt m hm; omega,ih.up⟩,Nat.succ_pos _,ih.len,by simp only [List.length_cons,ih.same]⟩
def vdB (X:RIn) (pr rg:Int):Bool:=decide (pr<0)||decide (pr>63)||decide (rg<0)||decide (rg>4000)||decide ((X.s.length:Int)>1048576)
def vdS (rl:List (Int×Int)) (X:RIn) (pr rg:Int):Option (List In×List Int) :=
 if vdB X pr rg=true then none else match takenS rl X with
  | none=>none
  | some s=>if (eqL eqR (mdS s.1).2 rl&&s.1.all (fun x=>(tgS x).all (fun n=>s.2.contains n)))=true then some s else none
def vdV (t:Option TK):RV:=match t with
 | none=>.tup [.one (.val (.slice none 0 0)),.one (.val (.slice none 0 0)),.one (.sb false)]
 | some t=>.tup [.one (.val (.slice t.q t.l.length t.c)),.one (.val (.slice t.q' t.p.length t.c')),.one (.sb true)]
def vdF (t:Option TK):St:=match t with
 | none=>noF
 | some t=>psOf [insP t.l,rowP (ixRow t.l t.q t.c false),rowP (rowL intv 0 t.p t.q' t.c' 3 1 false)]
def vdSt (n0:Nat) (S:Nat→Prop) (t:TK) (i:Nat):St :=
 { n:=88,slots:=[(7,.v (.one (.val (.slice t.q t.l.length t.c)))),(8,.v (.one (.val (.slice t.q' t.p.length t.c')))),(63,.v (.one (.row 0 t.q t.l.length t.c))),(64,.v (.one (.int .i64 t.l.length))),(65,.v (.one (.int .i64 (i:Int))))],gs:=[],heap:=[],next:=0,
    rows:=[(0,ixRow t.l t.q t.c false)],nr:=1,pers:=[newP n0 S (rowP (rowL intv 0 t.p t.q' t.c' 3 1 false)),newP n0 S (rowP (ixRow t.l t.q t.c false)),newP n0 S (insP t.l)],wr:=true,fx:=0 }
theorem vd_bad {l:List (In×IA)} {p:List Int} {r:Option (List In×List Int)} {i:Nat} (h:r=if (l.map (·.1)).all (fun x=>(tgS x).all (fun n=>p.contains n))=true then some (l.map (·.1),p) else none) (hi:i<l.length)
  (hb:(tgS (l.getD i ixD).1).all (fun n=>p.contains n)=false):tkP r none:=by
 rw [h,if_neg]
 ·rfl
 ·rw [Bool.not_eq_true,List.all_map];exact all_at hi ixD hb
theorem vd_good {t:TK} {r:Option (List In×List Int)} (h:r=if (t.l.map (·.1)).all (fun x=>(tgS x).all (fun n=>t.p.contains n))=true then some (t.l.map (·.1),t.p) else none)
  (hb:t.l.all (fun e=>(tgS e.1).all (fun n=>t.p.contains n))=true):tkP r (some t):=by
 rw [h,if_pos]
 ·exact ⟨t,rfl,rfl,rfl⟩
 ·rw [List.all_map];exact hb
theorem _root_.Go.SX.V.capLe {C:Ctx} (r:Nat) (R:Row) {c:Cfg} (hR:SX.look c.st.rows r=some R) (ho:R.own=true) (hb:R.obj=none) (h:R.n≤R.cap→V C c):V C c:=by
 intro ρ a w hS;have hok:R.ok w:=(hS.rows r R hR).2.1;obtain ⟨_,h1 | ⟨g,cap,cur,e,_,_,hle,_⟩⟩:=hok.own ho hb
 ·refine h ?_ ρ a w hS;rw [h1.2];exact Nat.zero_le _
 ·refine h ?_ ρ a w hS;have:R.cap=cap:=(Value.slice.inj e).2.2;rw [this];exact hle
def tkPc (r:Option (List In×List Int)) (t:Option TK):Prop:=tkP r t∧∀ t',t=some t'→t'.p.length≤t'.c'
theorem tkPc_none {r:Option (List In×List Int)} (h:tkP r none):tkPc r none:=⟨h,fun t' e=>by cases e⟩
theorem tkPc_some {r:Option (List In×List Int)} {t:TK} (h:tkP r (some t)) (hc:t.p.length≤t.c'):tkPc r (some t):=⟨h,fun t' e=>by cases e; exact hc⟩
set_option maxHeartbeats 2000000 in
theorem cValidA (K:Kc) (hK:K.ok) (rl:List (Int×Int)) (X:RIn) (hX:X.n=rl.length) (hl:rl.length≤1000000000) (pr rg:Int) :
  CallsK Tryz.prog 71 [.agg [.val (.map (some K.gF)),.val (.map (some K.gO))],.agg [.int .i64 pr,.int .i64 rg,.str X.s,.val (.slice X.q X.n X.c)]] (psOf [cdP K,rowP (relRow rl X.q X.c)]) (tkPc (vdS rl X pr rg)) vdV vdF:=by
 refine CallsK.m true Tryz.func71 (fun ρ w=>?_);refine V.q ?_;refine V.bn 39 (vdB X pr rg) (fun hb=>?_) (fun hb=>?_)
 ·refine V.q ?_;refine V.sb 6 false ?_;exact V.e (none:Option TK) [] (tkPc_none (by unfold vdS; rw [if_pos hb]; rfl))
 have hvd:vdS rl X pr rg=match takenS rl X with
  | none=>none
  | some s=>if (eqL eqR (mdS s.1).2 rl&&s.1.all (fun x=>(tgS x).all (fun n=>s.2.contains n)))=true then some s else none:=by
  unfold vdS; rw [if_neg (by rw [hb]; decide)]
 have hs2:X.s.length≤1048576:=by
  unfold vdB at hb;simp at hb;omega
 refine V.q ?_;refine V.callK [(0,false),(1,false)] (cTaken K hK rl X hX hl (by omega) pr rg) kq kq kq (fun t=>by cases t<;>kernel_rfl) (fun t ht=>?_);cases t with
 | none =>
  have hno:takenS rl X=none:=by
   cases h:takenS rl X with
   | none=>rfl
   | some s=>rw [h] at ht; obtain ⟨t',e,_⟩:=ht; cases e
  refine V.q ?_;refine V.s 9 (.one (.sb false)) (.one (.bool false)) (fun _=>rfl) ?_;refine V.q ?_;refine V.sb 6 false ?_;exact V.e (none:Option TK) [] (tkPc_none (by rw [hvd,hno]; rfl))
 | some t =>
  obtain ⟨s,hsome,ht1,ht2⟩:∃ s,takenS rl X=some s∧t.l.map (·.1)=s.1∧t.p=s.2:=by
   cases h:takenS rl X with
   | none=>rw [h] at ht; cases ht
   | some s=>rw [h] at ht; obtain ⟨t',e,h1,h2⟩:=ht; cases e; exact ⟨s,rfl,h1,h2⟩
  obtain ⟨g1,g2,g3,g4,g5⟩:=takenS_ok (by omega) hsome;rw [← ht1] at g1 g4 g5;rw [← ht2] at g2 g3 g5;rw [List.length_map] at g4 g5;have hok:okIx t.l:=⟨by omega,fun e he=>g1 e.1 (List.mem_map.2 ⟨e,he,rfl⟩)⟩;rw [hsome] at hvd;obtain ⟨s1,s2⟩:=s;simp only at hvd ht1 ht2;subst ht1 ht2;refine V.q ?_;refine V.s 9 (.one (.sb true)) (.one (.bool true)) (fun _=>rfl) ?_;refine V.capLe 1 (rowL intv 0 t.p t.q' t.c' 3 1 true) kq rfl rfl (fun hcap=>?_);refine V.freeze 0 (ixRow t.l t.q t.c true) kq kq ?_;refine V.freeze 1 (rowL intv 0 t.p t.q' t.c' 3 1 true) kq kq ?_;refine V.drawX [] [] 16 kq ?_;refine @VX.run _ [] [] 16 _ _ ([]:List (Ent Tryz.prog)) [] kq kq trivial ?_;refine @VX.callK _ [] [] 16 _ _ (Option Addr×Nat) 80 [.agg [.val (.map (some K.gF)),.val (.map (some K.gO))],.one (.int .i64 pr),.one (.int .i64 rg),.one (.val (.slice t.q t.l.length t.c))] (mdF K t.l t.q t.c) _ _ _ [(3,false),(2,true),(1,true)] (cModule K hK t.l hok t.q t.c pr rg) kq kq kq (fun _=>kq) (fun qc _=>?_);refine @VX.run _ [] [] 16 _ _ ([]:List (Ent Tryz.prog)) [] kq kq trivial ?_;have hmd:=mdS_len (t.l.map (·.1)) (fun x hx=>(g1 x hx).1);rw [List.length_map] at hmd;refine @VX.freeze _ [] [] 16 _ _ 2 (rowL rlv (0,0) (mdS (t.l.map (·.1))).2 qc.1 qc.2 62 2 true) kq kq kq ?_;refine @VX.callK _ [] [] 16 _ _ Unit 36 [.one (.val (.slice qc.1 (mdS (t.l.map (·.1))).2.length qc.2)),.one (.val (.slice X.q X.n X.c))] (psOf [rowP (rowL rlv (0,0) (mdS (t.l.map (·.1))).2 qc.1 qc.2 62 2 false),rowP (rowL rlv (0,0) rl X.q X.c 62 2 false)]) _ _ _ [(0,true),(5,false)] ((cEqR (mdS (t.l.map (·.1))).2 rl qc.1 X.q qc.2 X.c (by omega)).args _ (fun ρ=>by rw [hX])) kq kq kq (fun _=>kq) (fun _ _=>?_);refine @VX.run _ [] [] 16 _ _ ([]:List (Ent Tryz.prog)) [] kq kq trivial ?_;refine @VX.stop _ [] [] 16 _ _ kq ?_;refine V.q ?_;refine V.bn 62 (!(eqL eqR (mdS (t.l.map (·.1))).2 rl)) (fun he=>?_) (fun he=>?_)
  ·refine V.q ?_;refine V.sb 6 false ?_;exact V.e (none:Option TK) [] (tkPc_none (by
    have he':eqL eqR (mdS (t.l.map (·.1))).2 rl=false:=by simpa using he
    rw [hvd,he',Bool.false_and]; rfl))
  have he':eqL eqR (mdS (t.l.map (·.1))).2 rl=true:=by simpa using he
  rw [he',Bool.true_and] at hvd;refine V.q ?_;refine V.persAs [(2,true)] [rowP (ixRow t.l t.q t.c false)] (rowP (ixRow t.l t.q t.c false)) kq (fun k hk=>⟨_,List.mem_singleton.2 rfl,hk⟩) (fun w hw=>hw _ (List.mem_singleton.2 rfl)) (rowP_stab _) ?_;refine V.ar 63 0 (ixRow t.l t.q t.c false) ?_;refine V.loopK [7,8,63,64,65] [false,false,true,true,true] (fun i:Nat=>t.l.length - i) (vdSt w.heap.size (touch ρ (psOf [cdP K,rowP (relRow rl X.q X.c)])) t) (fun i=>i≤t.l.length∧(t.l.take i).all (fun e=>(tgS e.1).all (fun n=>t.p.contains n))=true) 0 kq ⟨Nat.zero_le _,rfl⟩ (fun i hi ih=>?_);obtain ⟨hi,hall⟩:=hi;refine V.iter ?_;by_cases hlt:i<t.l.length
  ·refine V.q ?_;refine V.kn 66 (decide ((i:Int)<t.l.length)) true (by simpa using hlt) ?_;refine V.t [] [(0:Int)≤i∧(i:Int)<t.l.length] ⟨by omega,by omega⟩ ?_;by_cases hA:(t.l.getD i ixD).1.op=14∨(t.l.getD i ixD).1.op=15
   ·have htg:tgS (t.l.getD i ixD).1=[(t.l.getD i ixD).1.n]:=by unfold tgS; rw [if_pos hA]
    refine V.c [] (cTgtN (t.l.getD i ixD).1 (t.l.getD i ixD).2 hA) (fun _ _=>?_);refine V.q ?_;refine V.iter ?_;refine V.q ?_;refine V.kn 73 (decide ((0:Int)<((1:Nat):Int))) true (by decide) ?_;refine V.t [] [(0:Int)≤0∧(0:Int)<((1:Nat):Int)] ⟨by decide,by decide⟩ ?_;refine V.c [(0,true)] (cBs t.p t.q' t.c' (t.l.getD i ixD).1.n g3 (by omega) g2) (fun _ _=>?_);refine V.q ?_;refine V.bn 83 (!(t.p.contains (t.l.getD i ixD).1.n)) (fun hc=>?_) (fun hc=>?_)
    ·refine V.q ?_;refine V.sb 6 false ?_;exact V.e (none:Option TK) [] (tkPc_none (vd_bad hvd hlt (by rw [htg]; simpa using hc)))
    ·refine V.q ?_;refine V.iter ?_;refine V.q ?_;refine V.kn 73 (decide (IntKind.i64.wrap ((0:Int)+1)<((1:Nat):Int))) false (by decide) ?_;refine V.q ?_;refine V.up 65 i (by omega) ?_;exact V.againK [7,8,63,64,65] [true,true,true] (ih (i+1) ⟨hlt,all_next hlt ixD hall (by rw [htg]; simpa using hc)⟩ (by omega)) kq kq
   by_cases hB:(t.l.getD i ixD).1.op=28∨(t.l.getD i ixD).1.op=29
   ·have htg:tgS (t.l.getD i ixD).1=[(t.l.getD i ixD).1.m]:=by unfold tgS; rw [if_neg hA,if_pos hB]
    refine V.c [] (cTgtM (t.l.getD i ixD).1 (t.l.getD i ixD).2 hB) (fun _ _=>?_);refine V.q ?_;refine V.iter ?_;refine V.q ?_;refine V.kn 73 (decide ((0:Int)<((1:Nat):Int))) true (by decide) ?_;refine V.t [] [(0:Int)≤0∧(0:Int)<((1:Nat):Int)] ⟨by decide,by decide⟩ ?_;refine V.c [(0,true)] (cBs t.p t.q' t.c' (t.l.getD i ixD).1.m g3 (by omega) g2) (fun _ _=>?_);refine V.q ?_;refine V.bn 83 (!(t.p.contains (t.l.getD i ixD).1.m)) (fun hc=>?_) (fun hc=>?_)
    ·refine V.q ?_;refine V.sb 6 false ?_;exact V.e (none:Option TK) [] (tkPc_none (vd_bad hvd hlt (by rw [htg]; simpa using hc)))
    ·refine V.q ?_;refine V.iter ?_;refine V.q ?_;refine V.kn 73 (decide (IntKind.i64.wrap ((0:Int)+1)<((1:Nat):Int))) false (by decide) ?_;refine V.q ?_;refine V.up 65 i (by omega) ?_;exact V.againK [7,8,63,64,65] [true,true,true] (ih (i+1) ⟨hlt,all_next hlt ixD hall (by rw [htg]; simpa using hc)⟩ (by omega)) kq kq
   ·have htg:tgS (t.l.getD i ixD).1=[]:=by unfold tgS; rw [if_neg hA,if_neg hB]
    refine V.c [] (cTgt0 (t.l.getD i ixD).1 (t.l.getD i ixD).2 hA hB) (fun _ _=>?_);refine V.q ?_;refine V.iter ?_;refine V.q ?_;refine V.kn 73 (decide ((0:Int)<((0:Nat):Int))) false (by decide) ?_;refine V.q ?_;refine V.up 65 i (by omega) ?_;exact V.againK [7,8,63,64,65] [true,true,true] (ih (i+1) ⟨hlt,all_next hlt ixD hall (by rw [htg]; rfl)⟩ (by omega)) kq kq
  ·have hle:t.l.length=i:=by omega
   refine V.q ?_;refine V.kn 66 (decide ((i:Int)<t.l.length)) false (by simpa using hlt) ?_;refine V.q ?_;refine V.sb 6 true ?_;exact V.e (some t:Option TK) [(2,true),(1,true),(0,true)] (tkPc_some (vd_good hvd (by rw [← hle,List.take_length] at hall; exact hall)) hcap)
theorem cValid (K:Kc) (hK:K.ok) (rl:List (Int×Int)) (X:RIn) (hX:X.n=rl.length) (hl:rl.length≤1000000000) (hs:X.s.length≤100000000) (pr rg:Int) :
  CallsK Tryz.prog 71 [.agg [.val (.map (some K.gF)),.val (.map (some K.gO))],.agg [.int .i64 pr,.int .i64 rg,.str X.s,.val (.slice X.q X.n X.c)]] (psOf [cdP K,rowP (relRow rl X.q X.c)]) (tkPc (vdS rl X pr rg)) vdV vdF:=cValidA K hK rl X hX hl pr rg
def aOf (g1 g2 g3 g4 g5 g6 g7 g8 g9 g10 g11 g12 g13 g14 g15 g16 g17 g18 g19 g20:Nat→Nat) (f:Fl):Nat→Nat:=match f with
 | .D=>g1
 | .A=>g2
 | .B=>g3
 | .N=>g4
 | .M=>g5
 | .P=>g6
 | .T=>g7
 | .U=>g8
 | .W=>g9
 | .V=>g10
 | .L=>g11
 | .Y=>g12
 | .F=>g13
 | .Sz=>g14
 | .Rg=>g15
 | .aN=>g16
 | .aM=>g17
 | .pN=>g18
 | .pM=>g19
 | .far=>g20
def feL (a:Fl→Nat→Nat):Nat→List Fl→List MapEntry
 | _,[]=>[]
 | i,f::l=>{ key:=.string ⟨f.name.toArray⟩,val:=fldV f (a f),born:=i }::feL a (i+1) l
def lnL:Nat→Nat→List MapEntry
 | 0,_=>[]
 | n+1,i=>{ key:=.int .i64 ((i+1:Nat):Int),val:=.string ⟨(opLine (i+1)).toArray⟩,born:=i }::lnL n (i+1)
def lnEs:Array MapEntry:=(lnL 38 0).toArray
theorem lnL_mem:∀ {n i:Nat} {e:MapEntry},e∈lnL n i→∃ o,i+1≤o∧o≤i+n∧e={ key:=.int .i64 ((o:Nat):Int),val:=.string ⟨(opLine o).toArray⟩,born:=o - 1 }
 | 0,i,e,h=>by simp [lnL] at h
 | n+1,i,e,h=>by
  simp only [lnL,List.mem_cons] at h;rcases h with rfl | h
  ·exact ⟨i+1,Nat.le_refl _,by omega,rfl⟩
  ·obtain ⟨o,h1,h2,h3⟩:=lnL_mem h;exact ⟨o,by omega,by omega,h3⟩
theorem lnL_has:∀ {n i o:Nat},i+1≤o→o≤i+n→({ key:=.int .i64 ((o:Nat):Int),val:=.string ⟨(opLine o).toArray⟩,born:=o - 1 }:MapEntry)∈lnL n i
 | 0,i,o,h1,h2=>by omega
 | n+1,i,o,h1,h2=>by
  simp only [lnL,List.mem_cons];by_cases e:o=i+1
  ·subst e; exact .inl rfl
  ·exact .inr (lnL_has (by omega) (by omega))
theorem cFieldsOp {o:Nat} (ho:isOp o=true):CallsK Tryz.prog 114 [.one (.str (opLine o))] glbF (fun _:Nat=>True)
  (fun g=>.v (.one (.row 0 (some ⟨g,0,none⟩) (opWords o).length (opWords o).length))) (fun g=>{ n:=0,slots:=[],gs:=[],heap:=[],next:=0,rows:=[(0,rowL strS [] (opWords o) (some ⟨g,0,none⟩) (opWords o).length 9 1 true)],nr:=1,pers:=[],wr:=false }):=by
 obtain ⟨h1,h2,h3⟩:=opLine_ok ho;have:=cFields (opLine o) h1 h2 h3
 rwa [opFields_ok ho] at this
def fldsL (a:Fl→Nat→Nat):List Pers:=Fl.all.flatMap fun f=>absP (a f) f.bl 0
def fldP (g:Nat) (a:Fl→Nat→Nat):Pers:=manyP (objP g (.map (feL a 0 Fl.all).toArray 20)::fldsL a)
theorem fldP_stab (g:Nat) (a:Fl→Nat→Nat):Stab (fldP g a):=manyP_stab fun p hp=>by
 rcases List.mem_cons.1 hp with rfl | hp
 ·exact objP_stab _ _
 ·obtain ⟨f,_,hp⟩:=List.mem_flatMap.1 hp;exact absP_stab p hp
theorem _root_.Go.SX.Sat.objN {C:Ctx} {ρ:Nat→Nat} {s:St} {a:Act} {w:World} {n0:Nat} {S:Nat→Prop} {g:Nat} {o:Obj} (h:Sat C ρ s a w) (i:Nat) (hp:s.pers[i]?=some (newP n0 S (objP g o))):w.heap[g]?=some o :=
 (h.pers _ (List.mem_of_getElem? hp)).1.1
theorem lnL_nodup:(lnEs.toList.map (·.born)).Nodup:=by
 have:lnEs.toList.map (·.born)=List.range 38:=kq;rw [this];exact List.nodup_range
theorem lnL_born:∀ x∈lnEs.toList,x.born<38:=by
 intro x hx;obtain ⟨o,h1,h2,rfl⟩:=lnL_mem (n:=38) (i:=0) hx;show o - 1<38;omega
def leftN (done:List Nat):List Nat:=(List.range 38).filter fun i=>!(done.contains (i+1))
theorem leftN_lt {done:List Nat} {o:Nat} (ho:isOp o=true) (hn:o ∉ done):(leftN (done++[o])).length<(leftN done).length:=by
 have h1:=(isOp_iff o).1 ho;have e:leftN (done++[o])=(leftN done).filter fun i=>!(i+1==o):=by
  unfold leftN;rw [List.filter_filter];apply List.filter_congr;intro i _;cases h:(i+1==o)<;>simp_all
 rw [e];refine List.length_filter_lt_length_iff_exists.2 ⟨o - 1,?_,?_⟩
 ·unfold leftN;rw [List.mem_filter];refine ⟨List.mem_range.2 (by omega),?_⟩;rw [show o - 1+1=o by omega];simpa using hn
 ·rw [show o - 1+1=o by omega];simp
theorem left_in {seen:Array Nat} {e:MapEntry} (h:e∈(leftOf lnEs seen).toList):e∈lnEs.toList:=by
 unfold leftOf at h;simp only [Array.toList_filter,List.mem_filter] at h;exact h.1
theorem left_mem {done:List Nat} {e:MapEntry} (h:e∈(leftOf lnEs (done.map (· - 1)).toArray).toList):∃ o,isOp o=true∧o ∉ done∧e={ key:=.int .i64 ((o:Nat):Int),val:=.string ⟨(opLine o).toArray⟩,born:=o - 1 }:=by
 have h2:=left_in h;unfold leftOf at h;simp only [Array.toList_filter,List.mem_filter] at h;obtain ⟨o,h3,h4,rfl⟩:=lnL_mem (n:=38) (i:=0) h2;refine ⟨o,(isOp_iff o).2 ⟨by omega,by omega⟩,fun hm=>?_,rfl⟩;have h5:=h.2;have h6:(done.map (· - 1)).toArray.contains (o - 1)=true:=by
  simp only [List.contains_toArray,List.contains_iff_mem,List.mem_map];exact ⟨o,hm,rfl⟩
 rw [h6] at h5;cases h5
theorem left_none {done:List Nat} (hnd:done.Nodup) (hdo:∀ o∈done,isOp o=true) (h:(leftOf lnEs (done.map (· - 1)).toArray).size=0) (o:Nat):o∈done↔isOp o=true:=by
 refine ⟨hdo o,fun ho=>?_⟩;have h1:=(isOp_iff o).1 ho;have h2:=lnL_has (n:=38) (i:=0) (o:=o) (by omega) (by omega);have h3:leftOf lnEs (done.map (· - 1)).toArray=#[]:=Array.eq_empty_of_size_eq_zero h;unfold leftOf at h3;rw [Array.filter_eq_empty_iff] at h3;have h4:=h3 _ (Array.mem_toList_iff.1 h2);simp only [List.contains_toArray,Bool.not_eq_true,Bool.not_eq_false',List.contains_iff_mem,List.mem_map] at h4;obtain ⟨o',h5,h6⟩:=h4;have h7:=(isOp_iff o').1 (hdo o' h5)
 rwa [show o=o' by omega]
theorem feL_find (a:Fl→Nat→Nat) (f:Fl):∃ i,Instr.findNow .string (.string ⟨f.name.toArray⟩) (feL a 0 Fl.all).toArray.toList 0=some (some (i,fldV f (a f))):=by
 cases f
 ·exact ⟨0,kq⟩
 ·exact ⟨1,kq⟩
 ·exact ⟨2,kq⟩
 ·exact ⟨3,kq⟩
 ·exact ⟨4,kq⟩
 ·exact ⟨5,kq⟩
 ·exact ⟨6,kq⟩
 ·exact ⟨7,kq⟩
 ·exact ⟨8,kq⟩
 ·exact ⟨9,kq⟩
 ·exact ⟨10,kq⟩
 ·exact ⟨11,kq⟩
 ·exact ⟨12,kq⟩
 ·exact ⟨13,kq⟩
 ·exact ⟨14,kq⟩
 ·exact ⟨15,kq⟩
 ·exact ⟨16,kq⟩
 ·exact ⟨17,kq⟩
 ·exact ⟨18,kq⟩
 ·exact ⟨19,kq⟩
theorem cdP_build (gF gO:Nat) (a:Fl→Nat→Nat) (q:Nat→Nat) (done:List Nat) (hall:∀ o,o∈done↔isOp o=true) :
  (∀ k,(cdP ⟨gF,gO,a,q,(feL a 0 Fl.all).toArray,20,(esL q 0 done).toArray,done.length⟩).D k→∃ p∈[objP gO (.map (esL q 0 done).toArray done.length),opsP done q,fldP gF a],p.D k) ∧
  (∀ w,(∀ p∈[objP gO (.map (esL q 0 done).toArray done.length),opsP done q,fldP gF a],p.φ w)→(cdP ⟨gF,gO,a,q,(feL a 0 Fl.all).toArray,20,(esL q 0 done).toArray,done.length⟩).φ w):=by
 have hops:∀ p∈((List.range 38).map (· + 1)).map (fun o=>rowP (wordRow o (q o))),p∈done.map (fun o=>rowP (wordRow o (q o))):=by
  intro p hp;obtain ⟨o,ho,rfl⟩:=List.mem_map.1 hp;obtain ⟨i,hi,rfl⟩:=List.mem_map.1 ho;exact List.mem_map.2 ⟨i+1,(hall _).2 ((isOp_iff _).2 ⟨by omega,by have:=List.mem_range.1 hi; omega⟩),rfl⟩
 refine ⟨fun k hk=>?_,fun w hw p hp=>?_⟩
 ·obtain ⟨p,hp,hpk⟩:=hk;rcases List.mem_append.1 hp with hp | hp
  ·simp only [List.mem_cons,List.not_mem_nil,or_false] at hp;rcases hp with rfl | rfl | rfl
   ·exact ⟨fldP gF a,by simp,_,List.mem_cons_self ..,hpk⟩
   ·exact ⟨_,List.mem_cons_self ..,hpk⟩
   ·obtain ⟨p',hp',hpk'⟩:=hpk;exact ⟨opsP done q,by simp,p',hops p' hp',hpk'⟩
  ·exact ⟨fldP gF a,by simp,p,List.mem_cons_of_mem _ hp,hpk⟩
 ·have w1:=hw _ (List.mem_cons_self ..);have w2:=hw _ (List.mem_cons_of_mem _ (List.mem_cons_self ..));have w3:=hw _ (List.mem_cons_of_mem _ (List.mem_cons_of_mem _ (List.mem_cons_self ..)));rcases List.mem_append.1 hp with hp | hp
  ·simp only [List.mem_cons,List.not_mem_nil,or_false] at hp;rcases hp with rfl | rfl | rfl
   ·exact w3 _ (List.mem_cons_self ..)
   ·exact w1
   ·exact fun p' hp'=>w2 p' (hops p' hp')
  ·exact w3 p (List.mem_cons_of_mem _ hp)
structure LI where
 done:List Nat
 q:Nat→Nat
def lcSt (n0:Nat) (S:Nat→Prop) (gF gO gL it:Nat) (a:Fl→Nat→Nat) (j:LI):St :=
 { n:=58,slots:=[(0,.v (.one (.ptr 0 0))),(7,.v (.one (.ptr 1 0))),(46,.v (.one (.val (.pointer (some ⟨it,0,none⟩)))))],gs:=[],
    heap:=[(0,⟨[.val (.map none),.val (.map none)],110,true⟩),(1,⟨[.val (.map (some gF)),.val (.map (some gO))],110,true⟩)],next:=2,
    rows:=[(0,objRow gO (.map (esL j.q 0 j.done).toArray j.done.length)),(1,objRow it (.mapIter (some gL) 38 (j.done.map (· - 1)).toArray 38))],nr:=2,
    pers:=[newP n0 S (opsP j.done j.q),newP n0 S (fldP gF a),newP n0 S (objP gL (.map lnEs 38)),glbP],wr:=true,fx:=0 }
theorem esL_push (q:Nat→Nat) (o gw:Nat) (done:List Nat) (hno:o ∉ done):(esL q 0 done).toArray.push { key:=.int .i64 (o:Int),val:=wordV o gw,born:=done.length }=(esL (fun x=>if x=o then gw else q x) 0 (done++[o])).toArray:=by
 rw [esL_snoc,esL_congr (q:=fun x=>if x=o then gw else q x) (q':=q) (fun x hx=>if_neg (fun e:x=o=>hno (e▸hx)))];simp
theorem opsP_snoc (q:Nat→Nat) (o gw:Nat) (done:List Nat) (hno:o ∉ done) :
  (∀ k,(opsP (done++[o]) (fun x=>if x=o then gw else q x)).D k→∃ p∈[rowP (wordRow o gw),opsP done q],p.D k) ∧
  (∀ w,(∀ p∈[rowP (wordRow o gw),opsP done q],p.φ w)→(opsP (done++[o]) (fun x=>if x=o then gw else q x)).φ w):=by
 have key:∀ p∈(done++[o]).map (fun x=>rowP (wordRow x (if x=o then gw else q x))),p=rowP (wordRow o gw)∨p∈done.map (fun x=>rowP (wordRow x (q x))):=by
  intro p hp;obtain ⟨x,hx,rfl⟩:=List.mem_map.1 hp;rcases List.mem_append.1 hx with hx | hx
  ·right
   rw [if_neg (fun e:x=o=>hno (e▸hx))];exact List.mem_map.2 ⟨x,hx,rfl⟩
  ·left
   rw [List.mem_singleton.1 hx,if_pos rfl]
 refine ⟨fun k hk=>?_,fun w hw p hp=>?_⟩
 ·obtain ⟨p,hp,hpk⟩:=hk;rcases key p hp with rfl | h
  ·exact ⟨_,List.mem_cons_self ..,hpk⟩
  ·exact ⟨opsP done q,by simp,p,h,hpk⟩
 ·rcases key p hp with rfl | h
  ·exact hw _ (List.mem_cons_self ..)
  ·exact hw _ (List.mem_cons_of_mem _ (List.mem_cons_self ..)) p h
theorem absP_at {g:Nat→Nat}:∀ {l:List (List SV×TypeId)} {i j:Nat},j<l.length→∃ cells e,blkP (g (i+j)) cells e∈absP g l i
 | (cells,e)::l,i,0,_=>⟨cells,e,List.mem_cons_self ..⟩
 | (cells,e)::l,i,j+1,h=>by
  obtain ⟨c',e',hm⟩:=absP_at (g:=g) (l:=l) (i:=i+1) (j:=j) (by simpa using h);refine ⟨c',e',List.mem_cons_of_mem _ ?_⟩
  rwa [show i+1+j=i+(j+1) by omega] at hm
theorem fld12 {C:Ctx} {ρ ρ0:Nat→Nat} {s:St} {a':Act} {w w0:World} {gF:Nat} {a:Fl→Nat→Nat} (h12:12≤w0.heap.size) (hS:Sat C ρ s a' w) (hp:newP w0.heap.size (touch ρ0 glbF) (fldP gF a)∈s.pers) (f:Fl) (j:Nat) (hj:j<f.bl.length):12≤a f j:=by
 obtain ⟨cells,e,hm⟩:=absP_at (g:=a f) (i:=0) hj;rw [Nat.zero_add] at hm;have h1:=(hS.pers _ hp).1.2 (a f j) ⟨_,List.mem_cons_of_mem _ (List.mem_flatMap.2 ⟨f,f.mem_all,hm⟩),rfl⟩;rcases h1 with h1 | ⟨b,blk,hb,_⟩ | ⟨r,R,hR,_⟩
 ·omega
 ·cases hb
 ·cases hR
def skipT:Nat→List Item→List Item
 | 0,k=>k
 | n+1,k=>match k with
  | .code (.seq a b)::k=>skipT n (.code a::.code b::k)
  | .code (.block id body)::k=>skipT n (.code body::.inBlock id::k)
  | .code (.scope body)::k=>skipT n (.code body::.inScope body::k)
  | .code (.region _ _ _)::k=>skipT n k
  | .code .skip::k=>skipT n k
  | .code (.label _)::k=>skipT n k
  | .inBlock _::k=>skipT n k
  | .inScope _::k=>skipT n k
  | .code (.loop b)::k=>.code b::.inLoop b::k
  | k=>k
noncomputable def newT:List Item:=skipT 100 [.code (bodyOf Tryz.f58)]
set_option maxHeartbeats 1000000 in
theorem cNew_loop (ρ0:Nat→Nat) (w0:World) (gF gO gL it:Nat) (a:Fl→Nat→Nat) (h12:12≤w0.heap.size) (j0:LI) (hj0:j0.done.Nodup∧∀ o∈j0.done,isOp o=true) :
  V ⟨Tryz.prog,58,GivesK ρ0 glbF Kc.ok Kc.val (fun K=>psOf [cdP K]) w0,touch ρ0 glbF,w0,ρ0,none⟩ ⟨newT,lcSt w0.heap.size (touch ρ0 glbF) gF gO gL it a j0⟩:=by
 refine V.loopTo (c:=⟨newT,lcSt w0.heap.size (touch ρ0 glbF) gF gO gL it a j0⟩) [0,7,46] [0,1] [0,1] [true,true,true,true] (fun j:LI=>(leftN j.done).length) (lcSt w0.heap.size (touch ρ0 glbF) gF gO gL it a) (fun j=>j.done.Nodup∧∀ o∈j.done,isOp o=true) j0 kq hj0 (fun j hj ih=>?_);obtain ⟨done,q⟩:=j;obtain ⟨hnd,hdo⟩:=hj;simp only at hnd hdo ih;refine V.q ?_;refine V.next it 1 gL 38 38 38 (done.map (· - 1)).toArray lnEs kq kq (fun ρ a w hS=>hS.objN (n0:=w0.heap.size) (S:=touch ρ0 glbF) 2 kq) lnL_born (Nat.le_refl _) kq (fun e he=>kq) (fun hsz=>?_) (fun e he=>?_)
 ·have hall:=left_none hnd hdo hsz;refine V.q ?_;refine V.freezeObj 0 gO (.map (esL q 0 done).toArray done.length) kq ?_;obtain ⟨b1,b2⟩:=cdP_build gF gO a q done hall;refine V.persNew [(0,true),(1,true),(2,true)] [objP gO (.map (esL q 0 done).toArray done.length),opsP done q,fldP gF a] (cdP ⟨gF,gO,a,q,(feL a 0 Fl.all).toArray,20,(esL q 0 done).toArray,done.length⟩) kq kq b1 b2 (cdP_stab _) ?_;refine V.have (fun ρ a' w hS=>fld12 (ρ0:=ρ0) (w0:=w0) (gF:=gF) (a:=a) h12 hS (List.mem_of_getElem? (i:=3) kq)) (fun hk12=>?_);exact V.e (⟨gF,gO,a,q,(feL a 0 Fl.all).toArray,20,(esL q 0 done).toArray,done.length⟩:Kc) [(0,true)] ⟨hk12,feL_find _,done,hnd,hall,rfl,rfl⟩
 ·obtain ⟨o,hop,hno,hee⟩:=left_mem he;have hes:(done.map (· - 1)).toArray.push e.born=((done++[o]).map (· - 1)).toArray:=by rw [hee]; simp
  refine V.q ?_;refine V.entry it 1 gL 38 38 (done.map (· - 1)).toArray lnEs e kq kq (fun ρ a w hS=>hS.objN (n0:=w0.heap.size) (S:=touch ρ0 glbF) 2 kq) (left_in he) lnL_nodup kq ?_;rw [hes];subst hee;refine V.q ?_;refine V.s 8 (.one (.val (.int .i64 (o:Int)))) (.one (.int .i64 (o:Int))) (fun _=>rfl) ?_;refine V.s 9 (.one (.val (.string ⟨(opLine o).toArray⟩))) (.one (.str (opLine o))) (fun _=>rfl) ?_;refine V.drawX [] [0] 5 kq ?_;refine @VX.run _ [] [0] 5 _ _ ([]:List (Ent Tryz.prog)) [] kq kq trivial ?_;refine @VX.callK _ [] [0] 5 _ _ Nat 114 [.one (.str (opLine o))] glbF _ _ _ [(3,false)] (cFieldsOp hop) kq kq kq (fun _=>kq) (fun gw _=>?_);refine @VX.run _ [] [0] 5 _ _ ([]:List (Ent Tryz.prog)) [] kq kq trivial ?_;refine @VX.insert _ [] [0] 5 _ _ 108 3 118 (.int .i64) gO 0 (.one (.int .i64 (o:Int))) (.one (.row 2 (some ⟨gw,0,none⟩) (opWords o).length (opWords o).length)) (.int .i64 (o:Int)) (wordV o gw) (esL q 0 done).toArray done.length kq kq kq kq kq kq (fun _=>rfl) (fun _=>rfl)
   (esL_find_none (fun o' ho'=>by have:o'≠o:=(fun e=>hno (e▸ho')); omega)) kq ?_
  rw [esL_push q o gw done hno,show done.length+1=(done++[o]).length by simp];refine V.freeze 2 (rowL strS [] (opWords o) (some ⟨gw,0,none⟩) (opWords o).length 9 1 true) kq kq ?_;obtain ⟨b1,b2⟩:=opsP_snoc q o gw done hno;refine V.persNew [(0,true),(1,true)] [rowP (wordRow o gw),opsP done q] (opsP (done++[o]) (fun x=>if x=o then gw else q x)) kq kq b1 b2 (opsP_stab _ _) ?_;refine V.q ?_;refine V.iter ?_;refine V.back [0,7,46] [0,1] [0,1] [true,false,false,true,true,true] (ih ⟨done++[o],fun x=>if x=o then gw else q x⟩ ⟨?_,?_⟩ (leftN_lt hop hno)) kq kq
  ·exact List.nodup_append.2 ⟨hnd,by simp,fun x hx y hy=>by rw [List.mem_singleton.1 hy]; exact fun e=>hno (e▸hx)⟩
  ·intro x hx;rcases List.mem_append.1 hx with hx | hx
   ·exact hdo x hx
   ·rw [List.mem_singleton.1 hx]; exact hop
set_option maxHeartbeats 1000000 in
theorem cNew0:CallsK Tryz.prog 58 [] glbF Kc.ok Kc.val (fun K=>psOf [cdP K]):=by
 refine CallsK.mkF true Tryz.func58 kq kq (fun ρ0 w0 hF0=>?_);refine V.q ?_;refine V.mkMap 107 kq (fun _=>kq) (fun gF=>?_);refine V.q ?_;refine V.c [] ((kRegister 92).args [.one (.fn 92 [])] (fun _=>rfl)) (fun g1 _=>?_);refine V.runM [] 0 1 [] [(gF,gF)] kq kq trivial (fun p hp=>by rw [List.mem_singleton.1 hp]) ?_;refine V.q ?_;refine V.c [] ((kRegister 93).args [.one (.fn 93 [])] (fun _=>rfl)) (fun g2 _=>?_);refine V.runM [] 0 1 [] [(gF,gF)] kq kq trivial (fun p hp=>by rw [List.mem_singleton.1 hp]) ?_;refine V.q ?_;refine V.c [] ((kRegister 94).args [.one (.fn 94 [])] (fun _=>rfl)) (fun g3 _=>?_);refine V.runM [] 0 1 [] [(gF,gF)] kq kq trivial (fun p hp=>by rw [List.mem_singleton.1 hp]) ?_;refine V.q ?_;refine V.c [] ((kNumber 95).args [.one (.fn 95 [])] (fun _=>rfl)) (fun g4 _=>?_);refine V.runM [] 0 1 [] [(gF,gF)] kq kq trivial (fun p hp=>by rw [List.mem_singleton.1 hp]) ?_;refine V.q ?_;refine V.c [] ((kNumber 96).args [.one (.fn 96 [])] (fun _=>rfl)) (fun g5 _=>?_);refine V.runM [] 0 1 [] [(gF,gF)] kq kq trivial (fun p hp=>by rw [List.mem_singleton.1 hp]) ?_;refine V.q ?_;refine V.c [] ((kNumber 97).args [.one (.fn 97 [])] (fun _=>rfl)) (fun g6 _=>?_);refine V.runM [] 0 1 [] [(gF,gF)] kq kq trivial (fun p hp=>by rw [List.mem_singleton.1 hp]) ?_;refine V.q ?_;refine V.c [] ((kTyped 101).args [.one (.fn 101 [])] (fun _=>rfl)) (fun g7 _=>?_);refine V.runM [] 0 1 [] [(gF,gF)] kq kq trivial (fun p hp=>by rw [List.mem_singleton.1 hp]) ?_;refine V.q ?_;refine V.c [] ((kTyped 102).args [.one (.fn 102 [])] (fun _=>rfl)) (fun g8 _=>?_);refine V.runM [] 0 1 [] [(gF,gF)] kq kq trivial (fun p hp=>by rw [List.mem_singleton.1 hp]) ?_;refine V.q ?_;refine V.c [] ((kTyped 103).args [.one (.fn 103 [])] (fun _=>rfl)) (fun g9 _=>?_);refine V.runM [] 0 1 [] [(gF,gF)] kq kq trivial (fun p hp=>by rw [List.mem_singleton.1 hp]) ?_;refine V.q ?_;refine V.c [] (kValue) (fun g10 _=>?_);refine V.runM [] 0 1 [] [(gF,gF)] kq kq trivial (fun p hp=>by rw [List.mem_singleton.1 hp]) ?_;refine V.q ?_;refine V.c [] (kRegs) (fun g11 _=>?_);refine V.runM [] 0 1 [] [(gF,gF)] kq kq trivial (fun p hp=>by rw [List.mem_singleton.1 hp]) ?_;refine V.q ?_;refine V.c [] (kTypes) (fun g12 _=>?_);refine V.runM [] 0 1 [] [(gF,gF)] kq kq trivial (fun p hp=>by rw [List.mem_singleton.1 hp]) ?_;refine V.q ?_;refine V.c [] (kFormats) (fun g13 _=>?_);refine V.runM [] 0 1 [] [(gF,gF)] kq kq trivial (fun p hp=>by rw [List.mem_singleton.1 hp]) ?_;refine V.q ?_;refine V.c [] ((kFlag 109).args [.one (.fn 109 [])] (fun _=>rfl)) (fun g14 _=>?_);refine V.runM [] 0 1 [] [(gF,gF)] kq kq trivial (fun p hp=>by rw [List.mem_singleton.1 hp]) ?_;refine V.q ?_;refine V.c [] ((kFlag 110).args [.one (.fn 110 [])] (fun _=>rfl)) (fun g15 _=>?_);refine V.runM [] 0 1 [] [(gF,gF)] kq kq trivial (fun p hp=>by rw [List.mem_singleton.1 hp]) ?_;refine V.q ?_;refine V.c [] ((kPlace 95).args [.one (.fn 95 [])] (fun _=>rfl)) (fun g16 _=>?_);refine V.runM [] 0 1 [] [(gF,gF)] kq kq trivial (fun p hp=>by rw [List.mem_singleton.1 hp]) ?_;refine V.q ?_;refine V.c [] ((kPlace 96).args [.one (.fn 96 [])] (fun _=>rfl)) (fun g17 _=>?_);refine V.runM [] 0 1 [] [(gF,gF)] kq kq trivial (fun p hp=>by rw [List.mem_singleton.1 hp]) ?_;refine V.q ?_;refine V.c [] ((kProc 95 false).args [.one (.fn 95 []),.one (.bool false)] (fun _=>rfl)) (fun g18 _=>?_);refine V.runM [] 0 1 [] [(gF,gF)] kq kq trivial (fun p hp=>by rw [List.mem_singleton.1 hp]) ?_;refine V.q ?_;refine V.c [] ((kProc 96 true).args [.one (.fn 96 []),.one (.bool true)] (fun _=>rfl)) (fun g19 _=>?_);refine V.runM [] 0 1 [] [(gF,gF)] kq kq trivial (fun p hp=>by rw [List.mem_singleton.1 hp]) ?_;refine V.q ?_;refine V.c [] (kFar) (fun g20 _=>?_);refine V.runM [] 0 1 [] [(gF,gF)] kq kq trivial (fun p hp=>by rw [List.mem_singleton.1 hp]) ?_;refine V.q ?_;refine V.mkMap 108 kq (fun _=>kq) (fun gO=>?_);refine V.q ?_;refine V.mkMap 86 kq (fun _=>kq) (fun gL=>?_);refine V.runM [] 2 38 [] (List.replicate 38 (gL,gL)) kq kq trivial (fun p hp=>by rw [List.eq_of_mem_replicate hp]) ?_;refine V.q ?_;refine V.freezeObj 2 gL (.map lnEs 38) kq ?_;refine V.freezeObj 0 gF (.map (feL (aOf g1 g2 g3 g4 g5 g6 g7 g8 g9 g10 g11 g12 g13 g14 g15 g16 g17 g18 g19 g20) 0 Fl.all).toArray 20) kq ?_;refine V.persNew [(0,true),(42,true),(43,true),(40,true),(41,true),(38,true),(39,true),(37,true),(36,true),(35,true),(34,true),(33,true),(32,true),(26,true),(27,true),(28,true),(29,true),(30,true),(31,true),(20,true),(21,true),(22,true),(23,true),(24,true),(25,true),(14,true),(15,true),(16,true),(17,true),(18,true),(19,true),(13,true),(12,true),(10,true),(11,true),(8,true),(9,true),(5,true),(6,true),(7,true),(2,true),(3,true),(4,true)] (objP gF (.map (feL (aOf g1 g2 g3 g4 g5 g6 g7 g8 g9 g10 g11 g12 g13 g14 g15 g16 g17 g18 g19 g20) 0 Fl.all).toArray 20)::fldsL (aOf g1 g2 g3 g4 g5 g6 g7 g8 g9 g10 g11 g12 g13 g14 g15 g16 g17 g18 g19 g20)) (fldP gF (aOf g1 g2 g3 g4 g5 g6 g7 g8 g9 g10 g11 g12 g13 g14 g15 g16 g17 g18 g19 g20)) kq kq (fun k hk=>hk) (fun w hw=>hw) (fldP_stab _ _) ?_;refine V.persNew [] [] (opsP [] (fun _=>0)) kq kq (fun k hk=>by obtain ⟨q,hq,_⟩:=hk; exact absurd hq (List.not_mem_nil)) (fun w hw q hq=>absurd hq (List.not_mem_nil)) (opsP_stab _ _) ?_;refine V.range 86 3 9 gL lnEs 38 kq kq (fun ρ a w hS=>hS.objN (n0:=w0.heap.size) (S:=touch ρ0 glbF) 3 kq) (fun _=>kq) (fun it=>?_);refine V.q ?_;refine V.iter ?_;refine V.back [0,7,46] [0,1] [1,3] ([true,true,false,true]++List.replicate 42 false++[true]) (cNew_loop ρ0 w0 gF gO gL it (aOf g1 g2 g3 g4 g5 g6 g7 g8 g9 g10 g11 g12 g13 g14 g15 g16 g17 g18 g19 g20) ((hF0.pers glbP (List.mem_singleton.2 rfl)).2.2 11 (by show 11<12; decide)).1 ⟨[],fun _=>0⟩ ⟨List.nodup_nil,fun o ho=>absurd ho (List.not_mem_nil)⟩) kq kq
def newW:WSt:=⟨[],none,0,[],none,0⟩
theorem xNumber (n:Int):CallsK Tryz.prog 16 [.one (.int .i64 n)] noF (fun _:Unit=>True) (fun _=>.tup [.one (.str (bif isNum n then encN n else [])),.one (.int .i64 (bif isNum n then 0 else 1))]) (fun _=>noF):=by
 refine CallsK.m true Tryz.func16 (fun ρ w=>?_);refine V.t [aIsNum.e] [] trivial ?_;by_cases h:isNum n=true
 ·rw [h];refine V.kn 7 (!(isNum n)) false (by rw [h]; rfl) ?_;refine V.q ?_;refine V.nilB bsv 0 0 0 ⟨[.val (.slice none 0 0),.val (.slice none 0 0)],99,true⟩ 5 1 kq rfl ?_;refine V.nilB rlv (0,0) 0 1 ⟨[.row 0 none 0 0,.val (.slice none 0 0)],99,true⟩ 62 2 kq rfl ?_;have h32:=isNum_32 h;refine V.c [] (cNum n newW h32.1 h32.2 (by decide)) (fun b hb=>?_);refine V.q ?_;obtain ⟨bs,q,c,rs,q2,c2⟩:=b;obtain ⟨h1,h2⟩:=hb;simp only [newW,List.nil_append] at h1;subst h1;refine V.bytes 2 (rowL bsv 0 (groups 9 (zz n)) q c 5 1 true) (groups 9 (zz n)) kq rfl (fun _ _=>rfl) kq ?_;refine V.q ?_;exact V.z
 ·have h:isNum n=false:=by simpa using h
  rw [h];refine V.kn 7 (!(isNum n)) true (by rw [h]; rfl) ?_;refine V.q ?_;exact V.z
def xIn (b:List UInt8):RIn:=⟨b,none,0,0⟩
def rnB (b:List UInt8) (n:Int):Bool:=decide (n<0)||decide (n>(b.length:Int))
def rnR (b:List UInt8) (n:Int):Int×RSt:=rdNum (xIn b) ⟨n.toNat,false⟩
def rnV (b:List UInt8) (n:Int):RV:=.tup [.one (.int .i64 (bif rnB b n||(rnR b n).2.bad then 0 else (rnR b n).1)),.one (.int .i64 (bif rnB b n||(rnR b n).2.bad then 0 else ((rnR b n).2.at_:Int))),.one (.int .i64 (bif rnB b n then 1 else bif (rnR b n).2.bad then 220 else 0))]
theorem xReadNumber (b:List UInt8) (n:Int) (hb:b.length≤1000000000):CallsK Tryz.prog 18 [.one (.str b),.one (.int .i64 n)] noF (fun _:Unit=>True) (fun _=>rnV b n) (fun _=>noF):=by
 refine CallsK.m false Tryz.func18 (fun ρ w=>?_);refine V.q ?_;by_cases hB:rnB b n=true
 ·unfold rnV;rw [hB];refine V.kn 16 (rnB b n) true hB ?_;refine V.q ?_;exact V.z
 ·have hB:rnB b n=false:=by simpa using hB
  obtain ⟨k,hk⟩:∃ k:Nat,n=(k:Int):=⟨n.toNat,by unfold rnB at hB; simp at hB; omega⟩;have hkl:k≤b.length:=by unfold rnB at hB; simp at hB; omega
  have hok:okIn (xIn b) ⟨k,false⟩:=⟨hb,hkl⟩;have hR:rnR b n=rdNum (xIn b) ⟨k,false⟩:=by unfold rnR; rw [hk]; rfl
  unfold rnV;rw [hB,hR];refine V.kn 16 (rnB b n) false hB ?_;refine V.q ?_;refine V.soft 0 ?_;refine V.cellAs 0 1 ⟨[.str b,.int .i64 n,.val (.slice none 0 0),.sb false],104,true⟩ (.int .i64 n) (.int .i64 (k:Int)) kq rfl kq (fun _=>by rw [hk]) ?_;refine V.c [] (cRNum (xIn b) ⟨k,false⟩ hok) (fun r hr=>?_);subst hr;refine V.q ?_;by_cases hbd:(rdNum (xIn b) ⟨k,false⟩).2.bad=true
  ·rw [hbd];refine V.kn 26 ((rdNum (xIn b) ⟨k,false⟩).2.bad) true hbd ?_;refine V.q ?_;exact V.z
  ·have hbd:(rdNum (xIn b) ⟨k,false⟩).2.bad=false:=by simpa using hbd
   rw [hbd];refine V.kn 26 ((rdNum (xIn b) ⟨k,false⟩).2.bad) false hbd ?_;refine V.q ?_;exact V.z
theorem xCheck (x:In) (A:IA) (hx:x.okL):CallsK Tryz.prog 20 [.agg (inV x A)] (stP (glbP::lsP x A)) (fun _:Unit=>True) (fun _=>.v (.one (.int .i64 (bif cFine x then 0 else 170)))) (fun _=>noF):=by
 by_cases h:cFine x=true
 ·rw [h];refine CallsK.m true Tryz.func20 (fun ρ w=>?_);refine V.q ?_;refine V.drawX [] [] 4 kq ?_;refine @VX.run _ [] [] 4 _ _ ([]:List (Ent Tryz.prog)) [] kq kq trivial ?_;refine @VX.callK _ [] [] 4 _ _ Kc 58 [] glbF _ _ _ [(0,false)] cNew0 kq kq kq (fun _=>kq) (fun K hK=>?_);refine @VX.run _ [] [] 4 _ _ ([]:List (Ent Tryz.prog)) [] kq kq trivial ?_;refine @VX.callK _ [] [] 4 _ _ Unit 59 [.agg [.val (.map (some K.gF)),.val (.map (some K.gO))],.agg (inV x A)] (stP (cdP K::lsP x A)) _ _ _ [(0,true),(2,false),(3,false),(4,false)] (cFineK K hK x A hx) kq kq kq (fun _=>kq) (fun _ _=>?_);refine @VX.run _ [] [] 4 _ _ ([]:List (Ent Tryz.prog)) [] kq kq trivial ?_;refine @VX.stop _ [] [] 4 _ _ kq ?_;refine V.q ?_;refine V.kn 6 (!(cFine x)) false (by rw [h]; rfl) ?_;refine V.q ?_;exact V.z
 ·have h:cFine x=false:=by simpa using h
  rw [h];refine CallsK.m true Tryz.func20 (fun ρ w=>?_);refine V.q ?_;refine V.drawX [] [] 4 kq ?_;refine @VX.run _ [] [] 4 _ _ ([]:List (Ent Tryz.prog)) [] kq kq trivial ?_;refine @VX.callK _ [] [] 4 _ _ Kc 58 [] glbF _ _ _ [(0,false)] cNew0 kq kq kq (fun _=>kq) (fun K hK=>?_);refine @VX.run _ [] [] 4 _ _ ([]:List (Ent Tryz.prog)) [] kq kq trivial ?_;refine @VX.callK _ [] [] 4 _ _ Unit 59 [.agg [.val (.map (some K.gF)),.val (.map (some K.gO))],.agg (inV x A)] (stP (cdP K::lsP x A)) _ _ _ [(0,true),(2,false),(3,false),(4,false)] (cFineK K hK x A hx) kq kq kq (fun _=>kq) (fun _ _=>?_);refine @VX.run _ [] [] 4 _ _ ([]:List (Ent Tryz.prog)) [] kq kq trivial ?_;refine @VX.stop _ [] [] 4 _ _ kq ?_;refine V.q ?_;refine V.kn 6 (!(cFine x)) true (by rw [h]; rfl) ?_;refine V.q ?_;exact V.z
theorem xEncode (x:In) (A:IA) (hx:x.okL) (h:cFine x=true):CallsK Tryz.prog 29 [.agg (inV x A)] (stP (glbP::lsP x A)) (fun _:Option Addr×Nat=>True) (fun qc=>.tup [.one (.str (cEnc x).1),.one (.row 0 qc.1 (cEnc x).2.length qc.2),.one (.int .i64 0)]) (rsF (cEnc x).2):=by
 have hf:=cFine_ok h;refine CallsK.m true Tryz.func29 (fun ρ w=>?_);refine V.q ?_;refine V.c [(0,false)] cNew0 (fun K hK=>?_);refine V.q ?_;refine V.c [(0,true),(2,false),(3,false),(4,false)] (cFineK K hK x A hx) (fun _ _=>?_);refine V.q ?_;refine V.kn 12 (!(cFine x)) false (by rw [h]; rfl) ?_;refine V.q ?_;refine V.c [(0,true),(2,false),(3,false),(4,false)] (cEncode K hK x A hx hf.1 hf.2) (fun qc _=>?_);refine V.q ?_;exact V.e (qc:Option Addr×Nat) [] trivial
theorem xText (x:In) (A:IA) (hx:x.okL) (o:Nat) (hisop:isOp o=true) (ho:x.op=(o:Int)) (htk:(opFls o).all (fun f=>f.tok x)=true) (h:cFine x=true):CallsK Tryz.prog 22 [.agg (inV x A)] (stP (glbP::lsP x A)) (fun _:Unit=>True) (fun _=>.tup [.one (.str (lineT x o)),.one (.int .i64 0)]) (fun _=>noF):=by
 refine CallsK.m true Tryz.func22 (fun ρ w=>?_);refine V.q ?_;refine V.c [(0,false)] cNew0 (fun K hK=>?_);refine V.q ?_;refine V.c [(0,true),(2,false),(3,false),(4,false)] (cFineK K hK x A hx) (fun _ _=>?_);refine V.q ?_;refine V.kn 9 (!(cFine x)) false (by rw [h]; rfl) ?_;refine V.q ?_;refine V.c [(0,true),(1,false),(2,false),(3,false),(4,false)] (cLine K hK x A hx o hisop ho htk) (fun _ _=>?_);refine V.q ?_;exact V.z
def zIns:CV:=.agg inZ
theorem xParse (s:List UInt8) (ws:List (List UInt8)) (x:In) (hws:splS s [32]=ws) (hs:s.length<4294967281) (hn:ws.length=Lib.countB ⟨s.toArray⟩ ⟨[32].toArray⟩+1) (hm:ws.length≤2000000)
  (hpok:∀ o,rdFind (ws.getD 0 [])=some o→ws.length=(opFls o).length+1→∀ i,i<(opFls o).length→((opFls o).getD i .D).pok (ws.getD (i+1) [])=true) (hx:cReadS ws=some x) :
  CallsK Tryz.prog 24 [.one (.str s)] glbF (fun y:In×IA=>y.1=x) (fun y=>.tup [.agg (inV y.1 y.2),.one (.int .i64 0)]) (fun y=>psOf (lsP y.1 y.2)):=by
 refine CallsK.m true Tryz.func24 (fun ρ w=>?_);refine V.q ?_;refine V.c [(0,false)] cNew0 (fun K hK=>?_);refine V.q ?_;refine V.c [(0,true),(1,false)] (cRead K hK s ws hws hs hn hm hpok) (fun y hy=>?_);have hy':y.1=x∧y.2.2=true:=by unfold rdP at hy; rw [hx] at hy; exact hy
 refine V.q ?_;refine V.kn 13 (!y.2.2) false (by rw [hy'.2]; rfl) ?_;refine V.q ?_;exact V.e ((y.1,y.2.1):In×IA) [(0,true),(1,true),(2,true)] hy'.1
theorem xParseNo (s:List UInt8) (ws:List (List UInt8)) (hws:splS s [32]=ws) (hs:s.length<4294967281) (hn:ws.length=Lib.countB ⟨s.toArray⟩ ⟨[32].toArray⟩+1) (hm:ws.length≤2000000)
  (hpok:∀ o,rdFind (ws.getD 0 [])=some o→ws.length=(opFls o).length+1→∀ i,i<(opFls o).length→((opFls o).getD i .D).pok (ws.getD (i+1) [])=true) (hx:cReadS ws=none) :
  CallsK Tryz.prog 24 [.one (.str s)] glbF (fun _:Unit=>True) (fun _=>.tup [zIns,.one (.int .i64 222)]) (fun _=>noF):=by
 refine CallsK.m true Tryz.func24 (fun ρ w=>?_);refine V.q ?_;refine V.c [(0,false)] cNew0 (fun K hK=>?_);refine V.q ?_;refine V.c [(0,true),(1,false)] (cRead K hK s ws hws hs hn hm hpok) (fun y hy=>?_);have hy':y.2.2=false:=by unfold rdP at hy; rw [hx] at hy; exact hy
 refine V.q ?_;refine V.kn 13 (!y.2.2) true (by rw [hy']; rfl) ?_;refine V.q ?_;exact V.z
theorem xDecode (rl:List (Int×Int)) (X:RIn) (hX:X.n=rl.length) (hl:rl.length≤1000000000) (at_:Nat) (hok:okIn X ⟨at_,false⟩) (h:cDecOk rl X at_=true) :
  CallsK Tryz.prog 30 [.one (.str X.s),.one (.val (.slice X.q X.n X.c)),.one (.int .i64 (at_:Int))] (psOf [glbP,rowP (relRow rl X.q X.c)]) (fun y:In×IA=>y.1=(cDecR rl X at_).2) (fun y=>.tup [.agg (inV y.1 y.2),.one (.int .i64 (cDecR rl X at_).1.at_),.one (.int .i64 0)]) (fun y=>psOf (lsP y.1 y.2)):=by
 refine CallsK.m true Tryz.func30 (fun ρ w=>?_);refine V.q ?_;refine V.kn 19 (decide ((at_:Int)<0)||decide ((at_:Int)>(X.s.length:Int))) false (by have:=hok.2; simp only at this; simp; omega) ?_;refine V.q ?_;refine V.c [(0,false)] cNew0 (fun K hK=>?_);refine V.q ?_;refine V.c [(0,true),(2,false)] (cDecode K hK rl X hX hl at_ hok) (fun y hy=>?_);refine V.q ?_;refine V.kn 31 (!(cDecOk rl X at_)) false (by rw [h]; rfl) ?_;refine V.q ?_;exact V.e (y:In×IA) [(0,true),(1,true),(2,true)] hy
def modC (pr rg:Int) (X:RIn):CV:=.agg [.int .i64 pr,.int .i64 rg,.str X.s,.val (.slice X.q X.n X.c)]
theorem xPlaces (rl:List (Int×Int)) (X:RIn) (hX:X.n=rl.length) (hl:rl.length≤1000000000) (hs:X.s.length≤100000000) (pr rg:Int) (s:List In×List Int) (h:vdS rl X pr rg=some s) :
  CallsK Tryz.prog 31 [modC pr rg X] (psOf [glbP,rowP (relRow rl X.q X.c)]) (fun qc:Option Addr×Nat=>s.2.length≤qc.2) (fun qc=>.tup [.one (.val (.slice qc.1 s.2.length qc.2)),.one (.int .i64 0)]) (fun qc=>psOf [rowP (rowL intv 0 s.2 qc.1 qc.2 3 1 false)]):=by
 refine CallsK.m true Tryz.func31 (fun ρ w=>?_);refine V.q ?_;refine V.drawX [] [] 10 kq ?_;refine @VX.run _ [] [] 10 _ _ ([]:List (Ent Tryz.prog)) [] kq kq trivial ?_;refine @VX.callK _ [] [] 10 _ _ Kc 58 [] glbF _ _ _ [(0,false)] cNew0 kq kq kq (fun _=>kq) (fun K hK=>?_);refine @VX.run _ [] [] 10 _ _ ([]:List (Ent Tryz.prog)) [] kq kq trivial ?_;refine @VX.callK _ [] [] 10 _ _ (Option TK) 71 [.agg [.val (.map (some K.gF)),.val (.map (some K.gO))],modC pr rg X] (psOf [cdP K,rowP (relRow rl X.q X.c)]) _ _ _ [(0,true),(2,false)] (cValid K hK rl X hX hl hs pr rg) kq kq kq (fun t=>by cases t<;>kernel_rfl) (fun t ht=>?_);unfold tkPc at ht;rw [h] at ht;have hcap:=ht.2;obtain ⟨t',rfl,h1,h2⟩:=ht.1;have hcap:=hcap t' rfl;obtain ⟨l,q,c,p,q',c'⟩:=t';obtain ⟨s1,s2⟩:=s;simp only at h1 h2 hcap;subst h2;refine @VX.run _ [] [] 10 _ _ ([]:List (Ent Tryz.prog)) [] kq kq trivial ?_;refine @VX.stop _ [] [] 10 _ _ kq ?_;refine V.q ?_;refine V.kn 15 (!true) false rfl ?_;refine V.q ?_;exact V.e ((q',c'):Option Addr×Nat) [(2,true)] hcap
end Go.Proofs
end
section
namespace Go.SX
def dropK {α:Type} (p:Nat→Bool):List (Nat×α)→List (Nat×α)
 | []=>[]
 | (k,v)::l=>match p k with
  | true=>dropK p l
  | false=>(k,v)::dropK p l
theorem look_dropK {α:Type} {p:Nat→Bool}:∀ {l:List (Nat×α)} {i:Nat} {v:α},look (dropK p l) i=some v→p i=false∧look l i=some v
 | [],i,v,h=>by cases h
 | (k,c)::l,i,v,h=>by
  simp only [dropK] at h;simp only [look];split at h
  ·rename_i hp;obtain ⟨h1,h2⟩:=look_dropK h;refine ⟨h1,?_⟩;cases e:Nat.beq k i with
   | true=>have:=Nat.eq_of_beq_eq_true e; subst this; rw [hp] at h1; cases h1
   | false=>exact h2
  ·rename_i hp;simp only [look] at h;cases e:Nat.beq k i with
   | true=>rw [e] at h; have:=Nat.eq_of_beq_eq_true e; subst this; exact ⟨hp,h⟩
   | false=>rw [e] at h; exact look_dropK h
def isGrd (s:List (Nat×RV)) (k:Nat):Bool:=match look s k with
 | some (.grd ..)=>true
 | _=>false
theorem V.ungrd {C:Ctx} {c:Cfg} (h:V C ⟨c.todo,{ c.st with slots:=dropK (isGrd c.st.slots) c.st.slots,gs:=[] }⟩):V C c:=by
 intro ρ a w hS;refine h ρ a w ⟨hS.n,fun i v hv=>hS.slots i v (look_dropK hv).2,fun i g pol x y hv=>?_,hS.heap,hS.inj,hS.lt,hS.defers,hS.chg,hS.rows,hS.rowsD,hS.pers,hS.fix⟩;obtain ⟨h1,h2⟩:=look_dropK hv;simp only [isGrd,h2] at h1;cases h1
end Go.SX
end
section
namespace Go.Proofs
open Go Go.SX
set_option maxRecDepth 10000
def asT:List UInt8:=[83,84,69,80,32,49,48,10,74,85,77,80,32,64,48,10]
def asX1:In:={ emptyI 1 with n:=10 }
def asX2:In:=emptyI 14
def asB:List UInt8:=[1,20,14,0,0,0,0]
theorem asR1:cReadS [[83,84,69,80],[49,48]]=some asX1:=kq
theorem asR2:cReadS [[74,85,77,80],[64,48]]=some asX2:=kq
theorem asV (q:Option Addr) (c:Nat):vdS [] ⟨asB,q,0,c⟩ 0 4=some ([asX1,asX2],[0,2,7]):=kq
theorem pok_of {ws:List (List UInt8)} {o0:Nat} (h1:rdFind (ws.getD 0 [])=some o0) (h2:((List.range (opFls o0).length).all fun i=>((opFls o0).getD i .D).pok (ws.getD (i+1) []))=true) :
  ∀ o,rdFind (ws.getD 0 [])=some o→ws.length=(opFls o).length+1→∀ i,i<(opFls o).length→((opFls o).getD i .D).pok (ws.getD (i+1) [])=true:=by
 intro o ho _ i hi;rw [h1] at ho;cases ho;exact List.all_eq_true.1 h2 i (List.mem_range.2 hi)
set_option maxHeartbeats 1000000 in
theorem xAsm:CallsK Tryz.prog 39 [.one (.int .i64 0),.one (.int .i64 4),.one (.str asT)] glbF (fun _:Option Addr×Nat=>True) (fun qc=>.tup [modC 0 4 ⟨asB,qc.1,0,qc.2⟩,.one (.int .i64 0),.one (.int .i64 0)]) (fun qc=>psOf [rowP (relRow [] qc.1 qc.2)]):=by
 refine CallsK.m true Tryz.func39 (fun ρ w=>?_);refine V.q ?_;refine V.kn 39 (decide ((0:Int)<0)||decide ((0:Int)>63)||decide ((4:Int)<0)||decide ((4:Int)>4000)||decide ((asT.length:Int)>1048576)) false (by decide) ?_;refine V.q ?_;refine V.c [(0,false)] cNew0 (fun K hK=>?_);refine V.q ?_;refine V.nilL ixV ixD 10 30 29 kq kq ?_;refine V.iter ?_;refine V.q ?_;refine V.kn 43 (!(([83,84,69,80,32,49,48,10,74,85,77,80,32,64,48,10]:List UInt8)==[])) true (by decide) ?_;refine V.t [⟨sCut,[0]⟩] [([83,84,69,80,32,49,48,10,74,85,77,80,32,64,48,10]:List UInt8).length<4294967281] (by show _<_; decide) ?_;refine V.c [(0,true),(1,false)] (cRead K hK [83,84,69,80,32,49,48] [[83,84,69,80],[49,48]] kq (by decide) kq (by decide) (pok_of (o0:=1) kq kq)) (fun y1 hy1=>?_);obtain ⟨x1,A1,b1⟩:=y1;have hz1:x1=asX1∧b1=true:=by unfold rdP at hy1; rw [asR1] at hy1; exact hy1
 obtain ⟨rfl,rfl⟩:=hz1;refine V.q ?_;refine V.kn 63 ((!true)||(!(Lib.cut ([83,84,69,80,32,49,48,10,74,85,77,80,32,64,48,10]:List UInt8) [10]).2.2)) false kq ?_;refine V.q ?_;refine V.push ixV ixD [] (asX1,A1) 0 none 0 30 29 (inV asX1 A1) 304 kq (by show _≤_; decide) rfl (fun _ _=>kq) (fun q1 c1=>?_);refine V.q ?_;refine V.iter ?_;refine V.ungrd ?_;refine V.q ?_;refine V.kn 43 (!(([74,85,77,80,32,64,48,10]:List UInt8)==[])) true (by decide) ?_;refine V.t [⟨sCut,[0]⟩] [([74,85,77,80,32,64,48,10]:List UInt8).length<4294967281] (by show _<_; decide) ?_;refine V.c [(3,true),(4,false)] (cRead K hK [74,85,77,80,32,64,48] [[74,85,77,80],[64,48]] kq (by decide) kq (by decide) (pok_of (o0:=14) kq kq)) (fun y2 hy2=>?_);obtain ⟨x2,A2,b2⟩:=y2;have hz2:x2=asX2∧b2=true:=by unfold rdP at hy2; rw [asR2] at hy2; exact hy2
 obtain ⟨rfl,rfl⟩:=hz2;refine V.q ?_;refine V.kn 63 ((!true)||(!(Lib.cut ([74,85,77,80,32,64,48,10]:List UInt8) [10]).2.2)) false kq ?_;refine V.q ?_;refine V.push ixV ixD ([]++[(asX1,A1)]) (asX2,A2) 1 q1 c1 30 29 (inV asX2 A2) 304 kq (by show 2*304≤140737488355328; decide) rfl (fun _ _=>kq) (fun q2 c2=>?_);refine V.q ?_;refine V.iter ?_;refine V.q ?_;refine V.kn 43 (!(([]:List UInt8)==[])) false (by decide) ?_;refine V.q ?_;refine V.freeze 2 (ixRow (([]++[(asX1,A1)])++[(asX2,A2)]) q2 c2 true) kq kq ?_;refine V.persNew [] [] (insP []) kq kq (fun k hk=>by obtain ⟨q,hq,_⟩:=hk; exact absurd hq (List.not_mem_nil)) (fun w hw q hq=>absurd hq (List.not_mem_nil)) (insP_stab _) ?_;refine V.persNew [(0,true),(5,true),(6,true),(7,true)] (insP []::lsP asX1 A1) (insP ([]++[(asX1,A1)])) kq kq (insP_snoc [] asX1 A1).1 (insP_snoc [] asX1 A1).2 (insP_stab _) ?_;refine V.persNew [(0,true),(3,true),(4,true),(5,true)] (insP ([]++[(asX1,A1)])::lsP asX2 A2) (insP (([]++[(asX1,A1)])++[(asX2,A2)])) kq kq (insP_snoc ([]++[(asX1,A1)]) asX2 A2).1 (insP_snoc ([]++[(asX1,A1)]) asX2 A2).2 (insP_stab _) ?_;have hok:okIx (([]++[(asX1,A1)])++[(asX2,A2)]):=⟨by show 2≤2000000; decide,fun e he=>by
  rcases List.mem_append.1 he with he | he
  ·rw [List.nil_append,List.mem_singleton] at he;subst he;exact ⟨kq,⟨by show 0≤1000; decide,by show 0≤1000; decide,by show 0≤1000; decide⟩⟩
  ·rw [List.mem_singleton] at he;subst he;exact ⟨kq,⟨by show 0≤1000; decide,by show 0≤1000; decide,by show 0≤1000; decide⟩⟩⟩
 refine V.c [(10,true),(0,true),(3,true)] (cModule K hK (([]++[(asX1,A1)])++[(asX2,A2)]) hok q2 c2 0 4) (fun qc _=>?_);refine V.q ?_;refine V.freeze 3 (rowL rlv (0,0) [] qc.1 qc.2 62 2 true) kq kq ?_;refine V.callK [(11,true),(0,true)] (cValid K hK [] ⟨asB,qc.1,0,qc.2⟩ rfl (by decide) (by show 7≤100000000; decide) 0 4) kq kq kq (fun t=>by cases t<;>kernel_rfl) (fun t ht=>?_);unfold tkPc at ht;rw [asV] at ht;obtain ⟨t',rfl,h1,h2⟩:=ht.1;refine V.q ?_;refine V.kn 84 (!true) false rfl ?_;refine V.q ?_;exact V.e (qc:Option Addr×Nat) [(3,true)] trivial
def sx1:In:={ emptyI 3 with d:=3,a:=0 }
theorem sx1_fine:cFine sx1=true:=kq
theorem sx1_okL:sx1.okL:=⟨by decide,by decide,by decide⟩
theorem sx1_dec (q:Option Addr) (c:Nat):(cDecR [] ⟨[3,8,2],q,0,c⟩ 0).2=sx1:=kq
theorem sx1_read:cReadS [[77,79,86,69],[114,51],[114,48]]=some sx1:=kq
theorem sx1_pok:((List.range (opFls 3).length).all fun i=>((opFls 3).getD i .D).pok (([[77,79,86,69],[114,51],[114,48]]:List (List UInt8)).getD (i+1) []))=true:=kq
theorem sx1_find:rdFind (([[77,79,86,69],[114,51],[114,48]]:List (List UInt8)).getD 0 [])=some 3:=kq
def sx2:In:={ emptyI 14 with n:=258 }
theorem sx2_fine:cFine sx2=true:=kq
theorem sx2_okL:sx2.okL:=⟨by decide,by decide,by decide⟩
theorem sx2_dec (q:Option Addr) (c:Nat):(cDecR [] ⟨[14,0,0,1,2],q,0,c⟩ 0).2=sx2:=kq
theorem sx2_read:cReadS [[74,85,77,80],[64,50,53,56]]=some sx2:=kq
theorem sx2_pok:((List.range (opFls 14).length).all fun i=>((opFls 14).getD i .D).pok (([[74,85,77,80],[64,50,53,56]]:List (List UInt8)).getD (i+1) []))=true:=kq
theorem sx2_find:rdFind (([[74,85,77,80],[64,50,53,56]]:List (List UInt8)).getD 0 [])=some 14:=kq
def sx3:In:={ emptyI 8 with d:=0,a:=1,t:=⟨2,15,0,false,[]⟩ }
theorem sx3_fine:cFine sx3=true:=kq
theorem sx3_okL:sx3.okL:=⟨by decide,by decide,by decide⟩
theorem sx3_dec (q:Option Addr) (c:Nat):(cDecR [] ⟨[8,2,4,4,30,0,0,0],q,0,c⟩ 0).2=sx3:=kq
theorem sx3_read:cReadS [[76,79,65,68],[114,48],[114,49],[50,44,49,53,44,48,44,48,44,61]]=some sx3:=kq
theorem sx3_pok:((List.range (opFls 8).length).all fun i=>((opFls 8).getD i .D).pok (([[76,79,65,68],[114,48],[114,49],[50,44,49,53,44,48,44,48,44,61]]:List (List UInt8)).getD (i+1) []))=true:=kq
theorem sx3_find:rdFind (([[76,79,65,68],[114,48],[114,49],[50,44,49,53,44,48,44,48,44,61]]:List (List UInt8)).getD 0 [])=some 8:=kq
def sx4:In:={ emptyI 17 with n:=5,l:=[2] }
theorem sx4_fine:cFine sx4=true:=kq
theorem sx4_okL:sx4.okL:=⟨by decide,by decide,by decide⟩
theorem sx4_dec (q:Option Addr) (c:Nat):(cDecR [(2,5)] ⟨[17,0,0,0,0,0,2,6],q,1,c⟩ 0).2=sx4:=kq
theorem sx4_read:cReadS [[67,65,76,76],[45],[33,53],[91,114,50,93]]=some sx4:=kq
theorem sx4_pok:((List.range (opFls 17).length).all fun i=>((opFls 17).getD i .D).pok (([[67,65,76,76],[45],[33,53],[91,114,50,93]]:List (List UInt8)).getD (i+1) []))=true:=kq
theorem sx4_find:rdFind (([[67,65,76,76],[45],[33,53],[91,114,50,93]]:List (List UInt8)).getD 0 [])=some 17:=kq
def sA4 (g:Nat):IA:=⟨none,0,some ⟨g,0,none⟩,1,none,0⟩
end Go.Proofs
end
section
namespace Go.Proofs
open Go Go.SX
def eqIn0 (x y:In):Bool:=x.op != y.op||x.d != y.d||x.a != y.a||x.b != y.b||!(x.t.k==y.t.k&&(x.t.p==y.t.p&&(x.t.q==y.t.q&&(x.t.v==y.t.v&&x.t.s==y.t.s))))||!(x.u.k==y.u.k&&(x.u.p==y.u.p&&(x.u.q==y.u.q&&(x.u.v==y.u.v&&x.u.s==y.u.s))))||!(x.w.k==y.w.k&&(x.w.p==y.w.p&&(x.w.q==y.w.q&&(x.w.v==y.w.v&&x.w.s==y.w.s))))||x.n != y.n||x.m != y.m||x.p != y.p||!(x.vn==y.vn&&x.vs==y.vs)||!x.size==y.size||!x.range==y.range||(x.f.length:Int) != (y.f.length:Int)||(x.l.length:Int) != (y.l.length:Int)||(x.y.length:Int) != (y.y.length:Int)
theorem eqIn0_eq (x y:In):eqIn0 x y=!(eqIn1 x y&&(x.size==y.size)&&(x.range==y.range)&&((x.f.length:Int)==(y.f.length:Int))&&((x.l.length:Int)==(y.l.length:Int))&&((x.y.length:Int)==(y.y.length:Int))):=by
 simp only [eqIn0,eqIn1,eqT,bne,Bool.not_and,Bool.or_assoc]
theorem eqIn0_len {x y:In} (h:eqIn0 x y=false):x.f.length=y.f.length∧x.l.length=y.l.length∧x.y.length=y.y.length:=by
 rw [eqIn0_eq] at h;simp only [Bool.not_eq_false',Bool.and_eq_true,beq_iff_eq] at h;omega
theorem eqIn_yes {x y:In} (h:eqIn0 x y=false) (hf:eqL eqF x.f y.f=true) (hl:eqL eqI x.l y.l=true) (hy:eqL eqT x.y y.y=true):eqIn x y=true:=by
 rw [eqIn0_eq] at h;simp only [Bool.not_eq_false',Bool.and_eq_true] at h;unfold eqIn;rw [hf,hl,hy,h.1.1.1.1.1,h.1.1.1.1.2,h.1.1.1.2];rfl
theorem eqL_true_len {α:Type} {f:α→α→Bool} {l m:List α} (h:eqL f l m=true):l.length=m.length:=by
 by_cases e:l.length=m.length
 ·exact e
 ·rw [eqL_len e] at h; cases h
theorem eqIn_no_0 {x y:In} (h:eqIn0 x y=true):eqIn x y=false:=by
 cases e:eqIn x y with
 | false=>rfl
 | true =>
  unfold eqIn at e;simp only [Bool.and_eq_true] at e;obtain ⟨⟨⟨⟨⟨h1,h2⟩,h3⟩,h4⟩,h5⟩,h6⟩:=e;rw [eqIn0_eq,h1,h5,h6,eqL_true_len h2,eqL_true_len h3,eqL_true_len h4] at h;simp at h
theorem eqIn_no_f {x y:In} (h:eqL eqF x.f y.f=false):eqIn x y=false:=by unfold eqIn; rw [h]; simp
theorem eqIn_no_l {x y:In} (h:eqL eqI x.l y.l=false):eqIn x y=false:=by unfold eqIn; rw [h]; simp
theorem eqIn_no_y {x y:In} (h:eqL eqT x.y y.y=false):eqIn x y=false:=by unfold eqIn; rw [h]; simp
end Go.Proofs
end
section
namespace Go.SX
variable {C:Ctx}
theorem V.factRow (i:Nat) (R:Row) {c:Cfg} (hp:c.st.pers[i]?=some (rowP R)) (ho:R.own=false)
  (h:V C ⟨c.todo,{ c.st with rows:=(c.st.nr,R)::c.st.rows,nr:=c.st.nr+1 }⟩):V C c:=by
 intro ρ a w hS;exact h ρ a w (hS.rowOfP hp ho)
end Go.SX
end
section
namespace Go.Proofs
open Go Go.SX
set_option maxRecDepth 10000
noncomputable def seB (x:In) (A:IA) (i:Nat):Blk:=⟨inC x (.row i A.qf x.f.length A.cf) (.row (i+1) A.ql x.l.length A.cl) (.row (i+2) A.qy x.y.length A.cy),30,true⟩
noncomputable def seSt (x y:In) (A B:IA) (t i:Nat):St :=
 { n:=(Tryz.f26).ntmps,slots:=[(2,.v (.one (.ptr 0 0))),(3,.v (.one (.ptr 1 0))),(t,.v (.one (.int .i64 (i:Int))))],gs:=[],heap:=[(0,seB x A 0),(1,seB y B 3)],next:=2,
    rows:=[(0,rowF x A),(1,rowI x A),(2,rowT x A),(3,rowF y B),(4,rowI y B),(5,rowT y B)],nr:=6,pers:=[],wr:=true,fx:=0 }
set_option maxHeartbeats 1000000 in
theorem cSame26r (x y:In) (A B:IA) (hx:x.okL) (r:Bool) (hr:r=eqIn x y):CallsK Tryz.prog 26 [.agg (inV x A),.agg (inV y B)] (stP (lsP x A++lsP y B)) (fun _:Unit=>True) (fun _=>.v (.one (.sb r))) (fun _=>noF):=by
 refine CallsK.m true Tryz.func26 (fun ρ0 w0=>?_);refine V.q ?_;refine V.bn 123 (eqIn0 x y) (fun hne=>?_) (fun heq=>?_)
 ·refine V.q ?_;have hz:r=false:=hr.trans (eqIn_no_0 hne);subst hz;refine V.sb 4 false ?_;exact V.z
 ·refine V.q ?_;refine V.factRow 0 (rowF x A) kq rfl ?_;refine V.factRow 1 (rowI x A) kq rfl ?_;refine V.factRow 2 (rowT x A) kq rfl ?_;refine V.factRow 3 (rowF y B) kq rfl ?_;refine V.factRow 4 (rowI y B) kq rfl ?_;refine V.factRow 5 (rowT y B) kq rfl ?_;refine V.cellRow 0 24 0 ⟨inV x A,30,true⟩ (rowF x A) kq kq kq ?_;refine V.cellRow 0 25 1 ⟨inC x (.row 0 A.qf x.f.length A.cf) (.val (.slice A.ql x.l.length A.cl)) (.val (.slice A.qy x.y.length A.cy)),30,true⟩ (rowI x A) kq kq kq ?_;refine V.cellRow 0 26 2 ⟨inC x (.row 0 A.qf x.f.length A.cf) (.row 1 A.ql x.l.length A.cl) (.val (.slice A.qy x.y.length A.cy)),30,true⟩ (rowT x A) kq kq kq ?_;refine V.cellRow 1 24 3 ⟨inV y B,30,true⟩ (rowF y B) kq kq kq ?_;refine V.cellRow 1 25 4 ⟨inC y (.row 3 B.qf y.f.length B.cf) (.val (.slice B.ql y.l.length B.cl)) (.val (.slice B.qy y.y.length B.cy)),30,true⟩ (rowI y B) kq kq kq ?_;refine V.cellRow 1 26 5 ⟨inC y (.row 3 B.qf y.f.length B.cf) (.row 4 B.ql y.l.length B.cl) (.val (.slice B.qy y.y.length B.cy)),30,true⟩ (rowT y B) kq kq kq ?_;have hxf:=hx.1;have hxl:=hx.2.1;have hxy:=hx.2.2;have hlf:x.f.length=y.f.length:=(eqIn0_len heq).1;have hll:x.l.length=y.l.length:=(eqIn0_len heq).2.1;have hly:x.y.length=y.y.length:=(eqIn0_len heq).2.2;refine V.iter ?_;refine V.loopTo [2,3,5] [0,1] [0,1,2,3,4,5] [] (fun i:Nat=>x.f.length - i) (seSt x y A B 5) (fun i=>i≤x.f.length∧∀ j,j<i→eqF (x.f.getD j fm0) (y.f.getD j fm0)=true) 0 kq ⟨Nat.zero_le _,fun j hj=>absurd hj (Nat.not_lt_zero j)⟩ (fun i hi ih=>?_);have hi1:=hi.1;have hall:=hi.2;refine V.q ?_;refine V.bn 128 (decide ((i:Int)<(x.f.length:Int))) (fun hc=>?_) (fun hc=>?_)
  ·have hlt:i<x.f.length:=by simpa using hc
   refine V.t [] [(0:Int)≤i∧(i:Int)<x.f.length,(0:Int)≤i∧(i:Int)<y.f.length] ⟨⟨by omega,by omega⟩,⟨by omega,by omega⟩⟩ ?_;refine V.bn 141 (!eqF (x.f.getD i fm0) (y.f.getD i fm0)) (fun hf=>?_) (fun hf=>?_)
   ·refine V.q ?_;have hz:r=false:=hr.trans (eqIn_no_f (eqL_at fm0 hlt (by omega) (by simpa using hf)));subst hz;refine V.sb 4 false ?_;exact V.z
   ·refine V.q ?_;refine V.up 5 i (by omega) ?_;refine V.iter ?_;refine V.back [2,3,5] [0,1] [0,1,2,3,4,5] [] (ih (i+1) ⟨hlt,fun j hj=>?_⟩ (by omega)) kq kq;by_cases e:j=i
    ·subst e; simpa using hf
    ·exact hall j (by omega)
  ·have hle:x.f.length=i:=by
    have:¬ i<x.f.length:=by simpa using hc
    omega
   have hf:eqL eqF x.f y.f=true:=eqL_all fm0 hlf (fun j hj=>hall j (by omega));refine V.q ?_;refine V.iter ?_;refine V.loopTo [2,3,6] [0,1] [0,1,2,3,4,5] [] (fun i:Nat=>x.l.length - i) (seSt x y A B 6) (fun i=>i≤x.l.length∧∀ j,j<i→eqI (x.l.getD j (0:Int)) (y.l.getD j (0:Int))=true) 0 kq ⟨Nat.zero_le _,fun j hj=>absurd hj (Nat.not_lt_zero j)⟩ (fun i hi ih=>?_);have hi1:=hi.1;have hall:=hi.2;refine V.q ?_;refine V.bn 146 (decide ((i:Int)<(x.l.length:Int))) (fun hc=>?_) (fun hc=>?_)
   ·have hlt:i<x.l.length:=by simpa using hc
    refine V.t [] [(0:Int)≤i∧(i:Int)<x.l.length,(0:Int)≤i∧(i:Int)<y.l.length] ⟨⟨by omega,by omega⟩,⟨by omega,by omega⟩⟩ ?_;refine V.bn 159 (!eqI (x.l.getD i (0:Int)) (y.l.getD i (0:Int))) (fun hf=>?_) (fun hf=>?_)
    ·refine V.q ?_;have hz:r=false:=hr.trans (eqIn_no_l (eqL_at (0:Int) hlt (by omega) (by simpa using hf)));subst hz;refine V.sb 4 false ?_;exact V.z
    ·refine V.q ?_;refine V.up 6 i (by omega) ?_;refine V.iter ?_;refine V.back [2,3,6] [0,1] [0,1,2,3,4,5] [] (ih (i+1) ⟨hlt,fun j hj=>?_⟩ (by omega)) kq kq;by_cases e:j=i
     ·subst e; simpa using hf
     ·exact hall j (by omega)
   ·have hle:x.l.length=i:=by
     have:¬ i<x.l.length:=by simpa using hc
     omega
    have hl:eqL eqI x.l y.l=true:=eqL_all (0:Int) hll (fun j hj=>hall j (by omega));refine V.q ?_;refine V.iter ?_;refine V.loopTo [2,3,7] [0,1] [0,1,2,3,4,5] [] (fun i:Nat=>x.y.length - i) (seSt x y A B 7) (fun i=>i≤x.y.length∧∀ j,j<i→eqT (x.y.getD j ty0) (y.y.getD j ty0)=true) 0 kq ⟨Nat.zero_le _,fun j hj=>absurd hj (Nat.not_lt_zero j)⟩ (fun i hi ih=>?_);have hi1:=hi.1;have hall:=hi.2;refine V.q ?_;refine V.bn 164 (decide ((i:Int)<(x.y.length:Int))) (fun hc=>?_) (fun hc=>?_)
    ·have hlt:i<x.y.length:=by simpa using hc
     refine V.t [] [(0:Int)≤i∧(i:Int)<x.y.length,(0:Int)≤i∧(i:Int)<y.y.length] ⟨⟨by omega,by omega⟩,⟨by omega,by omega⟩⟩ ?_;refine V.bn 177 (!eqT (x.y.getD i ty0) (y.y.getD i ty0)) (fun hf=>?_) (fun hf=>?_)
     ·refine V.q ?_;have hz:r=false:=hr.trans (eqIn_no_y (eqL_at ty0 hlt (by omega) (by simpa using hf)));subst hz;refine V.sb 4 false ?_;exact V.z
     ·refine V.q ?_;refine V.up 7 i (by omega) ?_;refine V.iter ?_;refine V.back [2,3,7] [0,1] [0,1,2,3,4,5] [] (ih (i+1) ⟨hlt,fun j hj=>?_⟩ (by omega)) kq kq;by_cases e:j=i
      ·subst e; simpa using hf
      ·exact hall j (by omega)
    ·have hle:x.y.length=i:=by
      have:¬ i<x.y.length:=by simpa using hc
      omega
     have hy:eqL eqT x.y y.y=true:=eqL_all ty0 hly (fun j hj=>hall j (by omega));refine V.q ?_;have hz:r=true:=hr.trans (eqIn_yes heq hf hl hy);subst hz;refine V.sb 4 true ?_;exact V.z
theorem cSame26 (x y:In) (A B:IA) (hx:x.okL):CallsK Tryz.prog 26 [.agg (inV x A),.agg (inV y B)] (stP (lsP x A++lsP y B)) (fun _:Unit=>True) (fun _=>.v (.one (.sb (eqIn x y)))) (fun _=>noF):=cSame26r x y A B hx _ rfl
def _root_.Go.SX.Con.inst2 {P:Program} (f:FuncId) (need:List Pers) (ys ys':List CV) (v:RV) (h:∀ ρ w,PersOk need w→Calls P f (ys.map (CV.den ρ)).toArray w (Gives (v.den ρ) w)) (h':∀ ρ w,PersOk need w→Calls P f (ys'.map (CV.den ρ)).toArray w (Gives (v.den ρ) w)):Con P where
 f:=f
 need:=need
 fn:=fun xs=>some (v,[xs=ys∨xs=ys'])
 ok:=by
  intro xs v' ob h1 hob ρ w hps _;simp only [Option.some.injEq,Prod.mk.injEq] at h1;obtain ⟨rfl,rfl⟩:=h1;rcases hob (xs=ys∨xs=ys') (List.mem_singleton.2 rfl) with e | e
  ·rw [e]; exact h ρ w hps
  ·rw [e]; exact h' ρ w hps
theorem persOk_sub {l m:List Pers} {w:World} (h:PersOk l w) (hs:∀ p∈m,p∈l):PersOk m w:=fun p hp=>h p (hs p hp)
noncomputable def sSame2 (x:In) (A B D:IA) (hx:x.okL):Con Tryz.prog:=Con.inst2 26 (lsP x D++lsP x B++lsP x A) [.agg (inV x D),.agg (inV x A)] [.agg (inV x B),.agg (inV x A)] (.v (.one (.sb (eqIn x x))))
 (fun ρ w hp=>CallsK.gives (cSame26 x x D A hx) ⟨rfl,rfl,rfl⟩ (fun _ _=>rfl) ρ w (persOk_sub hp (fun p h=>by
  rcases List.mem_append.1 h with h | h
  ·exact List.mem_append_left _ (List.mem_append_left _ h)
  ·exact List.mem_append_right _ h)))
 (fun ρ w hp=>CallsK.gives (cSame26 x x B A hx) ⟨rfl,rfl,rfl⟩ (fun _ _=>rfl) ρ w (persOk_sub hp (fun p h=>by
  rcases List.mem_append.1 h with h | h
  ·exact List.mem_append_left _ (List.mem_append_right _ h)
  ·exact List.mem_append_right _ h)))
theorem eqL_eq {α:Type} {f:α→α→Bool} (hf:∀ a b,f a b=true→a=b):∀ {l m:List α},eqL f l m=true→l=m
 | [],[],_=>rfl
 | x::l,y::m,h=>by
  unfold eqL at h;rw [Bool.and_eq_true] at h;rw [hf x y h.1,eqL_eq hf h.2]
 | [],_::_,h=>by cases h
 | _::_,[],h=>by cases h
theorem eqI_eq (a b:Int) (h:eqI a b=true):a=b:=by simpa [eqI] using h
theorem eqT_eq (a b:Ty) (h:eqT a b=true):a=b:=by
 obtain ⟨a1,a2,a3,a4,a5⟩:=a;obtain ⟨b1,b2,b3,b4,b5⟩:=b;simp only [eqT,Bool.and_eq_true,beq_iff_eq] at h;obtain ⟨h1,h2,h3,h4,h5⟩:=h;subst h1 h2 h3 h4 h5;rfl
theorem eqF_eq (a b:Fm) (h:eqF a b=true):a=b:=by
 obtain ⟨a1,a2,a3,a4⟩:=a;obtain ⟨b1,b2,b3,b4⟩:=b;simp only [eqF,Bool.and_eq_true,beq_iff_eq] at h;obtain ⟨h1,h2,h3,h4⟩:=h;subst h1 h2 h3 h4;rfl
theorem eqIn_eq {x y:In} (h:eqIn x y=true):x=y:=by
 unfold eqIn eqIn1 at h;simp only [Bool.and_eq_true,beq_iff_eq] at h;obtain ⟨⟨⟨⟨⟨hh,hf⟩,hl⟩,hy⟩,hs⟩,hr⟩:=h;obtain ⟨⟨⟨⟨⟨⟨⟨⟨⟨⟨h1,h2⟩,h3⟩,h4⟩,h5⟩,h6⟩,h7⟩,h8⟩,h9⟩,h10⟩,h11,h12⟩:=hh;have e5:=eqT_eq _ _ h5;have e6:=eqT_eq _ _ h6;have e7:=eqT_eq _ _ h7;have ef:=eqL_eq eqF_eq hf;have el:=eqL_eq eqI_eq hl;have ey:=eqL_eq eqT_eq hy;obtain ⟨a1,a2,a3,a4,a5,a6,a7,a8,a9,a10,a11,a12,a13,a14,a15,a16,a17⟩:=x;obtain ⟨b1,b2,b3,b4,b5,b6,b7,b8,b9,b10,b11,b12,b13,b14,b15,b16,b17⟩:=y;simp only at h1 h2 h3 h4 e5 e6 e7 h8 h9 h10 h11 h12 ef el ey hs hr;subst h1 h2 h3 h4 e5 e6 e7 h8 h9 h10 h11 h12 ef el ey hs hr;rfl
def numR (n:Int):Bool:=decide (n≥-2147483647)&&decide (n≤2147483647)
theorem numR_eq (n:Int):numR n=isNum n:=by unfold numR isNum; rw [Bool.eq_iff_iff]; simp; omega
theorem and_l {a b:Bool} (h:(a&&b)=true):a=true:=(Bool.and_eq_true .. ▸ h:a=true∧b=true).1
theorem and_r {a b:Bool} (h:(a&&b)=true):b=true:=(Bool.and_eq_true .. ▸ h:a=true∧b=true).2
end Go.Proofs
end
section
namespace Go.Proofs
open Go Go.SX Go.ChangeShapes Go.WideShapes Go.ChangeAt Go.RowKit
set_option maxRecDepth 10000
section
variable {H:Type} {enc:TypeId×Value→H} {w:World} {base:Nat} {sp:Nat→Bool} {held:Bool}
noncomputable def fsOf (t:TypeId):Array Field:=match Tryz.prog.underlying t with
 | some (.struct fs)=>fs
 | _=>#[]
theorem fields {t:TypeId} {fuel:Nat} {cs:List Value} {x:DataW H×List MemPlace} (hu:Tryz.prog.underlying t=some (.struct (fsOf t))) (h:DataW.trod enc Tryz.prog w base sp held fuel t cs=some x) :
  cs.length=Tryz.prog.cellsOf t∧∃ n,∀ (i:Nat) (t':TypeId) (o k:Nat),((fsOf t)[i]?).map (fun f=>(f.type,f.offset))=some (t',o)→Tryz.prog.cellsOf t'=k→∃ y,DataW.trod enc Tryz.prog w base sp held n t' ((cs.drop o).take k)=some y:=by
 obtain ⟨xs,n,_,_,hl,hxl,hf⟩:=DataW.trod_struct hu h;refine ⟨hl,n,fun i t' o k h1 h2=>?_⟩;cases e:(fsOf t)[i]? with
 | none=>rw [e] at h1; cases h1
 | some f =>
  rw [e] at h1;simp only [Option.map_some,Option.some.injEq,Prod.mk.injEq] at h1;obtain ⟨h3,h4⟩:=h1;subst h3 h4 h2;have hi:i<xs.length:=by rw [hxl]; exact (Array.getElem?_eq_some_iff.1 e).1
  exact ⟨xs[i],by rw [hf i f e,List.getElem?_eq_getElem hi]⟩
def segs (cs:List Value):Nat→List Nat→List Value
 | o,[]=>cs.drop o
 | o,k::ks=>(cs.drop o).take k++segs cs (o+k) ks
theorem segs_eq (cs:List Value):∀ (ks:List Nat) (o:Nat),segs cs o ks=cs.drop o
 | [],_=>rfl
 | k::ks,o=>by
  show (cs.drop o).take k++segs cs (o+k) ks=cs.drop o;rw [segs_eq cs ks (o+k),← List.drop_drop,List.take_append_drop]
theorem o_int {n:Nat} {cs:List Value} {x:DataW H×List MemPlace} (h:DataW.trod enc Tryz.prog w base sp held n 3 cs=some x):∃ k,cs=[Value.int .i64 k]∧(Lit.int .i64 k).wf=true:=by
 obtain ⟨k,h1,_,h2⟩:=DataW.trod_int Tryz.underlying3 h;exact ⟨k,h1,h2⟩
theorem o_bool {n:Nat} {cs:List Value} {x:DataW H×List MemPlace} (h:DataW.trod enc Tryz.prog w base sp held n 4 cs=some x):∃ b,cs=[Value.bool b]:=by
 obtain ⟨b,h1,_⟩:=DataW.trod_bool Tryz.underlying4 h;exact ⟨b,h1⟩
theorem o_str {n:Nat} {cs:List Value} {x:DataW H×List MemPlace} (h:DataW.trod enc Tryz.prog w base sp held n 9 cs=some x):∃ s:List UInt8,cs=[Value.string ⟨s.toArray⟩]∧s.length≤maxLen:=by
 obtain ⟨s,h1,_,h2⟩:=DataW.trod_string Tryz.underlying9 h;exact ⟨s.data.toList,h1,h2⟩
theorem o_ty {n:Nat} {cs:List Value} {x:DataW H×List MemPlace} (h:DataW.trod enc Tryz.prog w base sp held n 23 cs=some x):∃ t:Ty,cs=t.cells.map SV.den0:=by
 obtain ⟨hl,m,hf⟩:=fields (t:=23) kq h;have hn:cs.length=5:=hl.trans kq;obtain ⟨y0,h0⟩:=hf 0 3 0 1 kq kq;obtain ⟨k,e0,w0⟩:=o_int h0;obtain ⟨y1,h1⟩:=hf 1 3 1 1 kq kq;obtain ⟨p,e1,w1⟩:=o_int h1;obtain ⟨y2,h2⟩:=hf 2 3 2 1 kq kq;obtain ⟨q,e2,w2⟩:=o_int h2;obtain ⟨y3,h3⟩:=hf 3 4 3 1 kq kq;obtain ⟨v,e3⟩:=o_bool h3;obtain ⟨y4,h4⟩:=hf 4 9 4 1 kq kq;obtain ⟨s,e4,w4⟩:=o_str h4;have e:cs=(cs.drop 0).take 1++((cs.drop 1).take 1++((cs.drop 2).take 1++((cs.drop 3).take 1++((cs.drop 4).take 1++cs.drop 5)))):=(segs_eq cs [1,1,1,1,1] 0).symm;rw [e0,e1,e2,e3,e4,List.drop_eq_nil_of_le (by omega)] at e;exact ⟨⟨k,p,q,v,s⟩,e⟩
theorem o_fm {n:Nat} {cs:List Value} {x:DataW H×List MemPlace} (h:DataW.trod enc Tryz.prog w base sp held n 93 cs=some x):∃ f:Fm,cs=f.cells.map SV.den0:=by
 obtain ⟨hl,m,hf⟩:=fields (t:=93) kq h;have hn:cs.length=4:=hl.trans kq;obtain ⟨y0,h0⟩:=hf 0 3 0 1 kq kq;obtain ⟨k,e0,w0⟩:=o_int h0;obtain ⟨y1,h1⟩:=hf 1 3 1 1 kq kq;obtain ⟨p,e1,w1⟩:=o_int h1;obtain ⟨y2,h2⟩:=hf 2 3 2 1 kq kq;obtain ⟨q,e2,w2⟩:=o_int h2;obtain ⟨y3,h3⟩:=hf 3 9 3 1 kq kq;obtain ⟨s,e3,w3⟩:=o_str h3;have e:cs=(cs.drop 0).take 1++((cs.drop 1).take 1++((cs.drop 2).take 1++((cs.drop 3).take 1++cs.drop 4))):=(segs_eq cs [1,1,1,1] 0).symm;rw [e0,e1,e2,e3,List.drop_eq_nil_of_le (by omega)] at e;exact ⟨⟨k,p,q,s⟩,e⟩
theorem o_val {n:Nat} {cs:List Value} {x:DataW H×List MemPlace} (h:DataW.trod enc Tryz.prog w base sp held n 25 cs=some x):∃ (n:Int) (s:List UInt8),cs=[Value.int .i64 n,Value.string ⟨s.toArray⟩]:=by
 obtain ⟨hl,m,hf⟩:=fields (t:=25) kq h;have hn:cs.length=2:=hl.trans kq;obtain ⟨y0,h0⟩:=hf 0 3 0 1 kq kq;obtain ⟨k,e0,w0⟩:=o_int h0;obtain ⟨y1,h1⟩:=hf 1 9 1 1 kq kq;obtain ⟨s,e1,w1⟩:=o_str h1;have e:cs=(cs.drop 0).take 1++((cs.drop 1).take 1++cs.drop 2):=(segs_eq cs [1,1] 0).symm;rw [e0,e1,List.drop_eq_nil_of_le (by omega)] at e;exact ⟨k,s,e⟩
def LastP (p:Pers) (w:World):Prop:=p.φ w∧∀ k,p.D k→k<w.heap.size
theorem o_list {α:Type} (f:α→List SV) (d:α) (tS e k:Nat) (hu:Tryz.prog.underlying tS=some (.slice e)) (hk:Tryz.prog.cellsOf e=k) (hk0:0<k) (hf:∀ a,(f a).length=k∧∀ x∈f a,x.plain)
  (elem:∀ (n:Nat) (cs:List Value) (x:DataW H×List MemPlace),DataW.trod enc Tryz.prog w base sp held n e cs=some x→∃ a,cs=(f a).map SV.den0)
  {n:Nat} {cs:List Value} {x:DataW H×List MemPlace} (h:DataW.trod enc Tryz.prog w base sp held n tS cs=some x) :
  ∃ (l:List α) (q:Option Addr) (c:Nat),cs=[.slice q l.length c]∧l.length≤maxLen∧LastP (rowP (rowL f d l q c e k false)) w:=by
 rcases DataW.trod_slice hu h with ⟨rfl,_⟩ | ⟨a,len,cap,elems,rest,m,_,rfl,_,_,hlc,hcm,hlen,hel,_,_⟩
 ·refine ⟨[],none,0,rfl,Nat.zero_le _,?_,?_⟩
  ·exact (row_none (R:=rowL f d [] none 0 e k false) rfl rfl rfl).2 w
  ·exact fun j hj=>absurd hj ((row_none (R:=rowL f d [] none 0 e k false) rfl rfl rfl).1 j)
 ·have hex:∀ i,i<len→∃ b:α,w.cells? base (a.add (i*k)) k=some ((f b).map SV.den0):=fun i hi=>by
   have h1:=hel i hi;rw [hk] at h1;have hi':i<elems.length:=by omega
   rw [List.getElem?_eq_getElem hi'] at h1;rw [Option.bind_eq_some_iff] at h1;obtain ⟨cs',h2,h3⟩:=h1;obtain ⟨b,rfl⟩:=elem _ _ _ h3;exact ⟨b,h2⟩
  let g:Nat→α:=fun i=>if hi:i<len then Classical.choose (hex i hi) else d
  have hg:∀ i,i<len→w.cells? base (a.add (i*k)) k=some ((f (g i)).map SV.den0):=fun i hi=>by
   have:=Classical.choose_spec (hex i hi);simp only [g,dif_pos hi];exact this
  have hll:((List.range len).map g).length=len:=by simp
  have hget:∀ i,i<len→((List.range len).map g).getD i d=g i:=fun i hi=>by simp [List.getD,hi]
  have hcell:∀ i,i<len→∀ j x,(f (g i))[j]?=some x→w.cell? ((a.add (i*k)).add j)=some x.den0:=fun i hi j x hx=>by
   obtain ⟨_,h2,h3⟩:=World.cells?_some (hg i hi);have hj:j<k:=by
    rw [← (hf (g i)).1];exact (List.getElem?_eq_some_iff.1 hx).1
   rw [h3 j hj,List.getElem?_map,hx];rfl
  refine ⟨(List.range len).map g,some a,cap,by rw [hll],by rw [hll]; omega,⟨?_,?_,?_,?_⟩,?_⟩
  ·intro i hi;exact hf _
  ·intro hpos;have hpos':0<len:=by
    have:0<((List.range len).map g).length:=hpos;omega
   have h0:∃ x,(f (g 0))[0]?=some x:=by
    have:0<(f (g 0)).length:=by rw [(hf (g 0)).1]; exact hk0
    exact ⟨_,List.getElem?_eq_getElem this⟩
   obtain ⟨x0,hx0⟩:=h0;have hs:=World.cell?_spot (hcell 0 hpos' 0 x0 hx0);obtain ⟨b,off,spot⟩:=a;have hspot:spot=none:=by simpa [Addr.add] using hs
   subst hspot;refine ⟨b,off,rfl,fun i j x hi hx=>?_⟩;have hi':i<len:=by
    have:i<((List.range len).map g).length:=hi;omega
   have hx':(f (g i))[j]?=some x:=by
    have hx2:(f (((List.range len).map g).getD i d))[j]?=some x:=hx;rw [hget i hi'] at hx2;exact hx2
   have:=hcell i hi' j x hx';rw [add_plain,add_plain,Nat.add_assoc] at this;exact this
  ·intro ho;cases ho
  ·intro o ho;cases ho
  ·rintro j ⟨a',ha',rfl,hd⟩;have ea:a=a':=Option.some.inj ha';subst ea;have hpos':0<len:=by
    rcases hd with hd | hd | hd
    ·cases hd
    ·have:0<((List.range len).map g).length:=hd;omega
    ·cases hd
   have:=World.cells?_block (hg 0 hpos') hk0;simpa [Addr.add] using this
theorem plain_ty (t:Ty):t.cells.length=5∧∀ x∈t.cells,x.plain:=⟨rfl,fun x hx=>by
 simp only [Ty.cells,List.mem_cons,List.not_mem_nil,or_false] at hx;rcases hx with rfl | rfl | rfl | rfl | rfl<;>trivial⟩
theorem plain_fm (t:Fm):t.cells.length=4∧∀ x∈t.cells,x.plain:=⟨rfl,fun x hx=>by
 simp only [Fm.cells,List.mem_cons,List.not_mem_nil,or_false] at hx;rcases hx with rfl | rfl | rfl | rfl<;>trivial⟩
theorem plain_intv (n:Int):(intv n).length=1∧∀ x∈intv n,x.plain:=⟨rfl,fun x hx=>by
 rw [List.mem_singleton.1 hx]; trivial⟩
theorem o_fs {n:Nat} {cs:List Value} {x:DataW H×List MemPlace} (h:DataW.trod enc Tryz.prog w base sp held n 26 cs=some x):∃ (l:List Fm) (q:Option Addr) (c:Nat),cs=[.slice q l.length c]∧l.length≤maxLen∧LastP (rowP (rowL Fm.cells fm0 l q c 93 4 false)) w :=
 o_list Fm.cells fm0 26 93 4 kq kq (by decide) plain_fm (fun n cs x h=>o_fm h) h
theorem o_ls {n:Nat} {cs:List Value} {x:DataW H×List MemPlace} (h:DataW.trod enc Tryz.prog w base sp held n 27 cs=some x):∃ (l:List Int) (q:Option Addr) (c:Nat),cs=[.slice q l.length c]∧l.length≤maxLen∧LastP (rowP (rowL intv 0 l q c 3 1 false)) w :=
 o_list intv 0 27 3 1 kq kq (by decide) plain_intv (fun n cs x h=>by obtain ⟨k,e,_⟩:=o_int h; exact ⟨k,e⟩) h
theorem o_ys {n:Nat} {cs:List Value} {x:DataW H×List MemPlace} (h:DataW.trod enc Tryz.prog w base sp held n 28 cs=some x):∃ (l:List Ty) (q:Option Addr) (c:Nat),cs=[.slice q l.length c]∧l.length≤maxLen∧LastP (rowP (rowL Ty.cells ty0 l q c 23 5 false)) w :=
 o_list Ty.cells ty0 28 23 5 kq kq (by decide) plain_ty (fun n cs x h=>o_ty h) h
theorem o_in {n:Nat} {cs:List Value} {x:DataW H×List MemPlace} (h:DataW.trod enc Tryz.prog w base sp held n 30 cs=some x):∃ (x:In) (A:IA),cs=(inV x A).map SV.den0∧x.f.length≤maxLen∧x.l.length≤maxLen∧x.y.length≤maxLen∧∀ p∈lsP x A,LastP p w:=by
 obtain ⟨hl,m,hf⟩:=fields (t:=30) kq h;have hn:cs.length=29:=hl.trans kq;obtain ⟨y0,h0⟩:=hf 0 3 0 1 kq kq;obtain ⟨op,e0,w0⟩:=o_int h0;obtain ⟨y1,h1⟩:=hf 1 3 1 1 kq kq;obtain ⟨vd,e1,w1⟩:=o_int h1;obtain ⟨y2,h2⟩:=hf 2 3 2 1 kq kq;obtain ⟨va,e2,w2⟩:=o_int h2;obtain ⟨y3,h3⟩:=hf 3 3 3 1 kq kq;obtain ⟨vb,e3,w3⟩:=o_int h3;obtain ⟨y4,h4⟩:=hf 4 23 4 5 kq kq;obtain ⟨vt,e4⟩:=o_ty h4;obtain ⟨y5,h5⟩:=hf 5 23 9 5 kq kq;obtain ⟨vu,e5⟩:=o_ty h5;obtain ⟨y6,h6⟩:=hf 6 23 14 5 kq kq;obtain ⟨vw,e6⟩:=o_ty h6;obtain ⟨y7,h7⟩:=hf 7 3 19 1 kq kq;obtain ⟨vn,e7,w7⟩:=o_int h7;obtain ⟨y8,h8⟩:=hf 8 3 20 1 kq kq;obtain ⟨vm,e8,w8⟩:=o_int h8;obtain ⟨y9,h9⟩:=hf 9 3 21 1 kq kq;obtain ⟨vp,e9,w9⟩:=o_int h9;obtain ⟨y10,h10⟩:=hf 10 25 22 2 kq kq;obtain ⟨vv,vvs,e10⟩:=o_val h10;obtain ⟨y11,h11⟩:=hf 11 26 24 1 kq kq;obtain ⟨lf,q11,c11,e11,w11,r11⟩:=o_fs h11;obtain ⟨y12,h12⟩:=hf 12 27 25 1 kq kq;obtain ⟨ll,q12,c12,e12,w12,r12⟩:=o_ls h12;obtain ⟨y13,h13⟩:=hf 13 28 26 1 kq kq;obtain ⟨ly,q13,c13,e13,w13,r13⟩:=o_ys h13;obtain ⟨y14,h14⟩:=hf 14 4 27 1 kq kq;obtain ⟨bs,e14⟩:=o_bool h14;obtain ⟨y15,h15⟩:=hf 15 4 28 1 kq kq;obtain ⟨br,e15⟩:=o_bool h15;have e:cs=(cs.drop 0).take 1++((cs.drop 1).take 1++((cs.drop 2).take 1++((cs.drop 3).take 1++((cs.drop 4).take 5++((cs.drop 9).take 5++((cs.drop 14).take 5++((cs.drop 19).take 1++((cs.drop 20).take 1++((cs.drop 21).take 1++((cs.drop 22).take 2++((cs.drop 24).take 1++((cs.drop 25).take 1++((cs.drop 26).take 1++((cs.drop 27).take 1++((cs.drop 28).take 1++cs.drop 29))))))))))))))):=(segs_eq cs [1,1,1,1,5,5,5,1,1,1,2,1,1,1,1,1] 0).symm;rw [e0,e1,e2,e3,e4,e5,e6,e7,e8,e9,e10,e11,e12,e13,e14,e15,List.drop_eq_nil_of_le (by omega)] at e;exact ⟨⟨op,vd,va,vb,vt,vu,vw,vn,vm,vp,vv,vvs,lf,ll,ly,bs,br⟩,⟨q11,c11,q12,c12,q13,c13⟩,e,w11,w12,w13,fun p hp=>by
  simp only [lsP,List.mem_cons,List.not_mem_nil,or_false] at hp;rcases hp with rfl | rfl | rfl
  ·exact r11
  ·exact r12
  ·exact r13⟩
theorem open_in {r:Reach} {b0:Nat} {v:Value} {dd:DataW H} {ps:List MemPlace} (hval:Value.okWide Tryz.prog w r b0 30 v) (h:DataW.Trod enc Tryz.prog w base sp held 30 v dd ps) :
  ∃ (x:In) (A:IA),v=(CV.agg (inV x A)).den (fun _=>0)∧x.f.length≤maxLen∧x.l.length≤maxLen∧x.y.length≤maxLen∧∀ p∈lsP x A,LastP p w:=by
 obtain ⟨cs,rfl,_⟩:=okWide_struct (P:=Tryz.prog) (t:=30) (fs:=fsOf 30) kq hval;obtain ⟨fuel,hf⟩:=h;obtain ⟨x,A,e,h1⟩:=o_in hf;refine ⟨x,A,?_,h1⟩;have e':cs=((inV x A).map SV.den0).toArray:=by
  rw [← e];rfl
 rw [e'];rfl
end
end Go.Proofs
end
section
namespace Go.Proofs
open Go Go.SX Go.ChangeShapes Go.WideShapes Go.ChangeAt Go.RowKit
set_option maxRecDepth 10000
theorem allKids:Kids Tryz.prog (· < Tryz.prog.types.size):=kids_rows kq kq
theorem allFull:∀ t e,t<Tryz.prog.types.size→Tryz.prog.underlying t=some (.slice e)→0<Tryz.prog.cellsOf e:=slices_full_of Tryz.prog kq
section
variable {H:Type} {enc:TypeId×Value→H}
theorem trodAll_carry {w w':World} {base:Nat} {sp:Nat→Bool} {held:Bool}:∀ {ts:List TypeId} {vs:List Value} {ds:List (DataW H)} {ps:List MemPlace},
    DataW.TrodAll enc Tryz.prog w base sp held ts vs ds ps→(∀ p∈ps,w.sameAt w' p)→DataW.TrodAll enc Tryz.prog w' base sp held ts vs ds ps
 | [],[],[],_,h,_=>h
 | _::_,_::_,_::_,_,⟨p,q,⟨n,h1⟩,h2,e⟩,hs =>
  ⟨p,q,⟨n,DataW.trod_carry n _ _ _ h1 (fun x hx=>hs x (by rw [e]; exact List.mem_append_left _ hx))⟩,trodAll_carry h2 (fun x hx=>hs x (by rw [e]; exact List.mem_append_right _ hx)),e⟩
theorem same_of_chg {W W':World} (hc:Chg (fun _=>False) W W') (p:MemPlace) (hp:p.block<W.heap.size):W.sameAt W' p:=by
 cases p with
 | cell b off=>exact World.cell?_of_block (w:=W) (a:=⟨b,off,none⟩) (hc.block b hp id)
 | map b=>exact hc.block b hp id
theorem post_true {f:Func} {s:ChangeSpec} {apart fresh handsOn:Bool} {W W':World} {args:Array Value} {ds:List (DataW H)} {before:List MemPlace}
  (hv:s.vars=[]) (hr:f.resultTypes=#[4]) (hp:∀ t∈f.params.toList,t<Tryz.prog.types.size)
  (hW:DataW.Whole enc Tryz.prog f.params.toList s.vars apart W args.toList ds [] before)
  (hs:s.fn H (ds++[])={ results:=[.lit (.bool true)],args:=ds })
  (hc:Chg (fun _=>False) W W'):s.post enc Tryz.prog f apart fresh handsOn false W args (.bool true) W':=by
 have hlt:=hW.lt;have hW0:=hW;obtain ⟨p,q,hA,hV,e,hz,hn⟩:=hW;rw [hv] at hV;obtain ⟨_,rfl⟩:=trodVars_none hV;have hpl:∀ x∈p,x.block<W.heap.size:=fun x hx=>hlt x (by rw [e]; exact List.mem_append_left _ hx);refine ⟨ds,[],before,[],p,[],hW0,?_,?_,?_,?_,fun h=>by cases h⟩
 ·rw [hs,hr];exact trodAll_mk1 (shut_bool Tryz.underlying4 true)
 ·rw [hs];exact trodAll_carry (DataW.TrodAll.respare allKids allFull hp hA (fun x hx=>decide_eq_true (hpl x hx))) (fun x hx=>same_of_chg hc x (hpl x hx))
 ·rw [hs,hv];rfl
 ·exact (World.keptBut_refl W _).congr hc.os hc.output (fun i hi=>hc.block i hi id)
end
end Go.Proofs
end
section
namespace Go.Proofs.YteinbljapojcgaaGreatDoor
open Go Go.SX Go.ChangeShapes Go.WideShapes Go.ChangeAt Go.RowKit
set_option maxRecDepth 100000
section
variable {H:Type} {enc:TypeId×Value→H}
theorem returns_wrap {a:Assume} {C:Checked} {os:Os} {f:FuncId} {fn:Func} {s:ChangeSpec} {conds:List PathCond} {apart fresh handsOn again:Bool} {X:World→Array Value→Prop}
  (hX:∀ (w w':World) (args:Array Value),w.heap=w'.heap→X w args→X w' args)
  (own:ownKnob C.prog.godebug=none) (started:os.Started) (noInit:C.prog.inits.idxOf? f=none) (hfn:C.prog.funcs[f]?=some fn)
  (witness:∃ (w:World) (tape:Tape) (i:Input),w.os=os∧(w.forCall tape i).Shaped C.prog∧i.vars=[]∧Input.okWide C.prog (w.forCall tape i) .any w.heap.size f i ∧
   ((s.pre enc C.prog fn conds apart (w.forCall tape i).memory i.args∧X (w.forCall tape i).memory i.args)∧sizedMet enc C.prog fn (OpenSpec.ofChange s) apart (w.forCall tape i).memory i.args)∧a.holds C.prog (lone (Frame.enter C.prog f i.args .normal) [] (w.forCall tape i)))
  (contract:∀ (W:World) (base:Nat) (args:Array Value) (ds gs:List (DataW H)) (before:List MemPlace),
      (∀ (j:Nat) t v,fn.params[j]?=some t→args[j]?=some v→Value.okWide C.prog W .any base t v) →
   DataW.Whole enc C.prog fn.params.toList s.vars apart W args.toList ds gs before →
   X W args→W.ShapedOpen C.prog →
   Calls C.prog f args W fun e W'=>∃ v,e=.returned v∧s.post enc C.prog fn apart fresh handsOn again W args v W') :
  ReturnsInHanded a C os f .any (fun w args=>(s.pre enc C.prog fn conds apart w args∧X w args)∧sizedMet enc C.prog fn (OpenSpec.ofChange s) apart w args) (s.post enc C.prog fn apart fresh handsOn again):=by
 refine returnsInHanded_of_calls own started noInit witness ?_;intro w tape i _ hsh _ hok hpre hholds;obtain ⟨_,_,_,fn',hfn',_,_,_,_,hval⟩:=hok;have e:fn'=fn:=Option.some.inj (hfn'.symm.trans hfn);subst e;obtain ⟨⟨⟨ds,gs,before,hw,hc⟩,hx⟩,hz⟩:=hpre;have hw':=DataW.Whole.of_heap (w':=w.forCall tape i) (by rfl) hw;refine (contract (w.forCall tape i) w.heap.size i.args ds gs before hval hw' (hX _ _ _ (by rfl) hx) hsh).mono fun e W' ⟨v,he,hp⟩=>?_;subst he;exact ChangeSpec.post_blind hp
theorem iface_cell {P:Program} {w:World} {base:Nat} {sp:Nat→Bool} {held:Bool} {t:TypeId} {ms:Array (String×TypeId)} {n:Nat} {cs:List Value} {u:String} {d:DataW H} {ps:List MemPlace} (ht:P.underlying t=some (.interface ms))
  (h:DataW.trod enc P w base sp held n t cs=some (.iface u d,ps)):∃ tp p,cs=[.iface tp p]:=by
 cases n with
 | zero=>simp [DataW.trod] at h
 | succ n =>
  unfold DataW.trod at h;rw [ht] at h;split at h<;>first | exact ⟨_,_,rfl⟩ | simp_all
end
noncomputable def laidL:List (String×DataW Unit):=Rows.codeOrderRow.laid
theorem tab_e (nm:String) (g t e n:Nat) (k:IntKind) (zs:List Int) (W:World) (d:DataW Unit) (hd:d=Lib.tabData k zs) (hg:Tryz.prog.globalNamed nm=some g) (hty:(Tryz.prog.globals[g]?).map (·.type)=some t)
  (ht:Tryz.prog.underlying t=some (.array n e)) (he:Tryz.prog.underlying e=some (.int k)) (hce:Tryz.prog.cellsOf e=1) (hct:Tryz.prog.cellsOf t=n)
  (h:∃ g t cs fuel p,Tryz.prog.globalNamed nm=some g∧(Tryz.prog.globals[g]?).map (·.type)=some t∧W.var? Tryz.prog nm=some cs∧DataW.trod (fun _=>()) Tryz.prog W 0 (fun _=>true) false fuel t cs.toList=some (d,p)):Lib.TabIs Tryz.prog W nm k zs:=by
 obtain ⟨g',t',cs,fuel,p,h1,h2,h3,h4⟩:=h;obtain rfl:=Option.some.inj (hg.symm.trans h1);obtain rfl:=Option.some.inj (hty.symm.trans h2);subst hd;unfold Lib.TabIs;rw [h3,← Lib.cells_of_tab ht he hce hct h4]
theorem iface_e (nm:String) (g t:Nat) (ms:Array (String×TypeId)) (W:World) (u:String) (d:DataW Unit) (hg:Tryz.prog.globalNamed nm=some g) (hty:(Tryz.prog.globals[g]?).map (·.type)=some t) (ht:Tryz.prog.underlying t=some (.interface ms))
  (h:∃ g t cs fuel p,Tryz.prog.globalNamed nm=some g∧(Tryz.prog.globals[g]?).map (·.type)=some t∧W.var? Tryz.prog nm=some cs∧DataW.trod (fun _=>()) Tryz.prog W 0 (fun _=>true) false fuel t cs.toList=some (.iface u d,p)):∃ tp p,W.var? Tryz.prog nm=some #[Value.iface tp p]:=by
 obtain ⟨g',t',cs,fuel,p,h1,h2,h3,h4⟩:=h;obtain rfl:=Option.some.inj (hg.symm.trans h1);obtain rfl:=Option.some.inj (hty.symm.trans h2);obtain ⟨tp,q,e⟩:=iface_cell ht h4;exact ⟨tp,q,by rw [h3,Array.eq_one_of_toList e]⟩
theorem laid_at {P:Program} {w:World}:∀ {l:List (String×DataW Unit)} {ps:List MemPlace},DataW.LaidVars P w l ps→∀ (n:String) (d:DataW Unit),(n,d)∈l →
  ∃ g t cs fuel p,P.globalNamed n=some g∧(P.globals[g]?).map (·.type)=some t∧w.var? P n=some cs∧DataW.trod (fun _=>()) P w 0 (fun _=>true) false fuel t cs.toList=some (d,p)
 | [],_,_,n,d,h=>by cases h
 | (m,e)::l,_,⟨g,t,cs,fuel,p,q,h1,h2,h3,h4,h5,_⟩,n,d,h=>by
  rcases List.mem_cons.1 h with e1 | h
  ·obtain ⟨rfl,rfl⟩:=Prod.mk.inj e1;exact ⟨g,t,cs,fuel,p,h1,h2,h3,h4⟩
  ·exact laid_at h5 n d h
theorem glb_of_laid {W:World} (h:laidMetH Tryz.prog laidL W) (hsh:W.ShapedOpen Tryz.prog):LastP glbP W:=by
 rw [MakeChecks.laidMetH_plain _ _ _ kq] at h;obtain ⟨ps,hL,_,_⟩:=h;have h11:11<W.heap.size:=by
  have h0:((begin Tryz.prog (fun _ _=>0) default).world.heap[11]?).bind Obj.row?=some (#[.pointer none],258):=kq;obtain ⟨cs,hh,_⟩:=hsh.1 11 #[.pointer none] 258 (of_decide_eq_true kq) h0;rcases Nat.lt_or_ge 11 W.heap.size with hlt | hge
  ·exact hlt
  ·rw [Array.getElem?_eq_none hge] at hh; cases hh
 refine ⟨⟨?_,?_,?_,?_,?_,?_⟩,fun k hk=>Nat.lt_of_lt_of_le hk h11⟩
 ·exact tab_e _ 3 296 106 20 .u64 Lib.pow10Tab W _ kq kq kq kq kq kq kq (laid_at hL _ Rows.laid_internal_strconv_uint64pow10 (List.mem_of_getElem? (i:=2) kq))
 ·exact iface_e _ 4 139 #[("Error",142)] W _ _ kq kq kq (laid_at hL _ Rows.laid_strconv_ErrSyntax (List.mem_of_getElem? (i:=5) kq))
 ·exact iface_e _ 5 139 #[("Error",142)] W _ _ kq kq kq (laid_at hL _ Rows.laid_strconv_ErrRange (List.mem_of_getElem? (i:=4) kq))
 ·exact cell_of_shapedOpen_int (P:=Tryz.prog) (g:=1) (t:=3) (zero:=#[.int .i64 0]) hsh (of_decide_eq_true kq) kq rfl kq kq Tryz.underlying3
 ·exact tab_e _ 0 229 5 256 .u8 Lib.asciiSpaceTab W _ kq kq kq kq kq kq kq (laid_at hL _ Rows.laid_strings_asciiSpace (List.mem_of_getElem? (i:=7) kq))
 ·exact tab_e _ 10 317 5 64 .u8 dbTab W _ kq kq kq kq kq kq kq (laid_at hL _ Rows.laid_math_bits_deBruijn64tab (List.mem_of_getElem? (i:=1) kq))
end Go.Proofs.YteinbljapojcgaaGreatDoor
end
section
namespace Go.Proofs
open Go Go.SX Go.ChangeShapes Go.WideShapes Go.ChangeAt Go.RowKit
set_option maxRecDepth 10000
section
variable {H:Type} {enc:TypeId×Value→H} {w:World} {base:Nat} {sp:Nat→Bool} {held:Bool}
theorem plain_rlv (n:Int×Int):(rlv n).length=2∧∀ x∈rlv n,x.plain:=⟨rfl,fun x hx=>by
 simp only [rlv,List.mem_cons,List.not_mem_nil,or_false] at hx;rcases hx with rfl | rfl<;>trivial⟩
theorem o_rel {n:Nat} {cs:List Value} {x:DataW H×List MemPlace} (h:DataW.trod enc Tryz.prog w base sp held n 62 cs=some x):∃ r:Int×Int,cs=(rlv r).map SV.den0:=by
 obtain ⟨hl,m,hf⟩:=fields (t:=62) kq h;have hn:cs.length=2:=hl.trans kq;obtain ⟨y0,h0⟩:=hf 0 3 0 1 kq kq;obtain ⟨k,e0,w0⟩:=o_int h0;obtain ⟨y1,h1⟩:=hf 1 3 1 1 kq kq;obtain ⟨p,e1,w1⟩:=o_int h1;have e:cs=(cs.drop 0).take 1++((cs.drop 1).take 1++cs.drop 2):=(segs_eq cs [1,1] 0).symm;rw [e0,e1,List.drop_eq_nil_of_le (by omega)] at e;exact ⟨(k,p),e⟩
theorem o_rels {n:Nat} {cs:List Value} {x:DataW H×List MemPlace} (h:DataW.trod enc Tryz.prog w base sp held n 47 cs=some x):∃ (l:List (Int×Int)) (q:Option Addr) (c:Nat),cs=[.slice q l.length c]∧l.length≤maxLen∧LastP (rowP (rowL rlv (0,0) l q c 62 2 false)) w :=
 o_list rlv (0,0) 47 62 2 kq kq (by decide) plain_rlv (fun n cs x h=>o_rel h) h
theorem o_mod {n:Nat} {cs:List Value} {x:DataW H×List MemPlace} (h:DataW.trod enc Tryz.prog w base sp held n 49 cs=some x):∃ (rl:List (Int×Int)) (X:RIn) (pr rg:Int),cs=[Value.int .i64 pr,Value.int .i64 rg,Value.string ⟨X.s.toArray⟩,Value.slice X.q X.n X.c]∧X.n=rl.length∧X.s.length≤maxLen∧rl.length≤maxLen∧LastP (rowP (relRow rl X.q X.c)) w:=by
 obtain ⟨hl,m,hf⟩:=fields (t:=49) kq h;have hn:cs.length=4:=hl.trans kq;obtain ⟨y0,h0⟩:=hf 0 3 0 1 kq kq;obtain ⟨pr,e0,w0⟩:=o_int h0;obtain ⟨y1,h1⟩:=hf 1 3 1 1 kq kq;obtain ⟨rg,e1,w1⟩:=o_int h1;obtain ⟨y2,h2⟩:=hf 2 9 2 1 kq kq;obtain ⟨s,e2,w2⟩:=o_str h2;obtain ⟨y3,h3⟩:=hf 3 47 3 1 kq kq;obtain ⟨rl,q,c,e3,w3,r3⟩:=o_rels h3;have e:cs=(cs.drop 0).take 1++((cs.drop 1).take 1++((cs.drop 2).take 1++((cs.drop 3).take 1++cs.drop 4))):=(segs_eq cs [1,1,1,1] 0).symm;rw [e0,e1,e2,e3,List.drop_eq_nil_of_le (by omega)] at e;exact ⟨rl,⟨s,q,rl.length,c⟩,pr,rg,e,rfl,w2,w3,r3⟩
theorem open_mod {r:Reach} {b0:Nat} {v:Value} {dd:DataW H} {ps:List MemPlace} (hval:Value.okWide Tryz.prog w r b0 49 v) (h:DataW.Trod enc Tryz.prog w base sp held 49 v dd ps) :
  ∃ (rl:List (Int×Int)) (X:RIn) (pr rg:Int),v=(CV.agg [.int .i64 pr,.int .i64 rg,.str X.s,.val (.slice X.q X.n X.c)]).den (fun _=>0)∧X.n=rl.length∧X.s.length≤maxLen∧rl.length≤maxLen∧LastP (rowP (relRow rl X.q X.c)) w:=by
 obtain ⟨cs,rfl,_⟩:=okWide_struct (P:=Tryz.prog) (t:=49) (fs:=fsOf 49) kq hval;obtain ⟨fuel,hf⟩:=h;obtain ⟨rl,X,pr,rg,e,h1⟩:=o_mod hf;refine ⟨rl,X,pr,rg,?_,h1⟩;have e':cs=([Value.int .i64 pr,Value.int .i64 rg,Value.string ⟨X.s.toArray⟩,Value.slice X.q X.n X.c]).toArray:=by
  rw [← e];exact (Array.toArray_toList).symm
 rw [e'];rfl
end
end Go.Proofs
end
section
namespace Go.Proofs
open Go Go.SX
set_option maxRecDepth 10000
theorem zz_unzz (z:Nat):zz (unzz z)=z:=by
 unfold zz unzz;split<;>split<;>omega
def valB:List UInt8→Nat
 | []=>0
 | c::l=>c.toNat % 128+128*valB l
theorem valB_append:∀ (l:List UInt8) (c:UInt8),valB (l++[c])=valB l+c.toNat % 128*128 ^ l.length
 | [],c=>by simp [valB]
 | x::l,c=>by
  show x.toNat % 128+128*valB (l++[c])=x.toNat % 128+128*valB l+c.toNat % 128*128 ^ (l.length+1);rw [valB_append l c,Nat.pow_succ,Nat.mul_add,← Nat.mul_assoc (c.toNat % 128),Nat.mul_comm 128 (c.toNat % 128*128 ^ l.length)];omega
theorem valB_lt:∀ l:List UInt8,valB l<128 ^ l.length
 | []=>by decide
 | x::l=>by
  show x.toNat % 128+128*valB l<128 ^ (l.length+1);have:=valB_lt l;rw [Nat.pow_succ];omega
theorem groups_val:∀ (k:Nat) (l:List UInt8) (c:UInt8),(∀ x∈l,128≤x.toNat)→c.toNat<128→(l=[]∨c.toNat≠0)→l.length≤k→groups k (valB (l++[c]))=l++[c]
 | k,[],c,_,h,_,_=>by
  have e:valB ([]++[c])=c.toNat:=by show c.toNat % 128+128*0=c.toNat; omega
  rw [e,groups_last h];simp
 | 0,x::l,c,_,_,_,h=>absurd h (by simp)
 | k+1,x::l,c,hl,hc,h0,hk=>by
  have hc0:c.toNat≠0:=by
   rcases h0 with h0 | h0
   ·cases h0
   ·exact h0
  have hx:=hl x (List.mem_cons_self ..);have hxl:=x.toNat_lt;have hv:0<valB (l++[c]):=by
   rw [valB_append];have:0<c.toNat % 128*128 ^ l.length:=Nat.mul_pos (by omega) (Nat.pow_pos (by decide));omega
  have e:valB (x::l++[c])=x.toNat % 128+128*valB (l++[c]):=rfl;have e1:(x.toNat % 128+128*valB (l++[c])) % 128+128=x.toNat:=by omega
  have e2:(x.toNat % 128+128*valB (l++[c])) / 128=valB (l++[c]):=by omega
  rw [e,groups_step (by omega),e1,e2,groups_val k l c (fun y hy=>hl y (List.mem_cons_of_mem _ hy)) hc (.inr hc0) (by simpa using hk)];simp
theorem groups_ne (k z:Nat):groups k z≠[]:=by
 cases k with
 | zero=>simp [groups]
 | succ k =>
  by_cases h:z<128
  ·simp [groups_last h]
  ·simp [groups_step h]
theorem groups_last0:∀ (k z:Nat),z<128 ^ (k+1)→(groups k z).getLast?=some 0→z=0
 | k,z,hz,h=>by
  by_cases hl:z<128
  ·rw [groups_last hl] at h;simp only [List.getLast?_singleton,Option.some.injEq] at h;have:=congrArg UInt8.toNat h;simp at this;omega
  ·match k with
   | 0=>simp at hz; omega
   | k+1 =>
    rw [groups_step hl,List.getLast?_cons] at h;have hd:z / 128<128 ^ (k+1):=by rw [Nat.div_lt_iff_lt_mul (by decide),← Nat.pow_succ]; exact hz
    have:=groups_last0 k (z / 128) hd (by
     cases e:(groups k (z / 128)).getLast? with
     | none=>exact absurd (List.getLast?_eq_none_iff.1 e) (groups_ne _ _)
     | some a=>rw [e] at h; simpa using h)
    omega
theorem groups_val_no (k:Nat) (l:List UInt8) (c:UInt8) (hl:l≠[]) (hc:c.toNat=0) (hk:l.length≤k):groups k (valB (l++[c]))≠l++[c]:=by
 intro h;have hc0:c=0:=UInt8.toNat_inj.1 hc;have hlt:=valB_lt (l++[c]);have hz:valB (l++[c])=0:=groups_last0 k _ (Nat.lt_of_lt_of_le hlt (Nat.pow_le_pow_right (by decide) (by simp; omega))) (by rw [h,hc0]; simp);rw [hz,groups_last (by decide)] at h;have:=congrArg List.length h;cases l with
 | nil=>exact hl rfl
 | cons x l=>simp at this
def rfL (b:List UInt8) (a:Nat):Nat→Nat→Nat→Option (Int×Nat)
 | 0,_,_=>none
 | k+1,i,z =>
  if a+i<b.length then
   if 128≤(b.getD (a+i) 0).toNat then rfL b a k (i+1) (z+(b.getD (a+i) 0).toNat % 128*128 ^ i)
   else if numR (unzz (z+(b.getD (a+i) 0).toNat % 128*128 ^ i))=true∧groups 9 (zz (unzz (z+(b.getD (a+i) 0).toNat % 128*128 ^ i)))=(b.drop a).take (i+1) then some (unzz (z+(b.getD (a+i) 0).toNat % 128*128 ^ i),a+i+1)
   else none
  else none
def RfOk (o:Option (Int×Nat)) (r:Int×RSt):Prop:=match o with
 | some p=>r=(p.1,⟨p.2,false⟩)
 | none=>r.2.bad=true
theorem take_next {b:List UInt8} {a i:Nat} (h:a+i<b.length):(b.drop a).take (i+1)=(b.drop a).take i++[b.getD (a+i) 0]:=by
 have h1:i<(b.drop a).length:=by simp; omega
 rw [List.take_add_one,List.getElem?_eq_getElem h1];simp [List.getD,List.getElem?_eq_getElem h]
theorem take_len {b:List UInt8} {a i:Nat} (h:a+i≤b.length):((b.drop a).take i).length=i:=by
 simp; omega
theorem notNum {z:Nat} (h:34359738368≤z):¬ isNum (unzz z)=true:=by
 unfold isNum unzz;split<;>simp<;>omega
theorem takeB_in {b:List UInt8} {n:Nat} (h:n<b.length):takeB (xIn b) ⟨n,false⟩=(b.getD n 0,⟨n+1,false⟩):=by
 unfold takeB;exact if_pos h
theorem takeB_out {b:List UInt8} {n:Nat} (h:¬ n<b.length):takeB (xIn b) ⟨n,false⟩=(0,⟨n,true⟩):=by
 unfold takeB;exact if_neg h
theorem rd_in {b:List UInt8} {k n z m i:Nat} (h:n<b.length):rdNumL (xIn b) (k+1) ⟨n,false⟩ z m i =
  if 128≤(b.getD n 0).toNat∧i+1<6 then rdNumL (xIn b) k ⟨n+1,false⟩ (z+(b.getD n 0).toNat % 128*m) (m*128) (i+1)
  else if 128≤(b.getD n 0).toNat∨(1<i+1∧(b.getD n 0).toNat=0)∨¬ isNum (unzz (z+(b.getD n 0).toNat % 128*m))=true then (0,⟨n+1,true⟩) else (unzz (z+(b.getD n 0).toNat % 128*m),⟨n+1,false⟩):=by
 rw [rdNumL];simp only [takeB_in h]
theorem rd_out {b:List UInt8} {k n z m i:Nat} (h:¬ n<b.length):(rdNumL (xIn b) (k+1) ⟨n,false⟩ z m i).2.bad=true:=by
 rw [rdNumL];simp only [takeB_out h];rw [if_neg (by simp)];split<;>rfl
theorem rf_law (b:List UInt8) (a:Nat):∀ (k i z:Nat),i+k=5→a+i≤b.length→(∀ x∈(b.drop a).take i,128≤x.toNat)→z=valB ((b.drop a).take i)→RfOk (rfL b a k i z) (rdNumL (xIn b) (k+1) ⟨a+i,false⟩ z (128 ^ i) i)
 | 0,i,z,hk,hl,hp,hz=>by
  have e5:i=5:=by omega
  subst e5;show (rdNumL (xIn b) 1 ⟨a+5,false⟩ z (128 ^ 5) 5).2.bad=true;by_cases h:a+5<b.length
  ·rw [rd_in h,if_neg (by omega),if_pos];by_cases h1:128≤(b.getD (a+5) 0).toNat
   ·exact .inl h1
   by_cases h0:(b.getD (a+5) 0).toNat=0
   ·exact .inr (.inl ⟨by omega,h0⟩)
   refine .inr (.inr (notNum ?_));have:128 ^ 5=34359738368:=by decide
   rw [this];have:(b.getD (a+5) 0).toNat % 128=(b.getD (a+5) 0).toNat:=Nat.mod_eq_of_lt (by omega);rw [this];have:1*34359738368≤(b.getD (a+5) 0).toNat*34359738368:=Nat.mul_le_mul_right _ (by omega);omega
  ·exact rd_out h
 | k+1,i,z,hk,hl,hp,hz=>by
  by_cases h:a+i<b.length
  ·have hv:valB ((b.drop a).take (i+1))=z+(b.getD (a+i) 0).toNat % 128*128 ^ i:=by rw [take_next h,valB_append,take_len (by omega),← hz]
   unfold rfL;rw [if_pos h,rd_in h];by_cases hc:128≤(b.getD (a+i) 0).toNat
   ·rw [if_pos hc,if_pos ⟨hc,by omega⟩];exact rf_law b a k (i+1) _ (by omega) (by omega) (fun x hx=>by
     rw [take_next h] at hx;rcases List.mem_append.1 hx with hx | hx
     ·exact hp x hx
     ·rw [List.mem_singleton.1 hx]; exact hc) hv.symm
   ·rw [if_neg hc,if_neg (show ¬ (128≤(b.getD (a+i) 0).toNat∧i+1<6) from fun hh=>hc hh.1),zz_unzz,numR_eq];have htn:=take_next h;generalize b.getD (a+i) 0=c at *;generalize z+c.toNat % 128*128 ^ i=Z at *;by_cases hn:isNum (unzz Z)=true
    ·by_cases h0:1<i+1∧c.toNat=0
     ·rw [if_neg (show ¬ (isNum (unzz Z)=true∧groups 9 Z=List.take (i+1) (List.drop a b)) from ?_),if_pos (show 128≤c.toNat∨(1<i+1∧c.toNat=0)∨¬ isNum (unzz Z)=true from .inr (.inl h0))]
      ·exact rfl
      ·rintro ⟨_,h2⟩;rw [← hv,htn] at h2;refine groups_val_no 9 _ _ ?_ h0.2 (by rw [take_len (by omega)]; omega) h2;intro e;have:=congrArg List.length e;rw [take_len (by omega)] at this;simp at this;omega
     ·rw [if_pos (show isNum (unzz Z)=true∧groups 9 Z=List.take (i+1) (List.drop a b) from ?_),if_neg (show ¬ (128≤c.toNat∨(1<i+1∧c.toNat=0)∨¬ isNum (unzz Z)=true) from ?_)]
      ·exact rfl
      ·rintro (h3 | h3 | h3)
       ·exact hc h3
       ·exact h0 h3
       ·exact h3 hn
      ·refine ⟨hn,?_⟩;rw [← hv,htn];refine groups_val 9 _ _ hp (by omega) ?_ (by rw [take_len (by omega)]; omega);by_cases hi:i=0
       ·left; subst hi; rfl
       ·right; omega
    ·rw [if_neg (show ¬ (isNum (unzz Z)=true∧groups 9 Z=List.take (i+1) (List.drop a b)) from fun hh=>hn hh.1),if_pos (show 128≤c.toNat∨(1<i+1∧c.toNat=0)∨¬ isNum (unzz Z)=true from .inr (.inr hn))];exact rfl
  ·unfold rfL;rw [if_neg h];exact rd_out h
theorem takeB_s (X:RIn) (r:RSt):takeB X r=takeB (xIn X.s) r:=rfl
theorem rdNumL_s (X:RIn):∀ (k:Nat) (r:RSt) (z m n:Nat),rdNumL X k r z m n=rdNumL (xIn X.s) k r z m n
 | 0,_,_,_,_=>rfl
 | k+1,r,z,m,n=>by
  rw [rdNumL,rdNumL];simp only [takeB_s X,rdNumL_s X k];rfl
theorem byteAt_nat (n:Nat) (s:Nat):(byteAt (n:Int) s).toNat=n / 2 ^ s % 256:=by
 unfold byteAt;have:((n:Int) / (2 ^ s)) % 256=((n / 2 ^ s % 256:Nat):Int):=by push_cast; rfl
 rw [this,Int.toNat_natCast];simp
def Fl.fr (f:Fl) (y:In):Prop:=match f with
 | .L=>y.l=[]
 | .Y=>y.y=[]
 | .F=>y.f=[]
 | _=>True
theorem isPl_nat {n:Int} (h:isPl n=true):∃ k:Nat,n=(k:Int)∧k≤1048576:=by
 unfold isPl at h;simp only [Bool.and_eq_true,decide_eq_true_eq] at h;exact ⟨n.toNat,by omega,by omega⟩
def relL (x:In):List Fl→Nat→List (Int×Int)
 | [],_=>[]
 | f::l,a=>f.rel x a++relL x l (a+(f.enc x).length)
theorem putL_eq (x:In):∀ (l:List Fl) (s:List UInt8×List (Int×Int)),putL x l s=(s.1++l.flatMap (fun f=>f.enc x),s.2++relL x l s.1.length)
 | [],s=>by simp [putL,relL]
 | f::l,s=>by
  show putL x l (s.1++f.enc x,s.2++f.rel x s.1.length)=_;rw [putL_eq x l];simp [relL,List.length_append]
def Ext (X Y:RIn):Prop:=∃ t,Y.s=X.s++t
def Keeps {α:Type} (g h:RSt→α×RSt):Prop:=∀ r,(g r).2.bad=false→r.bad=false∧h r=g r
section
variable {X Y:RIn} (hE:Ext X Y)
include hE
theorem ext_take:Keeps (takeB X) (takeB Y):=by
 intro r h;obtain ⟨t,e⟩:=hE;unfold takeB at h ⊢;by_cases hl:r.at_<X.s.length
 ·rw [if_pos hl] at h ⊢;have hl2:r.at_<Y.s.length:=by rw [e,List.length_append]; omega
  rw [if_pos hl2];refine ⟨h,?_⟩;rw [e,List.getD,List.getElem?_append_left hl];rfl
 ·rw [if_neg hl] at h;cases h
theorem ext_numL:∀ (k z m n:Nat),Keeps (fun r=>rdNumL X k r z m n) (fun r=>rdNumL Y k r z m n)
 | 0,_,_,_=>fun r h=>⟨h,rfl⟩
 | k+1,z,m,n=>fun r h=>by
  have h:(rdNumL X (k+1) r z m n).2.bad=false:=h;show r.bad=false∧rdNumL Y (k+1) r z m n=rdNumL X (k+1) r z m n;rw [rdNumL] at h;rw [rdNumL,rdNumL];by_cases c1:128≤(takeB X r).1.toNat∧n+1<6
  ·rw [if_pos c1] at h ⊢;obtain ⟨h1,h2⟩:=ext_numL k _ _ _ _ h;obtain ⟨h3,h4⟩:=ext_take hE r h1;rw [h4,if_pos c1];exact ⟨h3,h2⟩
  ·rw [if_neg c1] at h ⊢;by_cases c2:128≤(takeB X r).1.toNat∨(1<n+1∧(takeB X r).1.toNat=0)∨¬ isNum (unzz (z+(takeB X r).1.toNat % 128*m))=true
   ·rw [if_pos c2] at h;cases h
   ·rw [if_neg c2] at h ⊢;obtain ⟨h3,h4⟩:=ext_take hE r h;rw [h4,if_neg c1,if_neg c2];exact ⟨h3,rfl⟩
theorem ext_num:Keeps (rdNum X) (rdNum Y):=ext_numL hE 6 0 1 0
theorem ext_flag:Keeps (rdFlag X) (rdFlag Y):=by
 intro r h;unfold rdFlag at h ⊢;simp only [Bool.or_eq_false_iff] at h;obtain ⟨h3,h4⟩:=ext_take hE r h.1;rw [h4];exact ⟨h3,rfl⟩
theorem ext_str:Keeps (rdStr X) (rdStr Y):=by
 intro r h;obtain ⟨t,e⟩:=hE;unfold rdStr at h ⊢;simp only at h ⊢;by_cases c:(rdNum X r).1<0∨255<(rdNum X r).1∨(X.s.length:Int) - (rdNum X r).2.at_<(rdNum X r).1
 ·rw [if_pos c] at h;cases h
 ·rw [if_neg c] at h ⊢;obtain ⟨h3,h4⟩:=ext_num ⟨t,e⟩ r h;have hlen:Y.s.length=X.s.length+t.length:=by rw [e,List.length_append]
  rw [h4,if_neg (by omega)];refine ⟨h3,?_⟩;rw [e,List.take_append_of_le_length (by omega)]
theorem ext_ty:Keeps (rdTy X) (rdTy Y):=by
 intro r h;unfold rdTy at h ⊢;simp only at h ⊢;obtain ⟨h5,e5⟩:=ext_str hE _ h;obtain ⟨h4,e4⟩:=ext_flag hE _ h5;obtain ⟨h3,e3⟩:=ext_num hE _ h4;obtain ⟨h2,e2⟩:=ext_num hE _ h3;obtain ⟨h1,e1⟩:=ext_num hE _ h2;rw [e1,e2,e3,e4,e5];exact ⟨h1,rfl⟩
theorem ext_fm:Keeps (rdFm X) (rdFm Y):=by
 intro r h;unfold rdFm at h ⊢;simp only at h ⊢;obtain ⟨h4,e4⟩:=ext_str hE _ h;obtain ⟨h3,e3⟩:=ext_num hE _ h4;obtain ⟨h2,e2⟩:=ext_num hE _ h3;obtain ⟨h1,e1⟩:=ext_num hE _ h2;rw [e1,e2,e3,e4];exact ⟨h1,rfl⟩
theorem ext_int:Keeps (gI X) (gI Y):=by
 intro r h;unfold gI at h ⊢;obtain ⟨h1,e1⟩:=ext_num hE r h;rw [e1];exact ⟨h1,rfl⟩
omit hE in
theorem ext_list {α:Type} {g h:RSt→α×RSt} (hk:Keeps g h):∀ k,Keeps (rdList g k) (rdList h k)
 | 0=>fun r hr=>⟨hr,rfl⟩
 | k+1=>fun r hr=>by
  have hr':(rdList g k (g r).2).2.bad=false:=hr;obtain ⟨h2,e2⟩:=ext_list hk k _ hr';obtain ⟨h1,e1⟩:=hk r h2;refine ⟨h1,?_⟩;show ((h r).1::(rdList h k (h r).2).1,(rdList h k (h r).2).2)=((g r).1::(rdList g k (g r).2).1,(rdList g k (g r).2).2);rw [e1,e2]
theorem ext_lst {α:Type} {g h:RSt→α×RSt} (hk:Keeps g h) (l:List α):Keeps (rdLst X g l) (rdLst Y h l):=by
 intro r hr;unfold rdLst at hr ⊢;by_cases c:(decide ((rdNum X r).1<0)||decide ((rdNum X r).1>16))=true
 ·rw [if_pos c] at hr;cases hr
 ·rw [if_neg c] at hr ⊢;obtain ⟨h2,e2⟩:=ext_list hk _ _ hr;obtain ⟨h1,e1⟩:=ext_num hE r h2;rw [e1,if_neg c,e2];exact ⟨h1,rfl⟩
theorem ext_four:Keeps (rdFour X) (rdFour Y):=by
 intro r h;unfold rdFour at h ⊢;simp only at h ⊢;obtain ⟨h4,e4⟩:=ext_take hE _ h;obtain ⟨h3,e3⟩:=ext_take hE _ h4;obtain ⟨h2,e2⟩:=ext_take hE _ h3;obtain ⟨h1,e1⟩:=ext_take hE _ h2;rw [e1,e2,e3,e4];exact ⟨h1,rfl⟩
omit hE in
theorem rel_bad {rl:List (Int×Int)} {v:Int} {r:RSt} (h:(rdRel rl v r).2.bad=false):r.bad=false:=by
 unfold rdRel at h;split at h
 ·exact h
 ·cases h
theorem ext_pr (no:Bool) (rl:List (Int×Int)) (old:Int):Keeps (fun r=>rdPr no rl X r old) (fun r=>rdPr no rl Y r old):=by
 intro r h;simp only at h ⊢;have hb:(rdFour X r).2.bad=false:=by
  unfold rdPr at h;split at h
  ·exact h
  ·split at h
   ·exact rel_bad h
   ·cases h
 obtain ⟨h1,e1⟩:=ext_four hE r hb;refine ⟨h1,?_⟩;unfold rdPr;rw [e1]
theorem ext_fl (f:Fl) (rl:List (Int×Int)) (r:RSt) (x:In) (h:(f.rd rl X r x).1.bad=false):r.bad=false∧f.rd rl Y r x=f.rd rl X r x:=by
 cases f
 case D=>obtain ⟨h1,e⟩:=ext_num hE r h; refine ⟨h1,?_⟩; simp only [Fl.rd]; rw [e]
 case A=>obtain ⟨h1,e⟩:=ext_num hE r h; refine ⟨h1,?_⟩; simp only [Fl.rd]; rw [e]
 case B=>obtain ⟨h1,e⟩:=ext_num hE r h; refine ⟨h1,?_⟩; simp only [Fl.rd]; rw [e]
 case N=>obtain ⟨h1,e⟩:=ext_num hE r h; refine ⟨h1,?_⟩; simp only [Fl.rd]; rw [e]
 case M=>obtain ⟨h1,e⟩:=ext_num hE r h; refine ⟨h1,?_⟩; simp only [Fl.rd]; rw [e]
 case P=>obtain ⟨h1,e⟩:=ext_num hE r h; refine ⟨h1,?_⟩; simp only [Fl.rd]; rw [e]
 case T=>obtain ⟨h1,e⟩:=ext_ty hE r h; refine ⟨h1,?_⟩; simp only [Fl.rd]; rw [e]
 case U=>obtain ⟨h1,e⟩:=ext_ty hE r h; refine ⟨h1,?_⟩; simp only [Fl.rd]; rw [e]
 case W=>obtain ⟨h1,e⟩:=ext_ty hE r h; refine ⟨h1,?_⟩; simp only [Fl.rd]; rw [e]
 case V =>
  obtain ⟨h2,e2⟩:=ext_str hE _ h;obtain ⟨h1,e1⟩:=ext_num hE r h2;refine ⟨h1,?_⟩;simp only [Fl.rd];rw [e1,e2]
 case L=>obtain ⟨h1,e⟩:=ext_lst hE (ext_int hE) x.l r h; refine ⟨h1,?_⟩; simp only [Fl.rd]; rw [e]
 case Y=>obtain ⟨h1,e⟩:=ext_lst hE (ext_ty hE) x.y r h; refine ⟨h1,?_⟩; simp only [Fl.rd]; rw [e]
 case F=>obtain ⟨h1,e⟩:=ext_lst hE (ext_fm hE) x.f r h; refine ⟨h1,?_⟩; simp only [Fl.rd]; rw [e]
 case Sz=>obtain ⟨h1,e⟩:=ext_flag hE r h; refine ⟨h1,?_⟩; simp only [Fl.rd]; rw [e]
 case Rg=>obtain ⟨h1,e⟩:=ext_flag hE r h; refine ⟨h1,?_⟩; simp only [Fl.rd]; rw [e]
 case aN=>obtain ⟨h1,e⟩:=ext_four hE r h; refine ⟨h1,?_⟩; simp only [Fl.rd]; rw [e]
 case aM=>obtain ⟨h1,e⟩:=ext_four hE r h; refine ⟨h1,?_⟩; simp only [Fl.rd]; rw [e]
 case pN=>obtain ⟨h1,e⟩:=ext_pr hE false rl (Sel.get .N x) r h; refine ⟨h1,?_⟩; simp only [Fl.rd]; simp only at e; rw [e]
 case pM=>obtain ⟨h1,e⟩:=ext_pr hE true rl (Sel.get .M x) r h; refine ⟨h1,?_⟩; simp only [Fl.rd]; simp only at e; rw [e]
 case far =>
  obtain ⟨h2,e2⟩:=ext_four hE _ h;refine ⟨rel_bad h2,?_⟩;simp only [Fl.rd];rw [e2]
omit hE in
theorem rdL_bad {rl:List (Int×Int)} {X:RIn}:∀ (l:List Fl) (s:RSt×In),s.1.bad=true→rdL rl X l s=s
 | [],s,_=>rfl
 | f::l,s,h=>by
  show rdL rl X l (if s.1.bad=true then s else f.rd rl X s.1 s.2)=s;rw [if_pos h];exact rdL_bad l s h
theorem ext_rdL (rl:List (Int×Int)):∀ (l:List Fl) (s:RSt×In),(rdL rl X l s).1.bad=false→s.1.bad=false∧rdL rl Y l s=rdL rl X l s
 | [],s,h=>⟨h,rfl⟩
 | f::l,s,h=>by
  have hu:rdL rl X (f::l) s=rdL rl X l (if s.1.bad=true then s else f.rd rl X s.1 s.2):=rfl;have hv:rdL rl Y (f::l) s=rdL rl Y l (if s.1.bad=true then s else f.rd rl Y s.1 s.2):=rfl;by_cases hb:s.1.bad=true
  ·rw [rdL_bad (f::l) s hb,hb] at h;cases h
  ·rw [hu,if_neg hb] at h;obtain ⟨h1,e1⟩:=ext_rdL rl l _ h;obtain ⟨h2,e2⟩:=ext_fl hE f rl s.1 s.2 h1;rw [hu,hv,if_neg hb,if_neg hb,e2,e1];exact ⟨h2,rfl⟩
end
def Fl.pr (f:Fl):Bool:=match f with
 | .pN | .pM | .far=>true
 | _=>false
def be (l:List UInt8):Nat:=l.foldl (fun n c=>256*n+c.toNat) 0
def OkF {α:Type} (X:RIn) (g:RSt→α×RSt):Prop:=∀ r,okIn X r→okIn X (g r).2
theorem keep {α:Type} {h:RSt→α×RSt} (k:Keeps h h) {r:RSt} (hb:r.bad=true):(h r).2.bad=true:=by
 cases e:(h r).2.bad with
 | true=>rfl
 | false=>have:=(k r e).1; rw [hb] at this; cases this
theorem ext_self (X:RIn):Ext X X:=⟨[],(List.append_nil _).symm⟩
def wrap32 (n:Nat):Int:=if n<2147483648 then (n:Int) else (n:Int) - 4294967296
theorem orB_gen {n b:Nat} (hn:n<16777216) (hb:b<256):orB (n:Int) (b:Int)=IntKind.i32.wrap ((n*256+b:Nat):Int):=by
 unfold orB;have e1:BitVec.ofInt 32 (IntKind.i32.wrap ((n:Int)*2 ^ 8))=BitVec.ofNat 32 (n*256):=by
  apply BitVec.eq_of_toNat_eq;rw [BitVec.toNat_ofInt,BitVec.toNat_ofNat];simp [IntKind.wrap,IntKind.bits,IntKind.signed];omega
 have e2:BitVec.ofInt 32 (IntKind.i32.wrap (b:Int))=BitVec.ofNat 32 b:=by
  apply BitVec.eq_of_toNat_eq;rw [BitVec.toNat_ofInt,BitVec.toNat_ofNat];simp [IntKind.wrap,IntKind.bits,IntKind.signed];omega
 rw [e1,e2];have e3:(BitVec.ofNat 32 (n*256) ||| BitVec.ofNat 32 b).toNat=n*256+b:=by
  rw [BitVec.toNat_or,BitVec.toNat_ofNat,BitVec.toNat_ofNat,Nat.mod_eq_of_lt (by omega),Nat.mod_eq_of_lt (by omega)];have:=Nat.two_pow_add_eq_or_of_lt (i:=8) (b:=b) (by omega) n;rw [Nat.mul_comm n 256];exact this.symm
 rw [e3]
theorem orB_3 {n b:Nat} (hn:n<65536) (hb:b<256):orB (n:Int) (b:Int)=((n*256+b:Nat):Int):=by
 rw [orB_gen (by omega) hb];simp [IntKind.wrap,IntKind.bits,IntKind.signed];omega
theorem orB_4 {n b:Nat} (hn:n<16777216) (hb:b<256):IntKind.i64.wrap (orB (n:Int) (b:Int))=wrap32 (n*256+b):=by
 rw [orB_gen hn hb];unfold wrap32;simp [IntKind.wrap,IntKind.bits,IntKind.signed];split<;>omega
theorem rd_op1 (f:Fl) (rl:List (Int×Int)) (X:RIn) (r:RSt) (x:In):(f.rd rl X r x).2.op=x.op:=by cases f<;>rfl
theorem rdL_op (rl:List (Int×Int)) (X:RIn):∀ (l:List Fl) (s:RSt×In),(rdL rl X l s).2.op=s.2.op
 | [],s=>rfl
 | f::l,s=>by
  show (rdL rl X l (if s.1.bad=true then s else f.rd rl X s.1 s.2)).2.op=_;rw [rdL_op rl X l];split
  ·rfl
  ·exact rd_op1 f rl X s.1 s.2
end Go.Proofs
end
