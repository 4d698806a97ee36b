/- A symbolic run of the program that Lean checks, and what the functions of the program come to by it: part 10 of 11. -/
import Derived.Test.YticgechhgdgjlaaGreatDoorRAI
set_option linter.unusedVariables false
set_option linter.unusedSimpArgs false
section
namespace Go.Proofs
open Go Go.SX
set_option maxRecDepth 100000
set_option maxHeartbeats 400000
def prC (nm : List UInt8) (k size : Int) (b : SV) : List SV:=[.str nm,.int .i64 k,.int .i64 0,.int .i64 size,nilS,b,nilS]
def prF2 : St:={ noF with heap:=[(0,⟨smC 2 (.sli 1 1 1) (.sli 2 1 1) 0 ++ smC 6 nilS nilS 1,59,false⟩),(1,⟨rfC xA,97,false⟩),(2,⟨exK yA 7 [] 0,44,false⟩)],next:=3 }
def prF1 : St:={ noF with heap:=[(0,⟨smC 2 (.sli 1 1 1) (.sli 2 1 1) 0,59,false⟩),(1,⟨rfC xB,97,false⟩),(2,⟨exK yB 1250 [] 0,44,false⟩)],next:=3 }
def st1 (a : List SV) (x : QC) : Row:=⟨x.1,1,x.2,59,11,f3 a a a,true,none⟩
theorem cl112 : CallsF Tryz.prog 112 [.one nilS] (stP []) (.ret (.v (.one nilS))):=CallsF.run ev0 [] [] [] 200 Tryz.func112 kq kq kq kq kq (fun os=>kq)
theorem cl186 : CallsF Tryz.prog 186 [.one nilS] (stP []) (.ret (.v (.one nilS))):=CallsF.run ev0 [] [] [] 200 Tryz.func186 kq kq kq kq kq (fun os=>kq)
def k112 : Con Tryz.prog:=Con.lits 112 [([.one nilS],.v (.one nilS))] (fun p hp=>by rw [List.mem_singleton.1 hp]; exact ⟨rfl,cl112⟩)
def k186 : Con Tryz.prog:=Con.lits 186 [([.one nilS],.v (.one nilS))] (fun p hp=>by rw [List.mem_singleton.1 hp]; exact ⟨rfl,cl186⟩)
theorem proc1 : CallsK Tryz.prog 116 [mvF,.agg (prC [80] 0 0 (.sli 0 1 1))] prF1 (fun _ : (QC × QC) × QC=>True) (fun x=>.v (.agg (prC [80] 0 0 (.row 0 x.2.1 1 x.2.2))))
  (fun x=>{ prF1 with rows:=[(0,st1 (smY x.1) x.2)],nr:=1 }):=by
 refine CallsK.mk true Tryz.func116 kq kq (fun ρ w=>V.lit ?_)
 refine V.runZ ev0 [] [66] 2000 (fun os=>kq) kq kq (fun os=>?_)
 refine V.drawX [] [] 10 kq ?_
 refine @VX.run _ [] [] 10 _ _ ([k112.e,k186.e] : List (Ent Tryz.prog)) [] kq kq trivial ?_
 refine @VX.tail _ [] [] 10 _ _ 9 kq ?_
 refine V.runZ ev0 [] [66] 2000 (fun os=>kq) kq kq (fun o1=>?_)
 refine V.nilB (fun _ : Nat=>([] : List SV)) 0 3 5 ⟨prC [80] 0 0 nilS,55,true⟩ 59 11 kq rfl ?_
 refine V.drawX [] [0] 9 kq ?_
 refine @VX.run _ [] [0] 9 _ _ ([] : List (Ent Tryz.prog)) [] kq kq trivial ?_
 refine @VX.callK _ [] [0] 9 _ _ (QC × QC) 66 [mvF,.agg (smC 2 (.sli 0 1 1) (.sli 1 1 1) 0)] (smB xB yB 1250) _ _ _ [] stmtBK kq kq kq (fun _=>kq) (fun x _=>?_)
 refine @VX.run _ [] [0] 9 _ _ ([] : List (Ent Tryz.prog)) [] kq kq trivial ?_
 refine @VX.push1 _ [] [0] 9 _ _ (rowL (fun _ : Nat=>([] : List SV)) 0 [] none 0 59 11 true) (f3 (smY x) (smY x) (smY x)) 0 (smY x) 128 kq kq kq (by decide) (fun i hi=>absurd hi (Nat.not_lt_zero i)) rfl (fun _ _=>kq) (fun q cap=>?_)
 refine @VX.run _ [] [0] 9 _ _ ([] : List (Ent Tryz.prog)) [] kq kq trivial ?_
 refine @VX.tail _ [] [0] 9 _ _ 9 kq ?_
 refine V.lit ?_
 refine V.runZ ev0 [] [66] 2000 (fun os=>kq) kq kq (fun o2=>?_)
 exact V.retK (x,(q,cap)) [] kq kq kq trivial
end Go.Proofs
end
section
namespace Go.Proofs
open Go Go.SX
set_option maxRecDepth 100000
set_option maxHeartbeats 400000
def mv2 (k : List SV) : List CV → Bool
 | [.one (.fn f []),.agg m]=>match Nat.beq f 63 with
  | true=>eqSs m k
  | false=>false
 | _=>false
def Con.mv2 (k : List SV) (h : CallsF Tryz.prog 66 [mvF,.agg k] (stP []) (.ret (.v (.agg k)))) : Con Tryz.prog where
 f:=66
 need:=[]
 fn:=fun xs=>match Go.Proofs.mv2 k xs with
  | true=>some (.v (.agg k),[])
  | false=>none
 ok:=by
  intro xs v ob hx hob ρ w hp hl
  split at hx
  case h_2=>cases hx
  rename_i hu
  cases hx
  have hxs : xs.map (CV.den ρ) = [mvF,.agg k].map (CV.den ρ):=by
   unfold Go.Proofs.mv2 at hu
   split at hu
   ·split at hu
    ·rename_i m _ hf
     rw [(beq_iff _ _).1 hf]
     have h3 : CV.den ρ (.agg m) = CV.den ρ (.agg k):=eqC_den (x:=.agg m) (y:=.agg k) hu
     simp only [List.map_cons,List.map_nil,h3,mvF]
    ·cases hu
   ·cases hu
  rw [hxs]
  exact h ρ w (FSat_nil ρ w)
def k66 : Con Tryz.prog:=Con.mv2 (smC 6 nilS nilS 1) (stmtN 6 1 (.inr rfl))
def k66n : Con Tryz.prog:=Con.mv2 (smC 1 nilS nilS 0) (stmtN 1 0 (.inl rfl))
theorem proc0 : CallsK Tryz.prog 116 [mvF,.agg (prC [77,65,73,78] (-1) 48 (.sli 0 2 2))] prF2 (fun _ : (QC × QC) × QC=>True) (fun x=>.v (.agg (prC [77,65,73,78] (-1) 48 (.row 0 x.2.1 2 x.2.2))))
  (fun x=>{ prF2 with rows:=[(0,st2 (smY x.1) (smC 6 nilS nilS 1) x.2)],nr:=1 }):=by
 refine CallsK.mk true Tryz.func116 kq kq (fun ρ w=>V.lit ?_)
 refine V.runZ ev0 [] [66] 2000 (fun os=>kq) kq kq (fun os=>?_)
 refine V.drawX [] [] 10 kq ?_
 refine @VX.run _ [] [] 10 _ _ ([k112.e,k186.e] : List (Ent Tryz.prog)) [] kq kq trivial ?_
 refine @VX.tail _ [] [] 10 _ _ 9 kq ?_
 refine V.runZ ev0 [] [66] 2000 (fun os=>kq) kq kq (fun o1=>?_)
 refine V.nilB (fun _ : Nat=>([] : List SV)) 0 3 5 ⟨prC [77,65,73,78] (-1) 48 nilS,55,true⟩ 59 11 kq rfl ?_
 refine V.drawX [] [0] 9 kq ?_
 refine @VX.run _ [] [0] 9 _ _ ([] : List (Ent Tryz.prog)) [] kq kq trivial ?_
 refine @VX.callK _ [] [0] 9 _ _ (QC × QC) 66 [mvF,.agg (smC 2 (.sli 0 1 1) (.sli 1 1 1) 0)] (smB xA yA 7) _ _ _ [] stmtAK kq kq kq (fun _=>kq) (fun x _=>?_)
 refine @VX.run _ [] [0] 9 _ _ ([] : List (Ent Tryz.prog)) [] kq kq trivial ?_
 refine @VX.push1 _ [] [0] 9 _ _ (rowL (fun _ : Nat=>([] : List SV)) 0 [] none 0 59 11 true) (f3 (smY x) (smY x) (smY x)) 0 (smY x) 128 kq kq kq (by decide) (fun i hi=>absurd hi (Nat.not_lt_zero i)) rfl (fun _ _=>kq) (fun q cap=>?_)
 refine @VX.run _ [] [0] 9 _ _ ([] : List (Ent Tryz.prog)) [] kq kq trivial ?_
 refine @VX.tail _ [] [0] 9 _ _ 9 kq ?_
 refine V.lit ?_
 refine V.runZ ev0 [] [66] 2000 (fun os=>kq) kq kq (fun o2=>?_)
 refine V.drawX [] [1] 9 kq ?_
 refine @VX.run _ [] [1] 9 _ _ ([k66.e] : List (Ent Tryz.prog)) [] kq kq trivial ?_
 refine @VX.push1 _ [] [1] 9 _ _ (st1 (smY x) (q,cap)) (f3 (smY x) (smC 6 nilS nilS 1) (smC 6 nilS nilS 1)) 1 (smC 6 nilS nilS 1) 128 kq kq kq (show 2 * 128 ≤ 140737488355328 by decide) (fun i (hi : i < 1)=>(Nat.lt_one_iff.1 hi ▸ rfl)) rfl (fun _ _=>kq) (fun q2 cap2=>?_)
 refine @VX.run _ [] [1] 9 _ _ ([] : List (Ent Tryz.prog)) [] kq kq trivial ?_
 refine @VX.tail _ [] [1] 9 _ _ 9 kq ?_
 refine V.lit ?_
 refine V.runZ ev0 [] [66] 2000 (fun os=>kq) kq kq (fun o3=>?_)
 exact V.retK (x,(q2,cap2)) [] kq kq kq trivial
end Go.Proofs
end
section
namespace Go.SX
open Go
theorem CallsF.toA {P : Program} {f : FuncId} {ys : List CV} {F : St} {v : RV} (h : CallsF P f ys F (.ret v)) : CallsA P f ys F (fun _ : Unit=>True) (fun _=>v) (fun _=>[]) :=
 fun ρ w hF=>(h ρ w hF).mono (fun e w' hg=>⟨(),trivial,hg.1,hg.2,fun R hR=>absurd hR List.not_mem_nil⟩)
section
variable {C : Ctx} {ρ : Nat → Nat} {s : St} {a : Act} {w : World}
theorem Sat.freeze (hS : Sat C ρ s a w) (r : Nat) (R : Row) (hR : look s.rows r = some R) (ho : (R.own && R.obj.isNone) = true) : Sat C ρ (s.froze r (newP C.w0.heap.size C.S (rowP R.lent))) a w:=by
 rw [Bool.and_eq_true] at ho
 obtain ⟨ho,hob⟩:=ho
 have hob : R.obj = none:=by simpa using hob
 obtain ⟨r1,r2,r3⟩:=hS.rows r R hR
 have huse : ∀ k,R.lent.uses k → R.uses k:=by
  rintro k ⟨ad,h1,h2,h3⟩
  refine ⟨ad,h1,h2,.inl ho⟩
 have hok : R.lent.ok w:=⟨r2.len,r2.addr,(fun e=>by cases e),(fun o e=>by rw [show R.lent.obj = R.obj from rfl,hob] at e; cases e)⟩
 have hle : s.W.le (s.froze r (newP C.w0.heap.size C.S (rowP R.lent))).W:=⟨Nat.le_refl _,Nat.le_refl _,fun q _ Q hQ=>(look_eraseK hQ).2⟩
 refine ⟨hS.n,?_,?_,?_,hS.inj,hS.lt,hS.defers,hS.chg,?_,?_,?_,hS.fix⟩
 ·intro i v hv
  simp only [St.froze,look_mapK] at hv
  obtain ⟨u,hu,rfl⟩:=Option.map_eq_some_iff.1 hv
  obtain ⟨k1,k2⟩:=hS.slots i u hu
  exact ⟨by rw [RV.froze_den]; exact k1,RV.froze_wf hle u k2⟩
 ·intro i g pol b x hv
  simp only [St.froze,look_mapK] at hv ⊢
  obtain ⟨u,hu,hu'⟩:=Option.map_eq_some_iff.1 hv
  cases u with
  | grd g' pol' b' x' =>
   simp only [RV.froze,RV.grd.injEq] at hu'
   obtain ⟨rfl,rfl,rfl,rfl⟩:=hu'
   obtain ⟨k1,k2⟩:=hS.grds i _ _ _ _ hu
   exact ⟨k1,k2.map (F:=RV.froze r) (f:=SV.froze r) (fun _=>rfl) (fun _ _ _ _=>rfl) (fun x b hb=>by cases x <;> first | exact hb | cases hb) (fun _=>rfl)⟩
  | v x=>cases hu'
  | tup x=>cases hu'
 ·intro b blk hb
  simp only [St.froze,look_mapK] at hb
  obtain ⟨u,hu,rfl⟩:=Option.map_eq_some_iff.1 hb
  obtain ⟨k1,k2,k3,k4⟩:=hS.heap b u hu
  refine ⟨k1,?_,?_,k4⟩
  ·have : (u.cells.map (SV.froze r)).map (SV.den ρ) = u.cells.map (SV.den ρ):=by rw [List.map_map]; exact List.map_congr_left fun x _=>SV.froze_den x
   simp only [this]; exact k2
  ·intro x hx; obtain ⟨y,hy,rfl⟩:=List.mem_map.1 hx; exact SV.froze_wf hle y (k3 y hy)
 ·intro q Q hQ
  obtain ⟨_,h2⟩:=look_eraseK hQ
  exact hS.rows q Q h2
 ·intro q q' Q Q' h1 h2
  exact hS.rowsD q q' Q Q' (look_eraseK h1).2 (look_eraseK h2).2
 ·intro p hp
  rcases List.mem_cons.1 hp with rfl | hp
  ·have hpure : ∀ k,(rowP R.lent).D k → C.w0.heap.size ≤ k ∨ C.S k:=fun k hk=>(r3 k (huse k hk)).2.2 ho
   refine ⟨⟨hok,hpure⟩,fun w2 hw2=>⟨hok.congr hw2,hpure⟩,fun k hk=>?_⟩
   obtain ⟨q1,q2,q3⟩:=r3 k (huse k hk)
   refine ⟨q1,q2,fun q Q hQ hQo hu=>?_⟩
   obtain ⟨hne,h2⟩:=look_eraseK hQ
   exact hS.rowsD r q R Q hR h2 (fun e=>hne e.symm) ho k (huse k hk) hu
  ·obtain ⟨p1,p2,p3⟩:=hS.pers p hp
   exact ⟨p1,p2,fun k hk=>⟨(p3 k hk).1,(p3 k hk).2.1,fun q Q hQ=>(p3 k hk).2.2 q Q (look_eraseK hQ).2⟩⟩
end
section
variable {C : Ctx} {T TR : List Nat} {L : Nat} {c0 : Cfg} {d : DCfg}
theorem VX.freeze (r : Nat) (R : Row) (hR : look d.st.rows r = some R) (ho : (R.own && R.obj.isNone) = true) (hr : Nat.ble c0.st.nr r = true)
  (h : VX C T TR L c0 ⟨d.fuel,d.listed,d.st.froze r (newP C.w0.heap.size C.S (rowP R.lent))⟩) : VX C T TR L c0 d:=by
 intro D hD a1 a2 a3 a4 a5 a6 hL hsel aT aTR hlt aN hrw ρ a w hS hρ hn0 hch hcl hsz
 have hr' : c0.st.nr ≤ r:=Nat.le_of_ble_eq_true hr
 refine h D hD a1 a2 a3 a4 a5 a6 hL hsel aT aTR hlt aN ⟨fun q Q hQ=>?_,hrw.2.trans' ⟨Nat.le_refl _,Nat.le_refl _,fun q _ Q hQ=>(look_eraseK hQ).2⟩⟩ ρ a w (hS.freeze r R hR ho) hρ hn0 hch hcl hsz
 have h1:=hrw.1 q Q hQ
 rw [a3] at hQ
 have h2:=hlt q Q (look_heldOf' hQ).2
 show look (eraseK r d.st.rows) q = some Q
 rw [look_eraseK_ne (by omega)]
 exact h1
end
theorem Sat.roB {C : Ctx} {ρ : Nat → Nat} {s : St} {a : Act} {w : World} (hS : Sat C ρ s a w) (b : Nat) (blk : Blk) (hb : look s.heap b = some blk) : Sat C ρ { s with heap:=upd s.heap b ⟨blk.cells,blk.elem,false⟩ } a w:=by
 refine ⟨hS.n,hS.slots,hS.grds,?_,hS.inj,hS.lt,hS.defers,hS.chg,hS.rows,hS.rowsD,hS.pers,hS.fix⟩
 intro b' blk' hb'
 simp only [look_upd] at hb'
 by_cases e : b = b'
 ·subst e
  rw [if_pos rfl] at hb'
  cases hb'
  obtain ⟨k1,k2,k3,k4⟩:=hS.heap b blk hb
  exact ⟨k1,k2,k3,fun e=>by cases e⟩
 ·rw [if_neg e] at hb'
  exact hS.heap b' blk' hb'
theorem VX.roB {C : Ctx} {T TR : List Nat} {L : Nat} {c0 : Cfg} {d : DCfg} (b : Nat) (blk : Blk) (hb : look d.st.heap b = some blk)
  (h : VX C T TR L c0 ⟨d.fuel,d.listed,{ d.st with heap:=upd d.st.heap b ⟨blk.cells,blk.elem,false⟩ }⟩) : VX C T TR L c0 d:=by
 intro D hD a1 a2 a3 a4 a5 a6 hL hsel aT aTR hlt aN hrw ρ a w hS hρ hn0 hch hcl hsz
 exact h D hD a1 a2 a3 a4 a5 a6 hL hsel aT aTR hlt aN hrw ρ a w (hS.roB b blk hb) hρ hn0 hch hcl hsz
end Go.SX
namespace Go.Proofs
open Go Go.SX
set_option maxRecDepth 100000
set_option maxHeartbeats 400000
def intS (n : Int) : List SV:=[.int .i64 n]
def ckB (x : QC) : Blk:=⟨[SV.sli 0 2 2,SV.int IntKind.i64 0,nilS,SV.sli 7 1 1,nilS,nilS,SV.int .i64 0,.row 0 x.1 1 x.2],173,true⟩
def exQ : St:={ exE 48 with heap:=roH (exG 48) }
theorem c72 : CallsK Tryz.prog 72 [exP,i64 0] exQ (fun _ : QC=>True) (fun _=>.v (.one (.ptr 8 0))) (fun x=>{ exE 48 with heap:=roH (exG 48) ++ [(8,ckB x)],next:=9,rows:=[(0,rowL intS 0 [0] x.1 x.2 3 1 true)],nr:=1,pers:=[] }):=by
 refine CallsK.mk true Tryz.func72 kq kq (fun ρ w=>V.lit ?_)
 refine V.runC ([] : List (Ent Tryz.prog)) 30 [] kq kq trivial ?_
 refine V.nilL intS 0 24 3 1 kq kq ?_
 refine V.push intS 0 [] 0 0 none 0 3 1 [.int .i64 0] 8 kq (by decide) rfl (fun _ _=>kq) (fun q cap=>?_)
 refine V.runC ([] : List (Ent Tryz.prog)) 30 [] kq kq trivial ?_
 exact V.retK (q,cap) [] kq kq kq trivial
def ckF (x : QC) : St:={ noF with heap:=(0,⟨[.sli 1 2 2,.int .i64 0,nilS,.sli 8 1 1,nilS,nilS,.int .i64 0,.val (.slice x.1 1 x.2)],173,false⟩) :: ((exH 48).drop 1 ++ [(9,⟨smC 1 nilS nilS 0,59,false⟩)]),next:=10,pers:=gl }
theorem c111 (x : QC) : CallsF Tryz.prog 111 [.one (.ptr 0 0),.one (.ptr 9 0)] (ckF x) (outE 0) :=
 CallsF.run evE TE glT [] 8000 Tryz.func111 kq kq kq kq kq (fun os=>kq)
theorem c111K (x : QC) : CallsK Tryz.prog 111 [.one (.ptr 0 0),.one (.ptr 9 0)] (ckF x) (fun _ : Unit=>True) (fun _=>.tup []) (fun _=>{ ckF x with pers:=([] : List Row).map rowP }):=(c111 x).toA.toK rfl kq (fun _=>rfl)
def exS : St:={ noF with heap:=exH 48 ++ [(9,⟨[.int .i64 0],3,true⟩),(10,⟨[.fn 111 [11]],103,true⟩),(11,⟨smC 1 nilS nilS 0,59,false⟩)],next:=12,pers:=gl }
theorem chk106 : CallsF Tryz.prog 106 [.one (.ptr 0 0),.one (.ptr 9 0),.one (.ptr 10 0)] exS (outE 0):=by
 refine CallsF.mk true Tryz.func106 kq kq (fun ρ w=>V.lit ?_)
 refine V.tabsI glT kq kq ?_
 refine V.runZ evE TE [] 8000 (fun os=>kq) kq kq (fun os=>?_)
 refine V.drawX [] [] 5 kq ?_
 refine @VX.run _ [] [] 5 _ _ ([] : List (Ent Tryz.prog)) [] kq kq trivial ?_
 refine @VX.callK _ [] [] 5 _ _ QC 72 [exP,i64 0] exQ _ _ _ [(0,false),(1,false),(2,false)] c72 kq kq kq (fun _=>kq) (fun x _=>?_)
 refine @VX.run _ [] [] 5 _ _ ([] : List (Ent Tryz.prog)) [] kq kq trivial ?_
 refine @VX.freeze _ [] [] 5 _ _ 1000005 (rowL intS 0 [0] x.1 x.2 3 1 true) kq kq kq ?_
 refine @VX.roB _ [] [] 5 _ _ 17 ⟨[SV.sli 1 2 2,SV.int IntKind.i64 0,nilS,SV.sli 8 1 1,nilS,nilS,SV.int .i64 0,.val (.slice x.1 1 x.2)],173,true⟩ kq ?_
 refine @VX.callK _ [] [] 5 _ _ Unit 111 [.one (.ptr 0 0),.one (.ptr 9 0)] (ckF x) _ _ _ [(1,false),(2,false),(3,false)] (c111K x) kq kq kq (fun _=>kq) (fun _ _=>?_)
 refine @VX.run _ [] [] 5 _ _ ([] : List (Ent Tryz.prog)) [] kq kq trivial ?_
 refine @VX.stop _ [] [] 5 _ _ kq ?_
 refine V.lit ?_
 refine V.runZ ev0 [] [] 100 (fun os=>kq) kq kq (fun o1=>?_)
 exact V.retO kq kq kq
end Go.Proofs
end
section
namespace Go.Proofs
open Go Go.SX
set_option maxRecDepth 100000
set_option maxHeartbeats 400000
def ptE : St:={ exE 48 with heap:=roH (exG 48) ++ [(8,⟨smC 1 nilS nilS 0,59,true⟩)],next:=9 }
theorem part52 : CallsF Tryz.prog 52 [exP,i64 0,.one (.fn 111 [8])] ptE (.ret (iV 0)):=by
 refine CallsF.mk true Tryz.func52 kq kq (fun ρ w=>V.lit ?_)
 refine V.runZ ev0 [] [67] 200 (fun os=>kq) kq kq (fun os=>?_)
 refine V.callO [(0,false),(1,false),(2,false)] (cCaught (g:=106) (bs:=[0,9,10]) kq chk106) kq kq kq (fun v hv=>⟨?_,?_⟩) (fun ch hc=>by cases hc)
 ·cases hv; kernel_rfl
 ·cases hv
  refine V.runZ ev0 [] [67] 200 (fun os=>kq) kq kq (fun os=>?_)
  exact V.retO kq kq kq
theorem chkStmt : CallsF Tryz.prog 61 [exP,i64 0,.agg (smC 1 nilS nilS 0)] (exE 48) (.ret (iV 0)):=by
 refine CallsF.mk true Tryz.func61 kq kq (fun ρ w=>V.lit ?_)
 refine V.runZ ev0 [] [52] 200 (fun os=>kq) kq kq (fun os=>?_)
 refine V.callO [(0,false),(1,false),(2,false)] part52 kq kq kq (fun v hv=>⟨?_,?_⟩) (fun ch hc=>by cases hc)
 ·cases hv; kernel_rfl
 ·cases hv
  refine V.runZ ev0 [] [67] 200 (fun os=>kq) kq kq (fun os=>?_)
  exact V.retO kq kq kq
end Go.Proofs
end
section
namespace Go.Proofs
open Go Go.SX
set_option maxRecDepth 100000
set_option maxHeartbeats 400000
def flC : List SV:=[SV.str [83,89,83,80,82,73,78,84],SV.int IntKind.i64 2]
def flF : St:={ noF with heap:=[(0,⟨flC,137,false⟩)],next:=1 }
theorem cl114 : CallsF Tryz.prog 114 [.one nilS] (stP []) (.ret (.v (.one nilS))):=CallsF.run ev0 [] [] [] 200 Tryz.func114 kq kq kq kq kq (fun os=>kq)
theorem cl115 : CallsF Tryz.prog 115 [.one nilS] (stP []) (.ret (.v (.one nilS))):=CallsF.run ev0 [] [] [] 200 Tryz.func115 kq kq kq kq kq (fun os=>kq)
def k114 : Con Tryz.prog:=Con.lits 114 [([.one nilS],.v (.one nilS))] (fun p hp=>by rw [List.mem_singleton.1 hp]; exact ⟨rfl,cl114⟩)
def k115 : Con Tryz.prog:=Con.lits 115 [([.one nilS],.v (.one nilS))] (fun p hp=>by rw [List.mem_singleton.1 hp]; exact ⟨rfl,cl115⟩)
def flv (p : List UInt8 × Int) : List SV:=[.str p.1,.int .i64 p.2]
theorem c113 : CallsA Tryz.prog 113 [.one (.sli 0 1 1)] flF (fun _ : QC=>True) (fun x=>.v (.one (slV x 1))) (fun _=>[]):=by
 refine CallsA.mk true Tryz.func113 kq kq (fun ρ w=>V.lit ?_)
 refine V.runZ ev0 [] [] 2000 (fun os=>kq) kq kq (fun os=>?_)
 refine V.rowB flv ([],0) [] 137 2 1 kq (fun _=>rfl) (fun p y hy=>by
  rcases List.mem_cons.1 hy with rfl | hy
  ·trivial
  ·rw [List.mem_singleton.1 hy]; trivial) (by decide) (fun g=>kq) (fun g=>?_)
 refine V.lit ?_
 refine V.slotRow 5 0 (rowL flv ([],0) [] (some ⟨g,0,none⟩) 0 137 2 true) kq kq kq ?_
 refine V.runZ ev0 [] [] 2000 (fun os=>kq) kq kq (fun o1=>?_)
 exact V.retA ((o1 0).1,(o1 0).2) (.v (.one (.row 1 (o1 0).1 1 (o1 0).2))) [] kq kq kq kq kq trivial
theorem c113K : CallsK Tryz.prog 113 [.one (.sli 0 1 1)] flF (fun _ : QC=>True) (fun x=>.v (.one (slV x 1))) (fun _=>{ flF with pers:=([] : List Row).map rowP }):=c113.toK rfl kq (fun _=>rfl)
end Go.Proofs
end
section
namespace Go.SX
open Go
def sent : Nat:=1000000007
section
variable {C : Ctx}
def Ctx.from (C : Ctx) (S : Nat → Prop) (w : World) : Ctx:={ C with S:=S,w0:=w }
theorem V.drawN (T : List Nat) (L : Nat) {c : Cfg} (hc : (isDraw C.P L c && Nat.ble c.st.nr sent) = true)
  (h : ∀ S w,(∀ c',V C c' → V (C.from S w) c') → VX (C.from S w) T [sent] L c (headX c)) : V C c:=by
 rw [Bool.and_eq_true] at hc
 obtain ⟨hc,hnr0⟩:=hc
 have hnr : c.st.nr ≤ sent:=Nat.le_of_ble_eq_true hnr0
 clear hnr0
 intro ρ a w hS
 have hlt : ∀ q Q,look c.st.rows q = some Q → q < c.st.nr:=fun q Q h=>(hS.rows q Q h).1
 unfold isDraw at hc
 split at hc
 case h_2=>cases hc
 rename_i ops k hd
 obtain ⟨hm,h2,h3⟩:=and3 hc
 have e1 : dOps c = ops:=by unfold dOps; rw [hd]
 have e2 : dK c = k:=by unfold dK; rw [hd]
 have hL : LastOp ops L ∨ ops.size ≤ L:=by
  rw [Bool.or_eq_true] at h3
  rcases h3 with h | h
  ·exact .inl (lastB_ok h)
  ·exact .inr (Nat.le_of_ble_eq_true h)
 obtain ⟨todo,st⟩:=c
 unfold drawOf at hd
 simp only at hd hS hlt hnr e1 e2 ⊢
 split at hd
 case h_2=>cases hd
 rename_i id ops' k'
 split at hd
 case h_2=>cases hd
 rename_i hnd
 cases hd
 let w1 : World:={ w with drawn:=w.drawn + 1 }
 let S' : Nat → Prop:=fun i=>(∃ b blk,look st.heap b = some blk ∧ blk.rw = true ∧ ρ b = i) ∨ ∃ r R,look st.rows r = some R ∧ R.own = true ∧ R.uses i
 have hS1 : Sat C ρ st a w1:=hS.below ⟨rfl,rfl,rfl,Nat.le_refl _,fun _ _ _=>rfl⟩
 have hown : ∀ i,S' i → C.w0.heap.size ≤ i ∨ C.S i:=by
  rintro i (⟨b,blk,h1,h2,rfl⟩ | ⟨r,R,h1,h2,h3⟩)
  ·exact (hS1.heap b blk h1).2.2.2 h2
  ·exact ((hS1.rows r R h1).2.2 i h3).2.2 h2
 let C':=C.from S' w1
 have hS2 : Sat C' ρ st a w1:=⟨hS1.n,hS1.slots,hS1.grds,fun b blk hb=>⟨(hS1.heap b blk hb).1,(hS1.heap b blk hb).2.1,(hS1.heap b blk hb).2.2.1,fun hr=>.inr (.inl ⟨b,blk,hb,hr,rfl⟩)⟩,
    hS1.inj,hS1.lt,hS1.defers,Chg.refl _ _,fun r R hR=>⟨(hS1.rows r R hR).1,(hS1.rows r R hR).2.1,fun i hi=>⟨((hS1.rows r R hR).2.2 i hi).1,((hS1.rows r R hR).2.2 i hi).2.1,fun ho=>.inr (.inr ⟨r,R,hR,ho,hi⟩)⟩⟩,hS1.rowsD,hS1.pers,hS1.fix⟩
 have hsz : C.w0.heap.size ≤ w1.heap.size:=hS1.chg.size
 have conv : ∀ c',V C c' → V C' c':=by
  intro c' hV ρ2 a2 w2 hT
  have hback : ∀ i,(C'.w0.heap.size ≤ i ∨ C'.S i) → C.w0.heap.size ≤ i ∨ C.S i:=fun i hi=>hi.elim (fun h=>.inl (Nat.le_trans hsz h)) (hown i)
  exact hV ρ2 a2 w2 ⟨hT.n,hT.slots,hT.grds,fun b blk hb=>⟨(hT.heap b blk hb).1,(hT.heap b blk hb).2.1,(hT.heap b blk hb).2.2.1,fun hr=>hback _ ((hT.heap b blk hb).2.2.2 hr)⟩,
      hT.inj,hT.lt,hT.defers,hS1.chg.trans hT.chg (fun i hi=>hown i hi),fun r R hR=>⟨(hT.rows r R hR).1,(hT.rows r R hR).2.1,fun i hi=>⟨((hT.rows r R hR).2.2 i hi).1,((hT.rows r R hR).2.2 i hi).2.1,fun ho=>hback _ (((hT.rows r R hR).2.2 i hi).2.2 ho)⟩⟩,hT.rowsD,hT.pers,hT.fix⟩
 let TS : Nat → Prop:=fun i=>(∃ b ∈ T,b < st.next ∧ ρ b = i) ∨ w1.heap.size ≤ i
 have key : wpAny C.P .any ops (Qd C' k) ops.size (Array.replicate ops.size false) a w1 → Ok C (.code (.region id ops true) :: k) a w:=fun hw=>by
  intro b hb hk hro cs hcs
  have hsch : Region.schedule (C.P.follows .mixedOrders) ops (w.tape w.drawn (.order b.fn id)) = Region.linearise.go .any ops ops.size (w.tape w.drawn (.order b.fn id)) (Array.replicate ops.size false) []:=by
   simp only [Region.schedule,hm,Bool.true_or,if_true]; rfl
  have h1:=Ok.of_ops (C:=C') hnd _ _ _ (wpAny_sound ops.size (w.tape w.drawn (.order b.fn id)) _ a _ hw) b hb hk hro cs hcs
  obtain ⟨e,w3,h2,h3⟩:=h1
  have h3' : Fin C (lone (b.atR a (.inRegion ops (Region.linearise.go .any ops ops.size (w.tape w.drawn (.order b.fn id)) (Array.replicate ops.size false) []) :: k)) cs w1) cs e w3:=h3
  refine ⟨e,w3,h2,h3'.of_steps (.one ?_)⟩
  rw [← hsch]
  exact stepR_region_draw
 refine key (wpAny_of_E (S:=Chg TS w1) (L:=L) _ _ _ _ ?_)
 let D : Held:=⟨w1,TS,ρ,st.next,heldOf T st.heap,st.nr,heldOf [sent] st.rows,st.rows,L⟩
 have hD : D.ok:=by
  refine ⟨fun b blk hb=>?_,fun r R hR=>?_⟩
  ·obtain ⟨h1,h2⟩:=look_heldOf' hb
   obtain ⟨k1,k2,k3,k4⟩:=hS1.heap b blk h2
   refine ⟨k1,hS1.lt b k1,?_,k2,k3⟩
   rintro (⟨b',hb',hlt,he⟩ | hge)
   ·exact h1 (hS1.inj _ _ hlt k1 he ▸ hb')
   ·exact absurd (hS1.lt b k1) (Nat.not_lt.2 hge)
  ·obtain ⟨h1,h2⟩:=look_heldOf' hR
   obtain ⟨k1,k2,k3⟩:=hS1.rows r R h2
   refine ⟨k2,fun i hi=>⟨(k3 i hi).1,?_⟩⟩
   rintro (⟨b',hb',hlt,he⟩ | hge)
   ·exact (k3 i hi).2.1 b' hlt he
   ·exact absurd (k3 i hi).1 (Nat.not_lt.2 hge)
 have:=h S' w1 conv D hD rfl rfl rfl rfl rfl rfl (by rw [e1]; exact hL) (by rw [e1]; exact h2) (fun b hb hlt=>.inl ⟨b,hb,hlt,rfl⟩)
  (fun r hr R hR i hi=>by
   have:=hlt r R hR
   rw [List.mem_singleton.1 hr] at this
   exact absurd (Nat.lt_of_lt_of_le this hnr) (Nat.lt_irrefl _)) hlt
  (fun _=>⟨fun i hi=>.inr hi,fun i hi=>by
   rcases hi with ⟨b,blk,h1,h2,h3⟩ | ⟨r,R,h1,h2,h3⟩
   ·exact .inl ⟨b,(hS1.heap b blk h1).1,h3⟩
   ·exact .inr ⟨r,R,h1,h2,h3⟩⟩)
  ⟨fun r R hR=>(look_heldOf' hR).2,WF.le.refl _⟩ ρ a w1 hS2 (fun _ _=>rfl) (Nat.le_refl _) (Chg.refl _ _) (by unfold headX; simp only; rw [e1]; exact Closed.start ops) (by simp [headX])
 unfold headX at this
 rw [e1,e2] at this
 exact this
end
end Go.SX
namespace Go.SX
open Go
theorem look_held_ne {α : Type} {T : List Nat} {r : Nat} (h : r ∉ T) : ∀ {l : List (Nat × α)},look (heldOf T l) r = look l r
 | []=>rfl
 | (c,u) :: l=>by
  simp only [heldOf]
  split
  ·rename_i hT
   have hc : c ∈ T:=(hasNat_mem _ _).1 hT
   have hne : Nat.beq c r = false:=by
    cases hb : Nat.beq c r with
    | false=>rfl
    | true=>exact absurd ((beq_iff _ _).1 hb ▸ hc) h
   simp only [look,hne]
   exact look_held_ne h
  ·simp only [look]
   rw [look_held_ne h]
section
variable {C : Ctx} {T : List Nat} {L : Nat} {c0 : Cfg} {d : DCfg}
def storeN1 (P : Program) (c0 : Cfg) (d : DCfg) (i : Nat) : Option DCfg :=
 match (dOps c0)[i]? with
 | some o=>match grdOf d.st (dOps c0) o.guard,opStore P d.st none o.op,o.dst,storeBlk d.st none o.op with
  | .yes,some s1,none,some b=>match Nat.ble c0.st.next b,look d.st.heap b with
   | true,some blk=>match blk.rw with
    | true=>some ⟨d.fuel - 1,d.listed.setIfInBounds i true,s1⟩
    | false=>none
   | _,_=>none
  | _,_,_,_=>none
 | none=>none
def storeNY (P : Program) (c0 : Cfg) (d : DCfg) (i : Nat) : DCfg:=(storeN1 P c0 d i).getD d
theorem VX.storeN (i : Nat) (hr : Region.ready .any (dOps c0) d.listed = [i]) (hf : Nat.blt 0 d.fuel = true) (hs : (storeN1 C.P c0 d i).isSome = true) (hk : VX C T [sent] L c0 (storeNY C.P c0 d i)) : VX C T [sent] L c0 d:=by
 intro D hD a1 a2 a3 a4 a5 a6 hL hsel aT aTR hlt aN hrw ρ a w hS hρ hn0 hch hcl hsz
 obtain ⟨n,hn'⟩ : ∃ n,d.fuel = n + 1:=⟨d.fuel - 1,by have:=blt_lt hf; omega⟩
 rw [hn']
 refine wpAnyE_all hr (by simp) (fun m hm=>?_)
 have hmi : m = i:=by simpa using hm
 subst hmi
 obtain ⟨d2,hd2⟩:=Option.isSome_iff_exists.1 hs
 have hY : storeNY C.P c0 d m = d2:=by unfold storeNY; rw [hd2]; rfl
 rw [hY] at hk
 unfold storeN1 at hd2
 split at hd2
 case h_2=>cases hd2
 rename_i o ho
 split at hd2
 case h_2=>cases hd2
 rename_i s1 b hg hst hdst hblk
 split at hd2
 case h_2=>cases hd2
 rename_i blk hb hlook
 split at hd2
 case h_2=>cases hd2
 rename_i hrwb
 cases hd2
 have hb' : c0.st.next ≤ b:=Nat.le_of_ble_eq_true hb
 obtain ⟨b',w2,e0,e1,e2,e3,e4,e5⟩:=opStore_sound hS (GcOk.none d.st) o hst
 rw [hblk] at e0
 cases e0
 obtain ⟨n1,n2⟩:=aN (List.mem_singleton.2 rfl)
 have hTS : D.TS (ρ b):=by
  rcases (hS.heap b blk hlook).2.2.2 hrwb with h | h
  ·exact n1 _ h
  ·rcases n2 _ h with ⟨b2,h1,h2⟩ | ⟨r,R,h1,h2,h3⟩
   ·have : b2 = b:=hS.inj b2 b (Nat.lt_of_lt_of_le h1 hn0) e1 ((hρ b2 h1).trans h2)
    rw [a2] at h1
    omega
   ·rw [a6] at h1
    by_cases hq : r = sent
    ·exact aTR r (by rw [hq]; exact List.mem_singleton.2 rfl) R h1 _ h3
    ·have hq : look D.r0 r = some R:=by
      rw [a3,look_held_ne (by simpa using hq)]
      exact h1
     exact absurd rfl (((hS.rows r R (hrw.1 r R hq)).2.2 _ h3).2.1 b e1)
 have hc2 : Chg D.TS D.ws w2:=hch.trans e4 (fun i hi=>.inr (by rw [hi]; exact hTS))
 have hW:=opStore_W hst
 have hrw2 : D.rows s1:=⟨fun r R hR=>by rw [show s1.rows = d.st.rows from congrArg WF.rows hW]; exact hrw.1 r R hR,by rw [hW]; exact hrw.2⟩
 unfold wpOp
 simp only [ho,grd_yes hS hg,if_true]
 refine .inl ?_
 unfold Oper.wp
 rw [e2]
 have:=hk D hD a1 a2 a3 a4 a5 a6 hL hsel aT aTR hlt aN hrw2 ρ a w2 e3 hρ (by show D.n0 ≤ s1.next; rw [e5]; exact hn0) hc2 (hcl.set (by rw [hr]; exact hm)) (by simpa using hsz)
 simp only [hn',Nat.add_sub_cancel] at this
 refine ⟨fun _=>hc2,?_⟩
 rw [hdst]
 exact this
theorem VX.mems {TR : List Nat} (i j : Nat) (hr : Region.ready .any (dOps c0) d.listed = [i,j]) (hf : Nat.blt 0 d.fuel = true) (hi : (memT1 C.P c0 d i).isSome = true) (hj : (memT1 C.P c0 d j).isSome = true)
  (h1 : VX C T TR L c0 (memY C.P c0 d i)) (h2 : VX C T TR L c0 (memY C.P c0 d j)) : VX C T TR L c0 d:=by
 intro D hD a1 a2 a3 a4 a5 a6 hL hsel aT aTR hlt aN hrw ρ a w hS hρ hn0 hch hcl hsz
 obtain ⟨n,hn'⟩ : ∃ n,d.fuel = n + 1:=⟨d.fuel - 1,by have:=blt_lt hf; omega⟩
 rw [hn']
 refine wpAnyE_all hr (by simp) (fun m hm=>?_)
 have hmk : (memT1 C.P c0 d m).isSome = true ∧ VX C T TR L c0 (memY C.P c0 d m):=by
  rcases List.mem_cons.1 hm with rfl | hm
  ·exact ⟨hi,h1⟩
  ·rw [List.mem_singleton.1 hm]; exact ⟨hj,h2⟩
 obtain ⟨hmm,hk⟩:=hmk
 obtain ⟨d2,hd2⟩:=Option.isSome_iff_exists.1 hmm
 have hY : memY C.P c0 d m = d2:=by unfold memY; rw [hd2]; rfl
 rw [hY] at hk
 unfold memT1 at hd2
 split at hd2
 case h_2=>cases hd2
 rename_i o hop
 split at hd2
 case h_2=>cases hd2
 rename_i v s1 hg hmem
 split at hd2
 case h_2=>cases hd2
 rename_i s' hput
 cases hd2
 obtain ⟨k1,k2,k3⟩:=opMem_rows hmem
 obtain ⟨ρ',w2,e1,e2,e3,e4,e5,e6,e7⟩:=opMem_sound hS (GcOk.none d.st) o hmem
 have hc2 : Chg D.TS D.ws w2:=hch.trans e7 (fun i hi=>hi.elim)
 have hW:=put_W hput
 have hrw2 : D.rows s':=by
  refine ⟨fun r R hR=>?_,?_⟩
  ·rw [show s'.rows = s1.rows from congrArg WF.rows hW,k1]; exact hrw.1 r R hR
  ·rw [hW]
   exact hrw.2.trans' ⟨k3,Nat.le_of_eq k2.symm,fun r _ R hR=>by
    have hR' : look s1.rows r = some R:=hR
    rw [k1] at hR'; exact hR'⟩
 unfold wpOp
 simp only [hop,grd_yes hS hg,if_true]
 refine .inl ?_
 unfold Oper.wp
 rw [e1]
 have:=hk D hD a1 a2 a3 a4 a5 a6 hL hsel aT aTR hlt aN hrw2 ρ' _ w2 (e2.put hput e3 (fun g pol c x e=>absurd e (e4 g pol c x))) (fun b hb=>(e5 b (by omega)).trans (hρ b hb)) (by show D.n0 ≤ s'.next; rw [put_next hput]; omega) hc2 (hcl.set (by rw [hr]; exact hm)) (by simpa using hsz)
 simp only [hn',Nat.add_sub_cancel] at this
 exact ⟨fun _=>hc2,this⟩
end
end Go.SX
end
section
namespace Go.SX
open Go
def atI (c0 : Cfg) (d : DCfg) (i : Nat) : Cfg:=⟨[.inRegion (dOps c0) [i]],d.st⟩
def callXI (n0 : Nat) (S : Nat → Prop) (c0 : Cfg) (d : DCfg) (i : Nat) (F' : St) (v : RV) : DCfg:=⟨d.fuel - 1,d.listed.setIfInBounds i true,(behindK n0 S (atI c0 d i) F' v).st⟩
section
variable {C : Ctx} {T TR : List Nat} {L : Nat} {c0 : Cfg} {d : DCfg}
theorem VX.pairK {α : Type} {f : FuncId} {ys : List CV} {F : St} {p : α → Prop} {v : α → RV} {F' : α → St} (pi : List (Nat × Bool)) (i jm : Nat) (hk : CallsK C.P f ys F p v F')
  (hr : Region.ready .any (dOps c0) d.listed = [i,jm]) (hfu : Nat.blt 0 d.fuel = true)
  (hb : (entersB C.P f && (((dOps c0)[i]?).isSome && (F.rows.isEmpty && rwIn c0.st.next T (hsrs (atI c0 d i)).1 F.heap))) = true) (hc : frameOf (atI c0 d i) = some (f,ys,fragOf F)) (hpi : getP pi d.st.pers = some (askP C.w0.heap.size C.S pi F.pers))
  (hu : ∀ x,okK (atI c0 d i) (F' x) (v x) = true) (hm : (memT1 C.P c0 d jm).isSome = true) (k : ∀ x,p x → VX C T TR L c0 (callXI C.w0.heap.size C.S c0 d i (F' x) (v x))) (k2 : VX C T TR L c0 (memY C.P c0 d jm)) : VX C T TR L c0 d:=by
 intro D hD a1 a2 a3 a4 a5 a6 hL hsel aT aTR hlt aN hrw ρ a w hS hρ hn0 hch hcl hsz
 simp only [Bool.and_eq_true] at hb
 obtain ⟨hent,hone,hFr,hrwT⟩:=hb
 obtain ⟨o,ho⟩:=Option.isSome_iff_exists.1 hone
 obtain ⟨n,hf⟩ : ∃ n,d.fuel = n + 1:=⟨d.fuel - 1,by have:=blt_lt hfu; omega⟩
 have hFr : F.rows = []:=List.isEmpty_iff.1 hFr
 have hat : atI c0 d i = ⟨[.inRegion (dOps c0) [i]],d.st⟩:=rfl
 rw [hat] at hc hrwT hu
 unfold frameOf at hc
 split at hc
 case h_2=>cases hc
 rename_i f1 xs hcall
 split at hc
 rename_i hs rs hcan
 split at hc
 case h_2=>cases hc
 rename_i ys1 s' hren hpk
 simp only [Option.some.injEq,Prod.mk.injEq] at hc
 obtain ⟨rfl,rfl,hfr⟩:=hc
 have hh : hsrs ⟨[.inRegion (dOps c0) [i]],d.st⟩ = (hs,rs):=by unfold hsrs; rw [hcall]; exact hcan
 rw [hh] at hrwT
 have hpk' : pickSt [] hs rs [] d.st = some s':=hpk
 have hFS:=hS.fragAt hpk' hfr pi hpi
 have hrs : rs = []:=by
  have h1 : s'.rows = F.rows:=by simp only [fragOf,Prod.mk.injEq] at hfr; exact hfr.2.2.1
  have h2 : s'.nr = rs.length:=by
   unfold pickSt at hpk'
   split at hpk'
   case h_2=>cases hpk'
   rw [← Option.some.inj hpk']
  cases rs with
  | nil=>rfl
  | cons r0 rs' =>
   exfalso
   unfold pickSt at hpk'
   split at hpk'
   case h_2=>cases hpk'
   rename_i _ _ rows _ _ _ _ hrows
   have h3:=Option.some.inj hpk'
   rw [← h3,hFr] at h1
   have h4 : rows = []:=h1
   simp only [pickRows] at hrows
   split at hrows
   ·split at hrows
    ·rename_i R _ q hq
     simp only [Option.some.injEq] at hrows
     rw [h4] at hrows; cases hrows
    ·cases hrows
   ·cases hrows
 subst hrs
 have hys : xs.map (CV.den ρ) = ys1.map (CV.den (fun i=>ρ (hs.getD i 0))):=by
  have hpk2:=hpk'
  unfold pickSt at hpk2
  split at hpk2
  case h_2=>cases hpk2
  rename_i sl hpp rows _ _ _ _ hrows
  have hRR : RowsRen [] d.st.W ⟨hs.length,([] : List Nat).length,rows⟩:=by
   intro r' r R hr hl
   obtain ⟨r2,_,h2,h3⟩:=pickRows_ok hrows r' R hl
   simp only [Nat.sub_zero] at h2
   rw [hr] at h2
   cases h2
   exact h3
  exact ((renC_ok (ρ:=ρ) (W:=d.st.W) (W':=⟨hs.length,([] : List Nat).length,rows⟩) rfl rfl hRR hren).1).symm
 have hi : i ∈ Region.ready .any (dOps c0) d.listed:=by rw [hr]; simp
 rw [hf]
 refine wpAnyE_all hr (by simp) (fun j hj=>?_)
 rcases List.mem_cons.1 hj with rfl | hj
 case inr =>
  rw [List.mem_singleton.1 hj]
  obtain ⟨d2,hd2⟩:=Option.isSome_iff_exists.1 hm
  have hY : memY C.P c0 d jm = d2:=by unfold memY; rw [hd2]; rfl
  rw [hY] at k2
  unfold memT1 at hd2
  split at hd2
  case h_2=>cases hd2
  rename_i o hop
  split at hd2
  case h_2=>cases hd2
  rename_i v s1 hg hmem
  split at hd2
  case h_2=>cases hd2
  rename_i s' hput
  cases hd2
  obtain ⟨k1,k4,k3⟩:=opMem_rows hmem
  obtain ⟨ρ',w2,e1,e2,e3,e4,e5,e6,e7⟩:=opMem_sound hS (GcOk.none d.st) o hmem
  have hc2 : Chg D.TS D.ws w2:=hch.trans e7 (fun i hi=>hi.elim)
  have hW:=put_W hput
  have hrw2 : D.rows s':=by
   refine ⟨fun r R hR=>?_,?_⟩
   ·rw [show s'.rows = s1.rows from congrArg WF.rows hW,k1]; exact hrw.1 r R hR
   ·rw [hW]
    exact hrw.2.trans' ⟨k3,Nat.le_of_eq k4.symm,fun r _ R hR=>by
     have hR' : look s1.rows r = some R:=hR
     rw [k1] at hR'; exact hR'⟩
  unfold wpOp
  simp only [hop,grd_yes hS hg,if_true]
  refine .inl ?_
  unfold Oper.wp
  rw [e1]
  have:=k2 D hD a1 a2 a3 a4 a5 a6 hL hsel aT aTR hlt aN hrw2 ρ' _ w2 (e2.put hput e3 (fun g pol c x e=>absurd e (e4 g pol c x))) (fun b hb=>(e5 b (by omega)).trans (hρ b hb)) (by show D.n0 ≤ s'.next; rw [put_next hput]; omega) hc2 (hcl.set (by rw [hr]; simp)) (by simpa using hsz)
  simp only [hf,Nat.add_sub_cancel] at this
  exact ⟨fun _=>hc2,this⟩
 unfold callOf at hcall
 simp only [ho] at hcall
 split at hcall
 case h_2=>cases hcall
 rename_i cl hop
 split at hcall
 case h_3=>cases hcall
 case h_2=>split at hcall <;> cases hcall
 rename_i hg
 split at hcall
 case h_2=>cases hcall
 rename_i f' caps zs h1 h2
 simp only [Option.some.injEq,Prod.mk.injEq,true_and] at hcall
 obtain ⟨rfl,rfl⟩:=hcall
 have hrun:=calleeS_sound (t:=o.type) hS.toP (GcOk.none d.st) h1 h2 (enters hent)
 unfold wpOp
 simp only [ho,grd_yes hS hg,if_true]
 refine .inl ?_
 unfold Oper.wp execOp
 rw [hop]
 simp only
 rw [hrun,hys]
 refine (hk _ w hFS).mono ?_
 rintro e w2 ⟨x,ρ',hp,rfl,k1,k2,k3,k4,k5,k6,k7,k8,k9,k10⟩
 have hux:=hu x
 unfold okK at hux
 rw [hh] at hux
 obtain ⟨u1,u2,u3⟩:=and3 hux
 have hfr' : (pickSt [] hs [] [] d.st).map fragOf = some (fragOf F):=by rw [hpk']; exact congrArg some hfr
 obtain ⟨ρ1,b1,b2,b3,b4⟩:=hS.bringK1 (F':=F' x) hfr' u1 k1 k2 k3 k4 k5 k7 k8 k9 k10
 have hc2 : Chg D.TS D.ws w2:=hch.trans k7 (fun m hm=>.inr (by
  rcases hm with ⟨b,blk,q1,q2,q3⟩ | ⟨r,R,q1,_⟩
  ·obtain ⟨t1,t2⟩:=rwIn_ok hrwT q1 q2
   have:=aT _ t1 t2
   rw [← hρ _ (by rw [a2]; exact t2)] at this
   rw [← q3]; exact this
  ·rw [hFr] at q1; cases q1))
 have hst : ∃ s2,(d.st.bringK hs [] C.w0.heap.size C.S (F' x)).put o.dst ((v x).bring (newHs hs d.st.next (F' x).next) d.st.nr) = some s2:=by
  have h3:=bringK_put d.st hs [] C.w0.heap.size 0 C.S (fun _=>False) (F' x) o.dst ((v x).bring (newHs hs d.st.next (F' x).next) d.st.nr)
  unfold afterOp at u3
  simp only [ho] at u3
  cases hq : (d.st.bringK hs [] C.w0.heap.size C.S (F' x)).put o.dst ((v x).bring (newHs hs d.st.next (F' x).next) d.st.nr) with
  | some s2=>exact ⟨s2,rfl⟩
  | none =>
   rw [hq] at h3
   cases hq2 : (d.st.bringK hs [] 0 (fun _=>False) (F' x)).put o.dst ((v x).bring (newHs hs d.st.next (F' x).next) d.st.nr) with
   | none=>rw [hq2] at u3; cases u3
   | some s2=>rw [hq2] at h3; cases h3
 obtain ⟨s2,hs2⟩:=hst
 have hcx : callXI C.w0.heap.size C.S c0 d j (F' x) (v x) = ⟨n,d.listed.setIfInBounds j true,s2⟩:=by
  unfold callXI
  simp only [hf,Nat.add_sub_cancel]
  unfold behindK
  rw [hat,hh]
  unfold afterD afterOp
  simp only [ho,hs2,Option.getD_some]
 have hden : (v x).den ρ' = ((v x).bring (newHs hs d.st.next (F' x).next) d.st.nr).den ρ1:=by
  rw [RV.bring_den,RV.den_congr (W:=(F' x).W) (ρ:=ρ') b2 _ k6]
 have hng : ∀ g pol b y,(v x).bring (newHs hs d.st.next (F' x).next) d.st.nr ≠ .grd g pol b y:=by
  intro g pol b y e
  cases hvx : v x with
  | grd=>rw [hvx] at u2; cases u2
  | v=>rw [hvx] at e; cases e
  | tup=>rw [hvx] at e; cases e
 have hle : d.st.W.le (d.st.bringK hs [] C.w0.heap.size C.S (F' x)).W:=by
  refine ⟨Nat.le_add_right _ _,Nat.le_add_right _ _,fun q hq R hR=>?_⟩
  have h5 : look (bringRows d.st.nr (eraseAll [] d.st.rows) (F' x).rows) q = some R:=hR
  have hq' : q < d.st.nr:=hq
  rw [look_bringRows_old hq',eraseAll_nil] at h5
  exact h5
 have hW:=put_W hs2
 have hrw2 : D.rows s2:=by
  refine ⟨fun q R hR=>?_,by rw [hW]; exact hrw.2.trans' hle⟩
  rw [show s2.rows = _ from congrArg WF.rows hW]
  have h5:=hrw.1 q R hR
  rw [a3] at hR
  have h6:=hlt q R (look_heldOf' hR).2
  have h7 : q < d.st.nr:=Nat.lt_of_lt_of_le h6 (by rw [← a5]; exact hrw.2.nr)
  show look (bringRows d.st.nr (eraseAll [] d.st.rows) (F' x).rows) q = some R
  rw [look_bringRows_old h7,eraseAll_nil]
  exact h5
 have hkx:=k x hp
 rw [hcx] at hkx
 rw [hden]
 refine ⟨fun _=>hc2,hkx D hD a1 a2 a3 a4 a5 a6 hL hsel aT aTR hlt aN hrw2 ρ1 _ w2 (b1.put hs2 (b3 _ k6) (fun g pol b y e=>absurd e (hng g pol b y))) (fun b hb=>(b4 b (by omega)).trans (hρ b hb)) ?_ hc2 (hcl.set hi) (by simpa using hsz)⟩
 show D.n0 ≤ s2.next
 rw [put_next hs2]
 exact Nat.le_trans hn0 (Nat.le_add_right _ _)
end
end Go.SX
end
section
namespace Go.SX
open Go
def keepL {α : Type} (l : List (Nat × α)) : List Nat → List (Nat × α)
 | []=>[]
 | k :: ks=>match look l k with
  | some v=>(k,v) :: keepL l ks
  | none=>keepL l ks
theorem look_keepL {α : Type} {l : List (Nat × α)} : ∀ {ks : List Nat} {k : Nat} {v : α},look (keepL l ks) k = some v → look l k = some v
 | [],_,_,h=>by cases h
 | j :: ks,k,v,h=>by
  simp only [keepL] at h
  split at h
  ·rename_i u hu
   simp only [look] at h
   split at h
   ·rename_i e
    cases h
    rw [← (beq_iff _ _).1 e]
    exact hu
   ·exact look_keepL h
  ·exact look_keepL h
def noGrdL : List (Nat × RV) → Bool
 | []=>true
 | (_,.grd ..) :: _=>false
 | _ :: l=>noGrdL l
theorem noGrdL_ok : ∀ {l : List (Nat × RV)} {i g : Nat} {pol b : Bool} {x : CV},noGrdL l = true → look l i ≠ some (.grd g pol b x)
 | [],_,_,_,_,_,_,h=>by cases h
 | (j,v) :: l,i,g,pol,b,x,hn,h=>by
  simp only [look] at h
  split at h
  ·cases h
   cases hn
  ·refine noGrdL_ok (l:=l) ?_ h
   cases v <;> first | exact hn | cases hn
def keepSt (ks hs : List Nat) (s : St) : Option St:=match noGrdL (keepL s.slots ks) with
 | true=>some { s with slots:=keepL s.slots ks,heap:=keepL s.heap hs,gs:=[] }
 | false=>none
theorem V.keep {C : Ctx} (ks hs : List Nat) (s' : St) {c : Cfg} (hk : keepSt ks hs c.st = some s') (h : V C ⟨c.todo,s'⟩) : V C c:=by
 intro ρ a w hS
 unfold keepSt at hk
 split at hk
 case h_2=>cases hk
 rename_i hn
 cases hk
 refine h ρ a w ⟨hS.n,fun i v hv=>hS.slots i v (look_keepL hv),fun i g pol b x hv=>absurd hv (noGrdL_ok hn),fun b blk hb=>hS.heap b blk (look_keepL hb),hS.inj,hS.lt,hS.defers,hS.chg,hS.rows,hS.rowsD,hS.pers,hS.fix⟩
end Go.SX
namespace Go.SX
open Go
theorem V.backJ {C : Ctx} {f : FuncId} {R : Ending → World → Prop} {base : Nat → Nat} {K : Cfg → Prop} {pan : Prop} {c0 c : Cfg} (v : RV) (hW : Waits C K pan c0 f R base) (hr : endR (C.inl f R base) c.st = some v) (he : isEnd c.todo = true)
  (haf : (afterOp c0 (c0.st.memOf c.st) v).isSome = true) (hn : (Nat.ble c0.st.next c.st.next && (Nat.ble c0.st.nr c.st.nr && Nat.ble c0.st.next c.st.fx)) = true)
  (hrows : (List.range c0.st.nr).map (look c.st.rows) = (List.range c0.st.nr).map (look c0.st.rows)) (k : K (afterD c0 (c0.st.memOf c.st) v)) : V (C.inl f R base) c:=by
 rw [Bool.and_eq_true,Bool.and_eq_true] at hn
 obtain ⟨c',hc'⟩:=Option.isSome_iff_exists.1 haf
 have hd : afterD c0 (c0.st.memOf c.st) v = c':=by unfold afterD; rw [hc']; rfl
 rw [hd] at k
 refine V.backI hW hr he hc' ⟨Nat.le_of_ble_eq_true hn.1,Nat.le_of_ble_eq_true hn.2.1,fun r hr R hR=>?_⟩ hn.2.2 k
 have h1:=congrArg (fun l=>l[r]?) hrows
 have hr' : r < c0.st.nr:=hr
 simp only [List.getElem?_map,List.getElem?_range hr',Option.map_some,Option.some.injEq] at h1
 have hR' : look c.st.rows r = some R:=hR
 exact ⟨R,by show look c0.st.rows r = some R; rw [← h1]; exact hR',rfl,rfl,rfl,rfl⟩
end Go.SX
end
section
namespace Go.SX
open Go
def rowsIn (n : Nat) (TR : List Nat) : List Nat → Bool
 | []=>true
 | r :: l=>match hasNat TR r,Nat.blt r n with
  | true,true=>rowsIn n TR l
  | _,_=>false
theorem rowsIn_ok {n : Nat} {TR : List Nat} : ∀ {l : List Nat},rowsIn n TR l = true → ∀ {r : Nat},r ∈ l → r ∈ TR ∧ r < n
 | q :: l,h,r,hr=>by
  simp only [rowsIn] at h
  split at h
  ·rename_i h1 h2
   rcases List.mem_cons.1 hr with rfl | hr
   ·exact ⟨(hasNat_mem _ _).1 h1,blt_lt h2⟩
   ·exact rowsIn_ok h hr
  ·cases h
theorem look_eraseAll_not {α : Type} {rs : List Nat} : ∀ {l : List (Nat × α)} {i : Nat} {v : α},look l i = some v → i ∉ rs → look (eraseAll rs l) i = some v
 | (k,u) :: l,i,v,h,hn=>by
  simp only [look] at h
  simp only [eraseAll]
  cases hk : hasNat rs k with
  | true =>
   simp only
   split at h
   ·rename_i e
    have:=(beq_iff _ _).1 e
    subst this
    exact absurd ((hasNat_mem _ _).1 hk) hn
   ·exact look_eraseAll_not h hn
  | false =>
   simp only [look]
   split at h
   ·exact h
   ·exact look_eraseAll_not h hn
section
variable {C : Ctx} {T TR : List Nat} {L : Nat} {c0 : Cfg} {d : DCfg}
theorem VX.callR {α : Type} {f : FuncId} {ys : List CV} {F : St} {p : α → Prop} {v : α → RV} {F' : α → St} (pi : List (Nat × Bool)) (hk : CallsK C.P f ys F p v F')
  (hb : (entersB C.P f && ((oneX c0 d).isSome && (rowsIn c0.st.nr TR (hsrs (atX c0 d)).2 && rwIn c0.st.next T (hsrs (atX c0 d)).1 F.heap))) = true) (hc : frameOf (atX c0 d) = some (f,ys,fragOf F)) (hpi : getP pi d.st.pers = some (askP C.w0.heap.size C.S pi F.pers))
  (hu : ∀ x,okK (atX c0 d) (F' x) (v x) = true) (k : ∀ x,p x → VX C T TR L c0 (callX C.w0.heap.size C.S c0 d (F' x) (v x))) : VX C T TR L c0 d:=by
 intro D hD a1 a2 a3 a4 a5 a6 hL hsel aT aTR hlt aN hrw ρ a w hS hρ hn0 hch hcl hsz
 simp only [Bool.and_eq_true] at hb
 obtain ⟨hent,hone,hFr,hrwT⟩:=hb
 obtain ⟨⟨i,o⟩,hone⟩:=Option.isSome_iff_exists.1 hone
 obtain ⟨hready,⟨n,hf⟩,ho⟩:=oneX_ok hone
 have hat : atX c0 d = ⟨[.inRegion (dOps c0) [i]],d.st⟩:=by unfold atX; rw [hready]
 rw [hat] at hc hrwT hu hFr
 unfold frameOf at hc
 split at hc
 case h_2=>cases hc
 rename_i f1 xs hcall
 split at hc
 rename_i hs rs hcan
 split at hc
 case h_2=>cases hc
 rename_i ys1 s' hren hpk
 simp only [Option.some.injEq,Prod.mk.injEq] at hc
 obtain ⟨rfl,rfl,hfr⟩:=hc
 have hh : hsrs ⟨[.inRegion (dOps c0) [i]],d.st⟩ = (hs,rs):=by unfold hsrs; rw [hcall]; exact hcan
 rw [hh] at hrwT hFr
 have hpk' : pickSt [] hs rs [] d.st = some s':=hpk
 have hFS:=hS.fragAt hpk' hfr pi hpi
 have hys : xs.map (CV.den ρ) = ys1.map (CV.den (fun i=>ρ (hs.getD i 0))):=by
  have hpk2:=hpk'
  unfold pickSt at hpk2
  split at hpk2
  case h_2=>cases hpk2
  rename_i sl hpp rows _ _ _ _ hrows
  have hRR : RowsRen rs d.st.W ⟨hs.length,rs.length,rows⟩:=by
   intro r' r R hr hl
   obtain ⟨r2,_,h2,h3⟩:=pickRows_ok hrows r' R hl
   simp only [Nat.sub_zero] at h2
   rw [hr] at h2
   cases h2
   exact h3
  exact ((renC_ok (ρ:=ρ) (W:=d.st.W) (W':=⟨hs.length,rs.length,rows⟩) rfl rfl hRR hren).1).symm
 have hi : i ∈ Region.ready .any (dOps c0) d.listed:=by rw [hready]; simp
 rw [hf]
 refine wpAnyE_all hready (by simp) (fun j hj=>?_)
 have : j = i:=by simpa using hj
 subst this
 unfold callOf at hcall
 simp only [ho] at hcall
 split at hcall
 case h_2=>cases hcall
 rename_i cl hop
 split at hcall
 case h_3=>cases hcall
 case h_2=>split at hcall <;> cases hcall
 rename_i hg
 split at hcall
 case h_2=>cases hcall
 rename_i f' caps zs h1 h2
 simp only [Option.some.injEq,Prod.mk.injEq,true_and] at hcall
 obtain ⟨rfl,rfl⟩:=hcall
 have hrun:=calleeS_sound (t:=o.type) hS.toP (GcOk.none d.st) h1 h2 (enters hent)
 unfold wpOp
 simp only [ho,grd_yes hS hg,if_true]
 refine .inl ?_
 unfold Oper.wp execOp
 rw [hop]
 simp only
 rw [hrun,hys]
 refine (hk _ w hFS).mono ?_
 rintro e w2 ⟨x,ρ',hp,rfl,k1,k2,k3,k4,k5,k6,k7,k8,k9,k10⟩
 have hux:=hu x
 unfold okK at hux
 rw [hh] at hux
 obtain ⟨u1,u2,u3⟩:=and3 hux
 have hfr' : (pickSt [] hs rs [] d.st).map fragOf = some (fragOf F):=by rw [hpk']; exact congrArg some hfr
 obtain ⟨ρ1,b1,b2,b3,b4⟩:=hS.bringK1 (F':=F' x) hfr' u1 k1 k2 k3 k4 k5 k7 k8 k9 k10
 have hc2 : Chg D.TS D.ws w2:=hch.trans k7 (fun m hm=>.inr (by
  rcases hm with ⟨b,blk,q1,q2,q3⟩ | ⟨r,R,q1,q2⟩
  ·obtain ⟨t1,t2⟩:=rwIn_ok hrwT q1 q2
   have:=aT _ t1 t2
   rw [← hρ _ (by rw [a2]; exact t2)] at this
   rw [← q3]; exact this
  ·have hpk3:=hpk'
   unfold pickSt at hpk3
   split at hpk3
   case h_2=>cases hpk3
   rename_i sl hpp rows _ _ _ _ hrows
   have h3:=Option.some.inj hpk3
   have h4 : F.rows = rows:=by
    simp only [fragOf,Prod.mk.injEq] at hfr
    rw [← hfr.2.2.1,← h3]
   rw [h4] at q1
   obtain ⟨r2,_,h5,h6⟩:=pickRows_ok hrows r R q1
   simp only [Nat.sub_zero] at h5
   obtain ⟨t1,t2⟩:=rowsIn_ok hFr (List.mem_of_getElem? h5)
   exact aTR r2 t1 R (by rw [← a6]; exact hrw.2.rows r2 (by show r2 < D.nr0; rw [a5]; exact t2) R h6) m q2.2))
 have hst : ∃ s2,(d.st.bringK hs rs C.w0.heap.size C.S (F' x)).put o.dst ((v x).bring (newHs hs d.st.next (F' x).next) d.st.nr) = some s2:=by
  have h3:=bringK_put d.st hs rs C.w0.heap.size 0 C.S (fun _=>False) (F' x) o.dst ((v x).bring (newHs hs d.st.next (F' x).next) d.st.nr)
  unfold afterOp at u3
  simp only [ho] at u3
  cases hq : (d.st.bringK hs rs C.w0.heap.size C.S (F' x)).put o.dst ((v x).bring (newHs hs d.st.next (F' x).next) d.st.nr) with
  | some s2=>exact ⟨s2,rfl⟩
  | none =>
   rw [hq] at h3
   cases hq2 : (d.st.bringK hs rs 0 (fun _=>False) (F' x)).put o.dst ((v x).bring (newHs hs d.st.next (F' x).next) d.st.nr) with
   | none=>rw [hq2] at u3; cases u3
   | some s2=>rw [hq2] at h3; cases h3
 obtain ⟨s2,hs2⟩:=hst
 have hcx : callX C.w0.heap.size C.S c0 d (F' x) (v x) = ⟨n,d.listed.setIfInBounds j true,s2⟩:=by
  unfold callX
  rw [hone]
  simp only [hf,Nat.add_sub_cancel]
  unfold behindK
  rw [hat,hh]
  unfold afterD afterOp
  simp only [ho,hs2,Option.getD_some]
 have hden : (v x).den ρ' = ((v x).bring (newHs hs d.st.next (F' x).next) d.st.nr).den ρ1:=by
  rw [RV.bring_den,RV.den_congr (W:=(F' x).W) (ρ:=ρ') b2 _ k6]
 have hng : ∀ g pol b y,(v x).bring (newHs hs d.st.next (F' x).next) d.st.nr ≠ .grd g pol b y:=by
  intro g pol b y e
  cases hvx : v x with
  | grd=>rw [hvx] at u2; cases u2
  | v=>rw [hvx] at e; cases e
  | tup=>rw [hvx] at e; cases e
 have hle : d.st.W.le (d.st.bringK hs rs C.w0.heap.size C.S (F' x)).W:=by
  refine ⟨Nat.le_add_right _ _,Nat.le_add_right _ _,fun q hq R hR=>?_⟩
  have h5 : look (bringRows d.st.nr (eraseAll rs d.st.rows) (F' x).rows) q = some R:=hR
  have hq' : q < d.st.nr:=hq
  rw [look_bringRows_old hq'] at h5
  exact (look_eraseAll h5).2
 have hW:=put_W hs2
 have hrw2 : D.rows s2:=by
  refine ⟨fun q R hR=>?_,by rw [hW]; exact hrw.2.trans' hle⟩
  rw [show s2.rows = _ from congrArg WF.rows hW]
  have h5:=hrw.1 q R hR
  rw [a3] at hR
  have hqT:=(look_heldOf' hR).1
  have h6:=hlt q R (look_heldOf' hR).2
  have h7 : q < d.st.nr:=Nat.lt_of_lt_of_le h6 (by rw [← a5]; exact hrw.2.nr)
  show look (bringRows d.st.nr (eraseAll rs d.st.rows) (F' x).rows) q = some R
  rw [look_bringRows_old h7]
  exact look_eraseAll_not h5 (fun hm=>hqT (rowsIn_ok hFr hm).1)
 have hkx:=k x hp
 rw [hcx] at hkx
 rw [hden]
 refine ⟨fun _=>hc2,hkx D hD a1 a2 a3 a4 a5 a6 hL hsel aT aTR hlt aN hrw2 ρ1 _ w2 (b1.put hs2 (b3 _ k6) (fun g pol b y e=>absurd e (hng g pol b y))) (fun b hb=>(b4 b (by omega)).trans (hρ b hb)) ?_ hc2 (hcl.set hi) (by simpa using hsz)⟩
 show D.n0 ≤ s2.next
 rw [put_next hs2]
 exact Nat.le_trans hn0 (Nat.le_add_right _ _)
end
end Go.SX
end
section
namespace Go.Proofs
open Go Go.SX
set_option maxRecDepth 100000
set_option maxHeartbeats 1000000
theorem st62 : CallsF Tryz.prog 62 [exP] (exE 48) (.ret (.v (i64 3))):=CallsF.run ev0 [] [] [] 400 Tryz.func62 kq kq kq kq kq (fun os=>kq)
theorem V.joinR {α : Type} {C : Ctx} {c : Cfg} (S : α → St) (rest : ∀ x,V C ⟨dK c,S x⟩) (h : (∀ x,V C ⟨dK c,S x⟩) → V C c) : V C c:=h rest
def zpC : List SV:=[nilS,.int .i64 0,nilS,nilS,nilS,nilS]
def pgS (q : Option Addr) (cap : Nat) (x : QC) : St:={ noF with n:=45,slots:=[(0,.v mvF),(2,.v (.one (.row 2 q 2 cap))),(4,.v (.one (.ptr 13 0))),(6,.v (.one (.ptr 14 0))),(7,.v (.one (.ptr 15 0)))],
                                                                  heap:=roH (exG 48) ++ [(9,⟨smC 1 nilS nilS 0,59,true⟩),(10,⟨zpC,38,true⟩),(13,⟨[.sli 0 2 2,.int .i64 0,nilS,.sli 7 1 1,nilS,nilS],38,true⟩),(14,⟨zpC,38,true⟩),(15,⟨[nilS,.int .i64 0,nilS,slV x 1,nilS,nilS],38,true⟩)],
                                                                  next:=16,rows:=[(2,rowL intS 0 [0,1] q cap 3 1 true)],nr:=3,pers:=gl,wr:=true,fx:=13,lit:=true }
def ksP : List Nat:=[0,2,4,6,7]
def hsP : List Nat:=[0,1,2,3,4,5,6,7,9,10,13,14,15]
def prM (x : (QC × QC) × QC) : List SV:=prC [77,65,73,78] (-1) 48 (slV x.2 2)
def prN (x : (QC × QC) × QC) : List SV:=prC [80] 0 0 (slV x.2 1)
def gP (a b : List SV) : Nat → List SV
 | 0=>a
 | _=>b
abbrev InsT:=QC × QC × QC × ((QC × QC) × QC) × ((QC × QC) × QC)
def insV (t : InsT) : RV:=.tup [.agg [slV t.1 2,.int .i64 0,nilS,slV t.2.1 1,nilS,nilS],i64 0]
def insFs (t : InsT) : List Row:=[litR [prC [77,65,73,78] (-1) 48 (slV t.2.2.1 3),prN t.2.2.2.2] t.1.1 t.1.2 55 7 false,litR [smY t.2.2.2.1.1,smC 1 nilS nilS 0,smC 6 nilS nilS 1] t.2.2.1.1 t.2.2.1.2 59 11 false]
theorem ins20 : CallsA Tryz.prog 20 [exP,i64 0,i64 1,.agg (smC 1 nilS nilS 0)] (exE 48) (fun _ : InsT=>True) insV insFs:=by
 refine CallsA.mk true Tryz.func20 kq kq (fun ρ w=>V.lit ?_)
 refine V.runZ ev0 [] [21] 200 (fun os=>kq) kq kq (fun os=>?_)
 refine V.callO [(0,false),(1,false),(2,false)] (check21 48 0 chkOk).ro kq kq kq (fun v hv=>⟨?_,?_⟩) (fun ch hc=>by cases hc)
 ·cases hv; kernel_rfl
 cases hv
 refine V.runZ ev0 [] [61] 200 (fun os=>kq) kq kq (fun o1=>?_)
 refine V.callO [(0,false),(1,false),(2,false)] chkStmt.ro kq kq kq (fun v hv=>⟨?_,?_⟩) (fun ch hc=>by cases hc)
 ·cases hv; kernel_rfl
 cases hv
 refine V.runZ ev0 [] [62] 200 (fun os=>kq) kq kq (fun o2=>?_)
 refine V.callO [(0,false),(1,false),(2,false)] st62.ro kq kq kq (fun v hv=>⟨?_,?_⟩) (fun ch hc=>by cases hc)
 ·cases hv; kernel_rfl
 cases hv
 refine V.runC ([] : List (Ent Tryz.prog)) 40 [] kq kq trivial ?_
 refine V.nilL intS 0 64 3 1 kq kq ?_
 refine V.push intS 0 [] 0 0 none 0 3 1 [.int .i64 0] 8 kq (by decide) rfl (fun _ _=>kq) (fun q0 cap0=>?_)
 refine V.runC ([] : List (Ent Tryz.prog)) 40 [] kq kq trivial ?_
 refine V.push intS 0 [0] 1 1 q0 cap0 3 1 [.int .i64 1] 8 kq (by decide) rfl (fun _ _=>kq) (fun q cap=>?_)
 refine V.runC ([] : List (Ent Tryz.prog)) 40 [] kq kq trivial ?_
 refine V.inl (f:=64) (fn:=Tryz.f64) (xs:=[mvF,exP,.one (.row 2 q 2 cap)]) kq kq Tryz.func64 kq kq (fun R base hW=>V.lit ?_)
 refine V.runC ([] : List (Ent Tryz.prog)) 4 [] kq kq trivial ?_
 refine Go.Proofs.V.joinR (pgS q cap) ?rst (fun rest=>?main)
 case main =>
  refine V.drawX [] [] 17 kq ?_
  refine @VX.run _ [] [] 17 _ _ ([] : List (Ent Tryz.prog)) [] kq kq trivial ?_
  refine @VX.two _ [] [] 17 _ _ ([k112.e] : List (Ent Tryz.prog)) [] 4 15 kq kq kq kq kq trivial ?_ ?_
  ·refine @VX.run _ [] [] 17 _ _ ([] : List (Ent Tryz.prog)) [] kq kq trivial ?_
   refine @VX.pairK _ [] [] 17 _ _ QC 113 [.one (.sli 0 1 1)] flF _ _ _ [] 7 15 c113K kq kq kq kq kq (fun _=>kq) kq (fun fl _=>?_) ?_
   ·refine @VX.run _ [] [] 17 _ _ ([] : List (Ent Tryz.prog)) [] kq kq trivial ?_
    refine @VX.two _ [] [] 17 _ _ ([k114.e] : List (Ent Tryz.prog)) [] 10 15 kq kq kq kq kq trivial ?_ ?_
    ·refine @VX.run _ [] [] 17 _ _ ([] : List (Ent Tryz.prog)) [] kq kq trivial ?_
     refine @VX.two _ [] [] 17 _ _ ([k115.e] : List (Ent Tryz.prog)) [] 13 15 kq kq kq kq kq trivial ?_ ?_
     all_goals
      refine @VX.run _ [] [] 17 _ _ ([k115.e] : List (Ent Tryz.prog)) [] kq kq trivial ?_
      refine @VX.tail _ [] [] 17 _ _ 9 kq ?_
      exact V.keep ksP hsP (pgS q cap fl) kq (rest fl)
    ·refine @VX.run _ [] [] 17 _ _ ([k114.e,k115.e] : List (Ent Tryz.prog)) [] kq kq trivial ?_
     refine @VX.tail _ [] [] 17 _ _ 9 kq ?_
     exact V.keep ksP hsP (pgS q cap fl) kq (rest fl)
   ·refine @VX.run _ [] [] 17 _ _ ([] : List (Ent Tryz.prog)) [] kq kq trivial ?_
    refine @VX.callK _ [] [] 17 _ _ QC 113 [.one (.sli 0 1 1)] flF _ _ _ [] c113K kq kq kq (fun _=>kq) (fun fl _=>?_)
    refine @VX.run _ [] [] 17 _ _ ([k114.e,k115.e] : List (Ent Tryz.prog)) [] kq kq trivial ?_
    refine @VX.tail _ [] [] 17 _ _ 9 kq ?_
    exact V.keep ksP hsP (pgS q cap fl) kq (rest fl)
  ·refine @VX.run _ [] [] 17 _ _ ([k112.e] : List (Ent Tryz.prog)) [] kq kq trivial ?_
   refine @VX.callK _ [] [] 17 _ _ QC 113 [.one (.sli 0 1 1)] flF _ _ _ [] c113K kq kq kq (fun _=>kq) (fun fl _=>?_)
   refine @VX.run _ [] [] 17 _ _ ([k114.e,k115.e] : List (Ent Tryz.prog)) [] kq kq trivial ?_
   refine @VX.tail _ [] [] 17 _ _ 9 kq ?_
   exact V.keep ksP hsP (pgS q cap fl) kq (rest fl)
 case rst =>
  intro fl
  refine V.runZ ev0 [] [116] 2000 (fun os=>kq) kq kq (fun o3=>?_)
  refine V.nilB (fun _ : Nat=>([] : List SV)) 0 15 0 ⟨[nilS,.int .i64 0,nilS,slV fl 1,nilS,nilS],38,true⟩ 55 7 kq rfl ?_
  refine V.drawX [] [3] 13 kq ?_
  refine @VX.run _ [] [3] 13 _ _ ([] : List (Ent Tryz.prog)) [] kq kq trivial ?_
  refine @VX.callK _ [] [3] 13 _ _ ((QC × QC) × QC) 116 [mvF,.agg (prC [77,65,73,78] (-1) 48 (.sli 0 2 2))] prF2 _ _ _ [] proc0 kq kq kq (fun _=>kq) (fun x _=>?_)
  refine @VX.slotAs _ [] [3] 13 _ _ 39 (.agg (prC [77,65,73,78] (-1) 48 (.row 4 x.2.1 2 x.2.2))) (.agg (prM x)) kq kq (fun _=>rfl) ?_
  refine @VX.run _ [] [3] 13 _ _ ([] : List (Ent Tryz.prog)) [] kq kq trivial ?_
  refine @VX.push1 _ [] [3] 13 _ _ (rowL (fun _ : Nat=>([] : List SV)) 0 [] none 0 55 7 true) (gP (prM x) (prM x)) 3 (prM x) 112 kq kq kq (by decide) (fun i hi=>absurd hi (Nat.not_lt_zero i)) rfl (fun _ _=>kq) (fun qa capa=>?_)
  refine @VX.run _ [] [3] 13 _ _ ([] : List (Ent Tryz.prog)) [] kq kq trivial ?_
  refine @VX.tail _ [] [3] 13 _ _ 9 kq ?_
  refine V.lit ?_
  refine V.runZ ev0 [] [116] 2000 (fun os=>kq) kq kq (fun o4=>?_)
  refine V.drawX [] [5] 13 kq ?_
  refine @VX.run _ [] [5] 13 _ _ ([] : List (Ent Tryz.prog)) [] kq kq trivial ?_
  refine @VX.callK _ [] [5] 13 _ _ ((QC × QC) × QC) 116 [mvF,.agg (prC [80] 0 0 (.sli 0 1 1))] prF1 _ _ _ [] proc1 kq kq kq (fun _=>kq) (fun y _=>?_)
  refine @VX.slotAs _ [] [5] 13 _ _ 39 (.agg (prC [80] 0 0 (.row 6 y.2.1 1 y.2.2))) (.agg (prN y)) kq kq (fun _=>rfl) ?_
  refine @VX.run _ [] [5] 13 _ _ ([] : List (Ent Tryz.prog)) [] kq kq trivial ?_
  refine @VX.push1 _ [] [5] 13 _ _ ⟨qa,1,capa,55,7,gP (prM x) (prM x),true,none⟩ (gP (prM x) (prN y)) 5 (prN y) 112 kq kq kq (show 2 * 112 ≤ 140737488355328 by decide) (fun i (hi : i < 1)=>(Nat.lt_one_iff.1 hi ▸ rfl)) rfl (fun _ _=>kq) (fun qp capp=>?_)
  refine @VX.run _ [] [5] 13 _ _ ([] : List (Ent Tryz.prog)) [] kq kq trivial ?_
  refine @VX.tail _ [] [5] 13 _ _ 9 kq ?_
  refine V.lit ?_
  refine V.runZ ev0 [] [116] 2000 (fun os=>kq) kq kq (fun o5=>?_)
  refine V.backJ (.v (.agg [.row 7 qp 2 capp,.int .i64 0,nilS,slV fl 1,nilS,nilS])) hW kq kq kq kq kq ?_
  refine V.lit ?_
  refine V.runZ ev0 [] [66] 2000 (fun os=>kq) kq kq (fun o6=>?_)
  refine V.drawX [] [4] 18 kq ?_
  refine @VX.run _ [] [4] 18 _ _ ([k66n.e] : List (Ent Tryz.prog)) [] kq kq trivial ?_
  refine @VX.slotRow _ [] [4] 18 _ _ 81 4 (st2 (smY x.1) (smC 6 nilS nilS 1) x.2) kq kq kq ?_
  refine @VX.roB _ [] [4] 18 _ _ 19 ⟨smC 1 nilS nilS 0,59,true⟩ kq ?_
  refine @VX.callR _ [] [4] 18 _ _ QC 65 [.one (.row 0 x.2.1 2 x.2.2),i64 1,.one (.sli 0 1 1)] (insF (smY x.1) (smC 6 nilS nilS 1) (smC 1 nilS nilS 0) x.2) _ _ _ [] (cIns (smY x.1) (smC 6 nilS nilS 1) (smC 1 nilS nilS 0) (Cl11.of kq kq kq) (Cl11.of kq kq kq) (Cl11.of kq kq kq) x.2) kq kq kq (fun _=>kq) (fun z _=>?_)
  refine @VX.slotAs _ [] [4] 18 _ _ 87 (.one (.row 8 z.1 3 z.2)) (.one (slV z 3)) kq kq (fun _=>rfl) ?_
  refine @VX.run _ [] [4] 18 _ _ ([] : List (Ent Tryz.prog)) [] kq kq trivial ?_
  refine @VX.rowEnd _ [] [4] 18 _ _ 17 7 ⟨qp,2,capp,55,7,gP (prM x) (prN y),true,none⟩ 0 5 [slV z 3] (gP (prC [77,65,73,78] (-1) 48 (slV z 3)) (prN y)) kq kq kq (fun k hk hne=>by
   cases k with
   | zero=>exact absurd rfl hne
   | succ k=>rfl) (fun _=>rfl) kq ?_
  refine V.lit ?_
  refine V.runZ ev0 [] [] 2000 (fun os=>kq) kq kq (fun o7=>?_)
  refine V.slotRow 99 8 (st3 (smY x.1) (smC 1 nilS nilS 0) (smC 6 nilS nilS 1) z) kq kq kq ?_
  refine V.runZ ev0 [] [] 4000 (fun os=>kq) kq kq (fun o8=>?_)
  refine V.slotRow 99 6 (st1 (smY y.1) y.2) kq kq kq ?_
  refine V.runZ ev0 [] [] 4000 (fun os=>kq) kq kq (fun o9=>?_)
  exact V.retA ((qp,capp),fl,z,x,y) (.tup [.agg [.row 7 qp 2 capp,.int .i64 0,nilS,slV fl 1,nilS,nilS],i64 0]) [(7,[prC [77,65,73,78] (-1) 48 (slV z 3),prN y]),(8,[smY x.1,smC 1 nilS nilS 0,smC 6 nilS nilS 1])] kq kq kq kq kq trivial
end Go.Proofs
end
section
namespace Go.Proofs
open Go Go.SX
set_option maxRecDepth 10000
set_option maxHeartbeats 4000000
open Classical in
noncomputable def arB (ls : List Ty) (ks : List Int) : Bool:=decide (arP ls ks)
theorem arF (L : LsA) (hL : L.l.length ≤ 1000000) (ks : List Int) (g : Nat) : CallsF Tryz.prog 97 (argAr L ks g) (stP (arNeed L ks g)) (.ret (.v (vT (arB L.l ks)))):=by
 obtain ⟨o,⟨r,rfl,h1⟩,h2⟩:=arX L ks hL g
 have : r = arB L.l ks:=by
  unfold arB
  by_cases h : arP L.l ks
  ·simp [h,h1]
  ·simp only [h,decide_false]; rw [← Bool.not_eq_true]; exact fun e=>h (h1.1 e)
 rw [this] at h2
 exact h2
def ksOf : List SV → Option (List Int)
 | []=>some []
 | .int .i64 k :: l=>(ksOf l).map (k :: ·)
 | _=>none
theorem ksOf_ok : ∀ {l : List SV} {ks : List Int},ksOf l = some ks → l = ks.flatMap iv
 | [],ks,h=>by cases h; rfl
 | x :: l,ks,h=>by
  unfold ksOf at h
  split at h
  ·rename_i e; cases e
  ·rename_i k m e
   cases e
   obtain ⟨ms,h1,rfl⟩:=Option.map_eq_some_iff.1 h
   rw [ksOf_ok h1]; rfl
  ·cases h
noncomputable def arFc (L : LsA) (f : FuncId) (ys : List CV) (F : St) : Option (RV × List Prop) :=
 match Nat.beq f 97,ys,F.heap with
 | true,[x,.one (.sli 0 n c)],[(0,b)]=>match slOf x,ksOf b.cells with
  | some s,some ks=>match Nat.beq b.elem 3,Nat.beq n ks.length,Nat.beq c ks.length with
   | true,true,true=>some (.v (vT (arB L.l ks)),[s = L.sl,L.l.length ≤ 1000000,ks.length ≤ maxLen])
   | _,_,_=>none
  | _,_=>none
 | _,_,_=>none
noncomputable def arXt (L : LsA) : Ext Tryz.prog where
 ev:=Go.SX.ev0
 need:=L.need
 fc:=arFc L
 evOk:=ev0_ok
 fcOk:=by
  intro f ys F v ob h ho
  unfold arFc at h
  split at h
  case h_2=>cases h
  rename_i x n c b hf hh
  have e1:=(beq_iff _ _).1 hf
  subst e1
  split at h
  case h_2=>cases h
  rename_i s ks hs hks
  split at h
  case h_2=>cases h
  rename_i h1 h2 h3
  cases h
  have e2:=(beq_iff _ _).1 h1
  have e3:=(beq_iff _ _).1 h2
  have e4:=(beq_iff _ _).1 h3
  subst e3; subst e4
  have o1 : s = L.sl:=ho _ (List.mem_cons_self ..)
  have o2 : L.l.length ≤ 1000000:=ho _ (List.mem_cons_of_mem _ (List.mem_cons_self ..))
  have o3 : ks.length ≤ maxLen:=ho _ (List.mem_cons_of_mem _ (List.mem_cons_of_mem _ (List.mem_cons_self ..)))
  refine ⟨kq,rfl,fun F' hF hp=>?_⟩
  have hheap : F'.heap = [(0,b)]:=by
   simp only [fragOf,Prod.mk.injEq] at hF
   rw [← hF.1]; exact hh
  refine CallsF.ofBlk iv 0 ks 3 1 F' b.rw (zs:=argAr L ks) ?_ (fun _=>rfl) (fun x y hy=>by simp only [iv,List.mem_singleton] at hy; subst hy; trivial) o3 (fun ρ=>?_) (fun g=>?_)
  ·rw [hheap]
   obtain ⟨cs,el,rw_⟩:=b
   simp only [SX.look,Nat.beq]
   simp only at e2 hks
   rw [e2,ksOf_ok hks]
  ·subst o1
   simp only [argAr,List.map_cons,List.map_nil,slOf_den hs ρ]
   rfl
  ·have:=arF L o2 ks g
   rw [show arNeed L ks g = rowP (irow ks g) :: F'.pers from by rw [hp]; rfl] at this
   exact this
set_option maxHeartbeats 4000000
theorem ar_cc (l : List Ty) : arP l [3,3] ↔ likeP l [99,99]:=by
 refine ⟨fun ⟨h1,h2⟩=>⟨h1,fun j hj=>?_⟩,fun ⟨h1,h2⟩=>⟨h1,fun j hj=>?_⟩⟩
 all_goals
  have hj2 : j < 2:=by simp at h1; omega
  have h3:=h2 j hj
  match j,hj2 with
  | 0,_=>simp [kdI,kdOK] at h3 ⊢; exact h3
  | 1,_=>simp [kdI,kdOK] at h3 ⊢; exact h3
theorem ar_bb (l : List Ty) : arP l [4,4] ↔ likeP l [98,98]:=by
 refine ⟨fun ⟨h1,h2⟩=>⟨h1,fun j hj=>?_⟩,fun ⟨h1,h2⟩=>⟨h1,fun j hj=>?_⟩⟩
 all_goals
  have hj2 : j < 2:=by simp at h1; omega
  have h3:=h2 j hj
  match j,hj2 with
  | 0,_=>simp [kdI,kdOK] at h3 ⊢; exact h3
  | 1,_=>simp [kdI,kdOK] at h3 ⊢; exact h3
theorem ar_b (l : List Ty) : arP l [4] ↔ likeP l [98]:=by
 refine ⟨fun ⟨h1,h2⟩=>⟨h1,fun j hj=>?_⟩,fun ⟨h1,h2⟩=>⟨h1,fun j hj=>?_⟩⟩
 all_goals
  have hj2 : j < 1:=by simp at h1; omega
  have h3:=h2 j hj
  match j,hj2 with
  | 0,_=>simp [kdI,kdOK] at h3 ⊢; exact h3
theorem ar_c (l : List Ty) : arP l [3] ↔ likeP l [99]:=by
 refine ⟨fun ⟨h1,h2⟩=>⟨h1,fun j hj=>?_⟩,fun ⟨h1,h2⟩=>⟨h1,fun j hj=>?_⟩⟩
 all_goals
  have hj2 : j < 1:=by simp at h1; omega
  have h3:=h2 j hj
  match j,hj2 with
  | 0,_=>simp [kdI,kdOK] at h3 ⊢; exact h3
theorem ar_cii (l : List Ty) : arP l [3,2,2] ↔ likeP l [99,105,105]:=by
 refine ⟨fun ⟨h1,h2⟩=>⟨h1,fun j hj=>?_⟩,fun ⟨h1,h2⟩=>⟨h1,fun j hj=>?_⟩⟩
 all_goals
  have hj2 : j < 3:=by simp at h1; omega
  have h3:=h2 j hj
  match j,hj2 with
  | 0,_=>simp [kdI,kdOK] at h3 ⊢; exact h3
  | 1,_=>simp [kdI,kdOK] at h3 ⊢; exact h3
  | 2,_=>simp [kdI,kdOK] at h3 ⊢; exact h3
theorem ar_bii (l : List Ty) : arP l [4,2,2] ↔ likeP l [98,105,105]:=by
 refine ⟨fun ⟨h1,h2⟩=>⟨h1,fun j hj=>?_⟩,fun ⟨h1,h2⟩=>⟨h1,fun j hj=>?_⟩⟩
 all_goals
  have hj2 : j < 3:=by simp at h1; omega
  have h3:=h2 j hj
  match j,hj2 with
  | 0,_=>simp [kdI,kdOK] at h3 ⊢; exact h3
  | 1,_=>simp [kdI,kdOK] at h3 ⊢; exact h3
  | 2,_=>simp [kdI,kdOK] at h3 ⊢; exact h3
theorem ar_ccc (l : List Ty) : arP l [3,3,3] ↔ likeP l [99,99,99]:=by
 refine ⟨fun ⟨h1,h2⟩=>⟨h1,fun j hj=>?_⟩,fun ⟨h1,h2⟩=>⟨h1,fun j hj=>?_⟩⟩
 all_goals
  have hj2 : j < 3:=by simp at h1; omega
  have h3:=h2 j hj
  match j,hj2 with
  | 0,_=>simp [kdI,kdOK] at h3 ⊢; exact h3
  | 1,_=>simp [kdI,kdOK] at h3 ⊢; exact h3
  | 2,_=>simp [kdI,kdOK] at h3 ⊢; exact h3
theorem ar_ci (l : List Ty) : arP l [3,2] ↔ likeP l [99,105]:=by
 refine ⟨fun ⟨h1,h2⟩=>⟨h1,fun j hj=>?_⟩,fun ⟨h1,h2⟩=>⟨h1,fun j hj=>?_⟩⟩
 all_goals
  have hj2 : j < 2:=by simp at h1; omega
  have h3:=h2 j hj
  match j,hj2 with
  | 0,_=>simp [kdI,kdOK] at h3 ⊢; exact h3
  | 1,_=>simp [kdI,kdOK] at h3 ⊢; exact h3
theorem ar_bi (l : List Ty) : arP l [4,2] ↔ likeP l [98,105]:=by
 refine ⟨fun ⟨h1,h2⟩=>⟨h1,fun j hj=>?_⟩,fun ⟨h1,h2⟩=>⟨h1,fun j hj=>?_⟩⟩
 all_goals
  have hj2 : j < 2:=by simp at h1; omega
  have h3:=h2 j hj
  match j,hj2 with
  | 0,_=>simp [kdI,kdOK] at h3 ⊢; exact h3
  | 1,_=>simp [kdI,kdOK] at h3 ⊢; exact h3
def rstQ (L : LsA) (a : Int) : Prop:=L.l.length ≤ 1000000
inductive rstI where
 | e (a : Int)
noncomputable def rstC (L : LsA) : rstI → Cfg
 | .e a=>entR L 1 Tryz.f43 (argOL L a)
noncomputable def rstS (L : LsA) : rstI → Sh
 | .e a=>(.ob [{ s:=L.q,n:=L.l.length,c:=L.c } = L.sl,L.l.length ≤ 1000000,((fun x=>3 :: x) ((fun x=>3 :: x) [])).length ≤ maxLen] (.ob [{ s:=L.q,n:=L.l.length,c:=L.c } = L.sl,L.l.length ≤ 1000000,((fun x=>4 :: x) ((fun x=>4 :: x) [])).length ≤ maxLen] (.cond (a == 14) (.cond (arB L.l ((fun x=>3 :: x) ((fun x=>3 :: x) []))) (.ob [(0 : Int) ≤ 0 ∧ 0 < (↑L.l.length : Int),(0 : Int) ≤ 1 ∧ 1 < (↑L.l.length : Int),inK IntKind.i64 ((L.l.getD (Int.toNat 0) Ty0).p + (L.l.getD (Int.toNat 1) Ty0).p)] (.ret (RV.tup [CV.agg [SV.int IntKind.i64 3,SV.int IntKind.i64 (if 255 < (L.l.getD (Int.toNat 0) Ty0).p + (L.l.getD (Int.toNat 1) Ty0).p then 255 else (L.l.getD (Int.toNat 0) Ty0).p + (L.l.getD (Int.toNat 1) Ty0).p),SV.int IntKind.i64 0,SV.sb true,SV.str []],CV.one (SV.int IntKind.i64 0)]))) (.cond (arB L.l ((fun x=>4 :: x) ((fun x=>4 :: x) []))) (.ob [(0 : Int) ≤ 0 ∧ 0 < (↑L.l.length : Int),(0 : Int) ≤ 1 ∧ 1 < (↑L.l.length : Int),inK IntKind.i64 ((L.l.getD (Int.toNat 0) Ty0).p + (L.l.getD (Int.toNat 1) Ty0).p)] (.ret (RV.tup [CV.agg [SV.int IntKind.i64 4,SV.int IntKind.i64 (if 64 < (L.l.getD (Int.toNat 0) Ty0).p + (L.l.getD (Int.toNat 1) Ty0).p then 64 else (L.l.getD (Int.toNat 0) Ty0).p + (L.l.getD (Int.toNat 1) Ty0).p),SV.int IntKind.i64 0,SV.sb false,SV.str []],CV.one (SV.int IntKind.i64 0)]))) (.ret (RV.tup [CV.agg (tyC Ty0),CV.one (SV.int IntKind.i64 5)])))) (.cond (a == 15) (.cond (arB L.l ((fun x=>4 :: x) ((fun x=>4 :: x) []))) (.ob [(0 : Int) ≤ 0 ∧ 0 < (↑L.l.length : Int),(0 : Int) ≤ 1 ∧ 1 < (↑L.l.length : Int)] (.ret (RV.tup [CV.agg [SV.int IntKind.i64 4,SV.int IntKind.i64 (if (L.l.getD (Int.toNat 1) Ty0).p > (L.l.getD (Int.toNat 0) Ty0).p then (L.l.getD (Int.toNat 1) Ty0).p else (L.l.getD (Int.toNat 0) Ty0).p),SV.int IntKind.i64 0,SV.sb false,SV.str []],CV.one (SV.int IntKind.i64 0)]))) (.ret (RV.tup [CV.agg (tyC Ty0),CV.one (SV.int IntKind.i64 5)]))) (.cond (a == 16) (.cond (arB L.l ((fun x=>4 :: x) ((fun x=>4 :: x) []))) (.ob [(0 : Int) ≤ 0 ∧ 0 < (↑L.l.length : Int),(0 : Int) ≤ 1 ∧ 1 < (↑L.l.length : Int)] (.ret (RV.tup [CV.agg [SV.int IntKind.i64 4,SV.int IntKind.i64 (if (L.l.getD (Int.toNat 1) Ty0).p > (L.l.getD (Int.toNat 0) Ty0).p then (L.l.getD (Int.toNat 1) Ty0).p else (L.l.getD (Int.toNat 0) Ty0).p),SV.int IntKind.i64 0,SV.sb false,SV.str []],CV.one (SV.int IntKind.i64 0)]))) (.ret (RV.tup [CV.agg (tyC Ty0),CV.one (SV.int IntKind.i64 5)]))) (.cond (a == 17) (.ob [{ s:=L.q,n:=L.l.length,c:=L.c } = L.sl,L.l.length ≤ 1000000,((fun x=>4 :: x) []).length ≤ maxLen] (.cond (arB L.l ((fun x=>4 :: x) [])) (.ob [(0 : Int) ≤ 0 ∧ 0 < (↑L.l.length : Int)] (.ret (RV.tup [CV.agg (tyC (L.l.getD (Int.toNat 0) Ty0)),CV.one (SV.int IntKind.i64 0)]))) (.ret (RV.tup [CV.agg (tyC Ty0),CV.one (SV.int IntKind.i64 5)])))) (.cond (a == 19) (.ob [{ s:=L.q,n:=L.l.length,c:=L.c } = L.sl,L.l.length ≤ 1000000,((fun x=>3 :: x) ((fun x=>2 :: x) ((fun x=>2 :: x) []))).length ≤ maxLen] (.cond (arB L.l ((fun x=>3 :: x) ((fun x=>2 :: x) ((fun x=>2 :: x) [])))) (.ob [(0 : Int) ≤ 0 ∧ 0 < (↑L.l.length : Int)] (.ret (RV.tup [CV.agg [SV.int IntKind.i64 3,SV.int IntKind.i64 (L.l.getD (Int.toNat 0) Ty0).p,SV.int IntKind.i64 0,SV.sb true,SV.str []],CV.one (SV.int IntKind.i64 0)]))) (.ob [{ s:=L.q,n:=L.l.length,c:=L.c } = L.sl,L.l.length ≤ 1000000,((fun x=>4 :: x) ((fun x=>2 :: x) ((fun x=>2 :: x) []))).length ≤ maxLen] (.cond (arB L.l ((fun x=>4 :: x) ((fun x=>2 :: x) ((fun x=>2 :: x) [])))) (.ob [(0 : Int) ≤ 0 ∧ 0 < (↑L.l.length : Int)] (.ret (RV.tup [CV.agg (tyC (L.l.getD (Int.toNat 0) Ty0)),CV.one (SV.int IntKind.i64 0)]))) (.ret (RV.tup [CV.agg (tyC Ty0),CV.one (SV.int IntKind.i64 5)])))))) (.cond (a == 20) (.cond (arB L.l ((fun x=>3 :: x) ((fun x=>3 :: x) [])) || arB L.l ((fun x=>4 :: x) ((fun x=>4 :: x) []))) (.ret (RV.tup [CV.agg [SV.int IntKind.i64 2,SV.int IntKind.i64 15,SV.int IntKind.i64 0,SV.sb false,SV.str []],CV.one (SV.int IntKind.i64 0)])) (.ret (RV.tup [CV.agg (tyC Ty0),CV.one (SV.int IntKind.i64 5)]))) (.cond (a == 22) (.cond (arB L.l ((fun x=>3 :: x) ((fun x=>3 :: x) [])) || arB L.l ((fun x=>4 :: x) ((fun x=>4 :: x) []))) (.ret (RV.tup [CV.agg [SV.int IntKind.i64 2,SV.int IntKind.i64 15,SV.int IntKind.i64 0,SV.sb false,SV.str []],CV.one (SV.int IntKind.i64 0)])) (.ret (RV.tup [CV.agg (tyC Ty0),CV.one (SV.int IntKind.i64 5)]))) (.cond (a == 21) (.ob [{ s:=L.q,n:=L.l.length,c:=L.c } = L.sl,L.l.length ≤ 1000000,((fun x=>3 :: x) []).length ≤ maxLen] (.cond (arB L.l ((fun x=>3 :: x) [])) (.ret (RV.tup [CV.agg [SV.int IntKind.i64 2,SV.int IntKind.i64 15,SV.int IntKind.i64 0,SV.sb false,SV.str []],CV.one (SV.int IntKind.i64 0)])) (.ob [{ s:=L.q,n:=L.l.length,c:=L.c } = L.sl,L.l.length ≤ 1000000,((fun x=>4 :: x) []).length ≤ maxLen] (.cond (arB L.l ((fun x=>4 :: x) [])) (.ret (RV.tup [CV.agg [SV.int IntKind.i64 2,SV.int IntKind.i64 15,SV.int IntKind.i64 0,SV.sb false,SV.str []],CV.one (SV.int IntKind.i64 0)])) (.ret (RV.tup [CV.agg (tyC Ty0),CV.one (SV.int IntKind.i64 5)])))))) (.cond (a == 23) (.ob [{ s:=L.q,n:=L.l.length,c:=L.c } = L.sl,L.l.length ≤ 1000000,((fun x=>3 :: x) ((fun x=>3 :: x) ((fun x=>3 :: x) []))).length ≤ maxLen] (.cond (arB L.l ((fun x=>3 :: x) ((fun x=>3 :: x) ((fun x=>3 :: x) [])))) (.ob [(0 : Int) ≤ 0 ∧ 0 < (↑L.l.length : Int)] (.ret (RV.tup [CV.agg (tyC (L.l.getD (Int.toNat 0) Ty0)),CV.one (SV.int IntKind.i64 0)]))) (.ret (RV.tup [CV.agg (tyC Ty0),CV.one (SV.int IntKind.i64 5)])))) (.cond (a == 24) (.ob [{ s:=L.q,n:=L.l.length,c:=L.c } = L.sl,L.l.length ≤ 1000000,((fun x=>3 :: x) ((fun x=>2 :: x) [])).length ≤ maxLen] (.cond (arB L.l ((fun x=>3 :: x) ((fun x=>2 :: x) []))) (.ret (RV.tup [CV.agg [SV.int IntKind.i64 3,SV.int IntKind.i64 255,SV.int IntKind.i64 0,SV.sb true,SV.str []],CV.one (SV.int IntKind.i64 0)])) (.ob [{ s:=L.q,n:=L.l.length,c:=L.c } = L.sl,L.l.length ≤ 1000000,((fun x=>4 :: x) ((fun x=>2 :: x) [])).length ≤ maxLen] (.cond (arB L.l ((fun x=>4 :: x) ((fun x=>2 :: x) []))) (.ret (RV.tup [CV.agg [SV.int IntKind.i64 4,SV.int IntKind.i64 64,SV.int IntKind.i64 0,SV.sb false,SV.str []],CV.one (SV.int IntKind.i64 0)])) (.ret (RV.tup [CV.agg (tyC Ty0),CV.one (SV.int IntKind.i64 5)])))))) (.ret (RV.tup [CV.agg (tyC Ty0),CV.one (SV.int IntKind.i64 5)]))))))))))))))
noncomputable def rstN (L : LsA) : rstI → Nat → rstI
 | .e a,_=>.e a
def rstK : rstI → List Nat
 | .e _=>[]
def rstM (L : LsA) : rstI → Nat
 | .e a=>1
def rstP (L : LsA) (a0 : Int) : rstI → Prop
 | .e a=>a = a0 ∧ L.l.length ≤ 1000000
theorem rstX (L : LsA) : ExN Tryz.prog 43 L.need (argOL L) (rsT) (rstQ L) (fun a r=>tyQ (stS a L.l) r):=by
 intro a0 ha
 refine CallsF.ofR L 1 Tryz.func43 kq kq kq (cutsY (arXt L) hMu kq (T:=([] : List (Ent Tryz.prog))) 40 (rstC L) (rstS L) (rstN L) rstK (fun _=>[]) (rstM L) (rstP L a0) _ (fun i=>by cases i <;> kernel_rfl) (fun i=>by cases i <;> kernel_rfl) (fun i q hq=>by cases i; exact hq) ?_ (fun i j hj=>?_) _ (.e a0) (Nat.lt_succ_self _) ⟨rfl,ha⟩)
 ·intro i hi
  cases i with
  | e a =>
   simp only [rstP] at hi
   obtain ⟨rfl,hi⟩:=hi
   have hL : L.l.length ≤ 1000000:=hi
   have k_cc : (arB L.l [3,3]) = true ↔ likeP L.l [99,99]:=by rw [← ar_cc]; simp [arB]
   have l_cc : (arB L.l [3,3]) = true → L.l.length = 2:=fun h=>(k_cc.1 h).1
   have k_bb : (arB L.l [4,4]) = true ↔ likeP L.l [98,98]:=by rw [← ar_bb]; simp [arB]
   have l_bb : (arB L.l [4,4]) = true → L.l.length = 2:=fun h=>(k_bb.1 h).1
   have k_b : (arB L.l [4]) = true ↔ likeP L.l [98]:=by rw [← ar_b]; simp [arB]
   have l_b : (arB L.l [4]) = true → L.l.length = 1:=fun h=>(k_b.1 h).1
   have k_c : (arB L.l [3]) = true ↔ likeP L.l [99]:=by rw [← ar_c]; simp [arB]
   have l_c : (arB L.l [3]) = true → L.l.length = 1:=fun h=>(k_c.1 h).1
   have k_cii : (arB L.l [3,2,2]) = true ↔ likeP L.l [99,105,105]:=by rw [← ar_cii]; simp [arB]
   have l_cii : (arB L.l [3,2,2]) = true → L.l.length = 3:=fun h=>(k_cii.1 h).1
   have k_bii : (arB L.l [4,2,2]) = true ↔ likeP L.l [98,105,105]:=by rw [← ar_bii]; simp [arB]
   have l_bii : (arB L.l [4,2,2]) = true → L.l.length = 3:=fun h=>(k_bii.1 h).1
   have k_ccc : (arB L.l [3,3,3]) = true ↔ likeP L.l [99,99,99]:=by rw [← ar_ccc]; simp [arB]
   have l_ccc : (arB L.l [3,3,3]) = true → L.l.length = 3:=fun h=>(k_ccc.1 h).1
   have k_ci : (arB L.l [3,2]) = true ↔ likeP L.l [99,105]:=by rw [← ar_ci]; simp [arB]
   have l_ci : (arB L.l [3,2]) = true → L.l.length = 2:=fun h=>(k_ci.1 h).1
   have k_bi : (arB L.l [4,2]) = true ↔ likeP L.l [98,105]:=by rw [← ar_bi]; simp [arB]
   have l_bi : (arB L.l [4,2]) = true → L.l.length = 2:=fun h=>(k_bi.1 h).1
   have b_cc : (arB L.l [3,3]) = true → 0 ≤ (L.l.getD 0 Ty0).p ∧ (L.l.getD 0 Ty0).p ≤ 255 ∧ 0 ≤ (L.l.getD 1 Ty0).p ∧ (L.l.getD 1 Ty0).p ≤ 255:=fun h=>by
    obtain ⟨_,h1,h2⟩:=like_cc (k_cc.1 h)
    exact ⟨h1.2.1,h1.2.2.1,h2.2.1,h2.2.2.1⟩
   have b_bb : (arB L.l [4,4]) = true → 0 ≤ (L.l.getD 0 Ty0).p ∧ (L.l.getD 0 Ty0).p ≤ 64 ∧ 0 ≤ (L.l.getD 1 Ty0).p ∧ (L.l.getD 1 Ty0).p ≤ 64:=fun h=>by
    obtain ⟨_,h1,h2⟩:=like_bb (k_bb.1 h)
    exact ⟨h1.2.1,h1.2.2.1,h2.2.1,h2.2.2.1⟩
   have o1 : { s:=L.q,n:=L.l.length,c:=L.c } = L.sl:=rfl
   have o2 : L.l.length ≤ 1000000:=hL
   have o3 : ((fun x=>3 :: x) ((fun x=>3 :: x) [])).length ≤ maxLen:=by decide
   refine ⟨⟨o1,o2,o3⟩,?_⟩
   have o4 : { s:=L.q,n:=L.l.length,c:=L.c } = L.sl:=rfl
   have o5 : L.l.length ≤ 1000000:=hL
   have o6 : ((fun x=>4 :: x) ((fun x=>4 :: x) [])).length ≤ maxLen:=by decide
   refine ⟨⟨o4,o5,o6⟩,?_⟩
   refine ⟨fun h0=>?_,fun h0=>?_⟩
   ·(try simp only [Bool.or_eq_true,Bool.and_eq_true,Bool.or_eq_false_iff,Bool.and_eq_false_iff,beq_iff_eq,beq_eq_false_iff_ne,bne_iff_ne,decide_eq_true_eq,decide_eq_false_iff_not,ne_eq] at h0)
    refine ⟨fun h1=>?_,fun h1=>?_⟩
    ·(try simp only [Bool.or_eq_true,Bool.and_eq_true,Bool.or_eq_false_iff,Bool.and_eq_false_iff,beq_iff_eq,beq_eq_false_iff_ne,bne_iff_ne,decide_eq_true_eq,decide_eq_false_iff_not,ne_eq] at h1)
     have o7 : (0 : Int) ≤ 0 ∧ 0 < (↑L.l.length : Int):=by grind
     have o8 : (0 : Int) ≤ 1 ∧ 1 < (↑L.l.length : Int):=by grind
     have o9 : inK IntKind.i64 ((L.l.getD (Int.toNat 0) Ty0).p + (L.l.getD (Int.toNat 1) Ty0).p):=by first | (have hb:=b_cc (by grind); exact (⟨by omega,by omega⟩ : inK .i64 ((L.l.getD 0 Ty0).p + (L.l.getD 1 Ty0).p))) | (have hb:=b_bb (by grind); exact (⟨by omega,by omega⟩ : inK .i64 ((L.l.getD 0 Ty0).p + (L.l.getD 1 Ty0).p)))
     refine ⟨⟨o7,o8,o9⟩,?_⟩
     exact ⟨⟨(⟨3,if 255 < (L.l.getD (Int.toNat 0) Ty0).p + (L.l.getD (Int.toNat 1) Ty0).p then 255 else (L.l.getD (Int.toNat 0) Ty0).p + (L.l.getD (Int.toNat 1) Ty0).p,0,true,[]⟩,0),rfl,st_q (fun t ht=>by (try simp only [Int.reduceToNat]); simp only [stS,Int.min_def,Int.max_def] at ht; grind (splits:=30)) (fun ht=>by simp only [stS] at ht; grind (splits:=30))⟩,rfl⟩
    ·(try simp only [Bool.or_eq_true,Bool.and_eq_true,Bool.or_eq_false_iff,Bool.and_eq_false_iff,beq_iff_eq,beq_eq_false_iff_ne,bne_iff_ne,decide_eq_true_eq,decide_eq_false_iff_not,ne_eq] at h1)
     refine ⟨fun h2=>?_,fun h2=>?_⟩
     ·(try simp only [Bool.or_eq_true,Bool.and_eq_true,Bool.or_eq_false_iff,Bool.and_eq_false_iff,beq_iff_eq,beq_eq_false_iff_ne,bne_iff_ne,decide_eq_true_eq,decide_eq_false_iff_not,ne_eq] at h2)
      have o10 : (0 : Int) ≤ 0 ∧ 0 < (↑L.l.length : Int):=by grind
      have o11 : (0 : Int) ≤ 1 ∧ 1 < (↑L.l.length : Int):=by grind
      have o12 : inK IntKind.i64 ((L.l.getD (Int.toNat 0) Ty0).p + (L.l.getD (Int.toNat 1) Ty0).p):=by first | (have hb:=b_cc (by grind); exact (⟨by omega,by omega⟩ : inK .i64 ((L.l.getD 0 Ty0).p + (L.l.getD 1 Ty0).p))) | (have hb:=b_bb (by grind); exact (⟨by omega,by omega⟩ : inK .i64 ((L.l.getD 0 Ty0).p + (L.l.getD 1 Ty0).p)))
      refine ⟨⟨o10,o11,o12⟩,?_⟩
      exact ⟨⟨(⟨4,if 64 < (L.l.getD (Int.toNat 0) Ty0).p + (L.l.getD (Int.toNat 1) Ty0).p then 64 else (L.l.getD (Int.toNat 0) Ty0).p + (L.l.getD (Int.toNat 1) Ty0).p,0,false,[]⟩,0),rfl,st_q (fun t ht=>by (try simp only [Int.reduceToNat]); simp only [stS,Int.min_def,Int.max_def] at ht; grind (splits:=30)) (fun ht=>by simp only [stS] at ht; grind (splits:=30))⟩,rfl⟩
     ·(try simp only [Bool.or_eq_true,Bool.and_eq_true,Bool.or_eq_false_iff,Bool.and_eq_false_iff,beq_iff_eq,beq_eq_false_iff_ne,bne_iff_ne,decide_eq_true_eq,decide_eq_false_iff_not,ne_eq] at h2)
      exact ⟨⟨(Ty0,5),rfl,st_q (fun t ht=>by (try simp only [Int.reduceToNat]); simp only [stS,Int.min_def,Int.max_def] at ht; grind (splits:=30)) (fun ht=>by simp only [stS] at ht; grind (splits:=30))⟩,rfl⟩
   ·(try simp only [Bool.or_eq_true,Bool.and_eq_true,Bool.or_eq_false_iff,Bool.and_eq_false_iff,beq_iff_eq,beq_eq_false_iff_ne,bne_iff_ne,decide_eq_true_eq,decide_eq_false_iff_not,ne_eq] at h0)
    refine ⟨fun h1=>?_,fun h1=>?_⟩
    ·(try simp only [Bool.or_eq_true,Bool.and_eq_true,Bool.or_eq_false_iff,Bool.and_eq_false_iff,beq_iff_eq,beq_eq_false_iff_ne,bne_iff_ne,decide_eq_true_eq,decide_eq_false_iff_not,ne_eq] at h1)
     refine ⟨fun h2=>?_,fun h2=>?_⟩
     ·(try simp only [Bool.or_eq_true,Bool.and_eq_true,Bool.or_eq_false_iff,Bool.and_eq_false_iff,beq_iff_eq,beq_eq_false_iff_ne,bne_iff_ne,decide_eq_true_eq,decide_eq_false_iff_not,ne_eq] at h2)
      have o13 : (0 : Int) ≤ 0 ∧ 0 < (↑L.l.length : Int):=by grind
      have o14 : (0 : Int) ≤ 1 ∧ 1 < (↑L.l.length : Int):=by grind
      refine ⟨⟨o13,o14⟩,?_⟩
      exact ⟨⟨(⟨4,if (L.l.getD (Int.toNat 1) Ty0).p > (L.l.getD (Int.toNat 0) Ty0).p then (L.l.getD (Int.toNat 1) Ty0).p else (L.l.getD (Int.toNat 0) Ty0).p,0,false,[]⟩,0),rfl,st_q (fun t ht=>by (try simp only [Int.reduceToNat]); simp only [stS,Int.min_def,Int.max_def] at ht; grind (splits:=30)) (fun ht=>by simp only [stS] at ht; grind (splits:=30))⟩,rfl⟩
     ·(try simp only [Bool.or_eq_true,Bool.and_eq_true,Bool.or_eq_false_iff,Bool.and_eq_false_iff,beq_iff_eq,beq_eq_false_iff_ne,bne_iff_ne,decide_eq_true_eq,decide_eq_false_iff_not,ne_eq] at h2)
      exact ⟨⟨(Ty0,5),rfl,st_q (fun t ht=>by (try simp only [Int.reduceToNat]); simp only [stS,Int.min_def,Int.max_def] at ht; grind (splits:=30)) (fun ht=>by simp only [stS] at ht; grind (splits:=30))⟩,rfl⟩
    ·(try simp only [Bool.or_eq_true,Bool.and_eq_true,Bool.or_eq_false_iff,Bool.and_eq_false_iff,beq_iff_eq,beq_eq_false_iff_ne,bne_iff_ne,decide_eq_true_eq,decide_eq_false_iff_not,ne_eq] at h1)
     refine ⟨fun h2=>?_,fun h2=>?_⟩
     ·(try simp only [Bool.or_eq_true,Bool.and_eq_true,Bool.or_eq_false_iff,Bool.and_eq_false_iff,beq_iff_eq,beq_eq_false_iff_ne,bne_iff_ne,decide_eq_true_eq,decide_eq_false_iff_not,ne_eq] at h2)
      refine ⟨fun h3=>?_,fun h3=>?_⟩
      ·(try simp only [Bool.or_eq_true,Bool.and_eq_true,Bool.or_eq_false_iff,Bool.and_eq_false_iff,beq_iff_eq,beq_eq_false_iff_ne,bne_iff_ne,decide_eq_true_eq,decide_eq_false_iff_not,ne_eq] at h3)
       have o15 : (0 : Int) ≤ 0 ∧ 0 < (↑L.l.length : Int):=by grind
       have o16 : (0 : Int) ≤ 1 ∧ 1 < (↑L.l.length : Int):=by grind
       refine ⟨⟨o15,o16⟩,?_⟩
       exact ⟨⟨(⟨4,if (L.l.getD (Int.toNat 1) Ty0).p > (L.l.getD (Int.toNat 0) Ty0).p then (L.l.getD (Int.toNat 1) Ty0).p else (L.l.getD (Int.toNat 0) Ty0).p,0,false,[]⟩,0),rfl,st_q (fun t ht=>by (try simp only [Int.reduceToNat]); simp only [stS,Int.min_def,Int.max_def] at ht; grind (splits:=30)) (fun ht=>by simp only [stS] at ht; grind (splits:=30))⟩,rfl⟩
      ·(try simp only [Bool.or_eq_true,Bool.and_eq_true,Bool.or_eq_false_iff,Bool.and_eq_false_iff,beq_iff_eq,beq_eq_false_iff_ne,bne_iff_ne,decide_eq_true_eq,decide_eq_false_iff_not,ne_eq] at h3)
       exact ⟨⟨(Ty0,5),rfl,st_q (fun t ht=>by (try simp only [Int.reduceToNat]); simp only [stS,Int.min_def,Int.max_def] at ht; grind (splits:=30)) (fun ht=>by simp only [stS] at ht; grind (splits:=30))⟩,rfl⟩
     ·(try simp only [Bool.or_eq_true,Bool.and_eq_true,Bool.or_eq_false_iff,Bool.and_eq_false_iff,beq_iff_eq,beq_eq_false_iff_ne,bne_iff_ne,decide_eq_true_eq,decide_eq_false_iff_not,ne_eq] at h2)
      refine ⟨fun h3=>?_,fun h3=>?_⟩
      ·(try simp only [Bool.or_eq_true,Bool.and_eq_true,Bool.or_eq_false_iff,Bool.and_eq_false_iff,beq_iff_eq,beq_eq_false_iff_ne,bne_iff_ne,decide_eq_true_eq,decide_eq_false_iff_not,ne_eq] at h3)
       have o17 : { s:=L.q,n:=L.l.length,c:=L.c } = L.sl:=rfl
       have o18 : L.l.length ≤ 1000000:=hL
       have o19 : ((fun x=>4 :: x) []).length ≤ maxLen:=by decide
       refine ⟨⟨o17,o18,o19⟩,?_⟩
       refine ⟨fun h4=>?_,fun h4=>?_⟩
       ·(try simp only [Bool.or_eq_true,Bool.and_eq_true,Bool.or_eq_false_iff,Bool.and_eq_false_iff,beq_iff_eq,beq_eq_false_iff_ne,bne_iff_ne,decide_eq_true_eq,decide_eq_false_iff_not,ne_eq] at h4)
        have o20 : (0 : Int) ≤ 0 ∧ 0 < (↑L.l.length : Int):=by grind
        refine ⟨o20,?_⟩
        exact ⟨⟨((L.l.getD (Int.toNat 0) Ty0),0),rfl,st_q (fun t ht=>by (try simp only [Int.reduceToNat]); simp only [stS,Int.min_def,Int.max_def] at ht; grind (splits:=30)) (fun ht=>by simp only [stS] at ht; grind (splits:=30))⟩,rfl⟩
       ·(try simp only [Bool.or_eq_true,Bool.and_eq_true,Bool.or_eq_false_iff,Bool.and_eq_false_iff,beq_iff_eq,beq_eq_false_iff_ne,bne_iff_ne,decide_eq_true_eq,decide_eq_false_iff_not,ne_eq] at h4)
        exact ⟨⟨(Ty0,5),rfl,st_q (fun t ht=>by (try simp only [Int.reduceToNat]); simp only [stS,Int.min_def,Int.max_def] at ht; grind (splits:=30)) (fun ht=>by simp only [stS] at ht; grind (splits:=30))⟩,rfl⟩
      ·(try simp only [Bool.or_eq_true,Bool.and_eq_true,Bool.or_eq_false_iff,Bool.and_eq_false_iff,beq_iff_eq,beq_eq_false_iff_ne,bne_iff_ne,decide_eq_true_eq,decide_eq_false_iff_not,ne_eq] at h3)
       refine ⟨fun h4=>?_,fun h4=>?_⟩
       ·(try simp only [Bool.or_eq_true,Bool.and_eq_true,Bool.or_eq_false_iff,Bool.and_eq_false_iff,beq_iff_eq,beq_eq_false_iff_ne,bne_iff_ne,decide_eq_true_eq,decide_eq_false_iff_not,ne_eq] at h4)
        have o21 : { s:=L.q,n:=L.l.length,c:=L.c } = L.sl:=rfl
        have o22 : L.l.length ≤ 1000000:=hL
        have o23 : ((fun x=>3 :: x) ((fun x=>2 :: x) ((fun x=>2 :: x) []))).length ≤ maxLen:=by decide
        refine ⟨⟨o21,o22,o23⟩,?_⟩
        refine ⟨fun h5=>?_,fun h5=>?_⟩
        ·(try simp only [Bool.or_eq_true,Bool.and_eq_true,Bool.or_eq_false_iff,Bool.and_eq_false_iff,beq_iff_eq,beq_eq_false_iff_ne,bne_iff_ne,decide_eq_true_eq,decide_eq_false_iff_not,ne_eq] at h5)
         have o24 : (0 : Int) ≤ 0 ∧ 0 < (↑L.l.length : Int):=by grind
         refine ⟨o24,?_⟩
         exact ⟨⟨(⟨3,(L.l.getD (Int.toNat 0) Ty0).p,0,true,[]⟩,0),rfl,st_q (fun t ht=>by (try simp only [Int.reduceToNat]); simp only [stS,Int.min_def,Int.max_def] at ht; grind (splits:=30)) (fun ht=>by simp only [stS] at ht; grind (splits:=30))⟩,rfl⟩
        ·(try simp only [Bool.or_eq_true,Bool.and_eq_true,Bool.or_eq_false_iff,Bool.and_eq_false_iff,beq_iff_eq,beq_eq_false_iff_ne,bne_iff_ne,decide_eq_true_eq,decide_eq_false_iff_not,ne_eq] at h5)
         have o25 : { s:=L.q,n:=L.l.length,c:=L.c } = L.sl:=rfl
         have o26 : L.l.length ≤ 1000000:=hL
         have o27 : ((fun x=>4 :: x) ((fun x=>2 :: x) ((fun x=>2 :: x) []))).length ≤ maxLen:=by decide
         refine ⟨⟨o25,o26,o27⟩,?_⟩
         refine ⟨fun h6=>?_,fun h6=>?_⟩
         ·(try simp only [Bool.or_eq_true,Bool.and_eq_true,Bool.or_eq_false_iff,Bool.and_eq_false_iff,beq_iff_eq,beq_eq_false_iff_ne,bne_iff_ne,decide_eq_true_eq,decide_eq_false_iff_not,ne_eq] at h6)
          have o28 : (0 : Int) ≤ 0 ∧ 0 < (↑L.l.length : Int):=by grind
          refine ⟨o28,?_⟩
          exact ⟨⟨((L.l.getD (Int.toNat 0) Ty0),0),rfl,st_q (fun t ht=>by (try simp only [Int.reduceToNat]); simp only [stS,Int.min_def,Int.max_def] at ht; grind (splits:=30)) (fun ht=>by simp only [stS] at ht; grind (splits:=30))⟩,rfl⟩
         ·(try simp only [Bool.or_eq_true,Bool.and_eq_true,Bool.or_eq_false_iff,Bool.and_eq_false_iff,beq_iff_eq,beq_eq_false_iff_ne,bne_iff_ne,decide_eq_true_eq,decide_eq_false_iff_not,ne_eq] at h6)
          exact ⟨⟨(Ty0,5),rfl,st_q (fun t ht=>by (try simp only [Int.reduceToNat]); simp only [stS,Int.min_def,Int.max_def] at ht; grind (splits:=30)) (fun ht=>by simp only [stS] at ht; grind (splits:=30))⟩,rfl⟩
       ·(try simp only [Bool.or_eq_true,Bool.and_eq_true,Bool.or_eq_false_iff,Bool.and_eq_false_iff,beq_iff_eq,beq_eq_false_iff_ne,bne_iff_ne,decide_eq_true_eq,decide_eq_false_iff_not,ne_eq] at h4)
        refine ⟨fun h5=>?_,fun h5=>?_⟩
        ·(try simp only [Bool.or_eq_true,Bool.and_eq_true,Bool.or_eq_false_iff,Bool.and_eq_false_iff,beq_iff_eq,beq_eq_false_iff_ne,bne_iff_ne,decide_eq_true_eq,decide_eq_false_iff_not,ne_eq] at h5)
         refine ⟨fun h6=>?_,fun h6=>?_⟩
         ·(try simp only [Bool.or_eq_true,Bool.and_eq_true,Bool.or_eq_false_iff,Bool.and_eq_false_iff,beq_iff_eq,beq_eq_false_iff_ne,bne_iff_ne,decide_eq_true_eq,decide_eq_false_iff_not,ne_eq] at h6)
          exact ⟨⟨(⟨2,15,0,false,[]⟩,0),rfl,st_q (fun t ht=>by (try simp only [Int.reduceToNat]); simp only [stS,Int.min_def,Int.max_def] at ht; grind (splits:=30)) (fun ht=>by simp only [stS] at ht; grind (splits:=30))⟩,rfl⟩
         ·(try simp only [Bool.or_eq_true,Bool.and_eq_true,Bool.or_eq_false_iff,Bool.and_eq_false_iff,beq_iff_eq,beq_eq_false_iff_ne,bne_iff_ne,decide_eq_true_eq,decide_eq_false_iff_not,ne_eq] at h6)
          exact ⟨⟨(Ty0,5),rfl,st_q (fun t ht=>by (try simp only [Int.reduceToNat]); simp only [stS,Int.min_def,Int.max_def] at ht; grind (splits:=30)) (fun ht=>by simp only [stS] at ht; grind (splits:=30))⟩,rfl⟩
        ·(try simp only [Bool.or_eq_true,Bool.and_eq_true,Bool.or_eq_false_iff,Bool.and_eq_false_iff,beq_iff_eq,beq_eq_false_iff_ne,bne_iff_ne,decide_eq_true_eq,decide_eq_false_iff_not,ne_eq] at h5)
         refine ⟨fun h6=>?_,fun h6=>?_⟩
         ·(try simp only [Bool.or_eq_true,Bool.and_eq_true,Bool.or_eq_false_iff,Bool.and_eq_false_iff,beq_iff_eq,beq_eq_false_iff_ne,bne_iff_ne,decide_eq_true_eq,decide_eq_false_iff_not,ne_eq] at h6)
          refine ⟨fun h7=>?_,fun h7=>?_⟩
          ·(try simp only [Bool.or_eq_true,Bool.and_eq_true,Bool.or_eq_false_iff,Bool.and_eq_false_iff,beq_iff_eq,beq_eq_false_iff_ne,bne_iff_ne,decide_eq_true_eq,decide_eq_false_iff_not,ne_eq] at h7)
           exact ⟨⟨(⟨2,15,0,false,[]⟩,0),rfl,st_q (fun t ht=>by (try simp only [Int.reduceToNat]); simp only [stS,Int.min_def,Int.max_def] at ht; grind (splits:=30)) (fun ht=>by simp only [stS] at ht; grind (splits:=30))⟩,rfl⟩
          ·(try simp only [Bool.or_eq_true,Bool.and_eq_true,Bool.or_eq_false_iff,Bool.and_eq_false_iff,beq_iff_eq,beq_eq_false_iff_ne,bne_iff_ne,decide_eq_true_eq,decide_eq_false_iff_not,ne_eq] at h7)
           exact ⟨⟨(Ty0,5),rfl,st_q (fun t ht=>by (try simp only [Int.reduceToNat]); simp only [stS,Int.min_def,Int.max_def] at ht; grind (splits:=30)) (fun ht=>by simp only [stS] at ht; grind (splits:=30))⟩,rfl⟩
         ·(try simp only [Bool.or_eq_true,Bool.and_eq_true,Bool.or_eq_false_iff,Bool.and_eq_false_iff,beq_iff_eq,beq_eq_false_iff_ne,bne_iff_ne,decide_eq_true_eq,decide_eq_false_iff_not,ne_eq] at h6)
          refine ⟨fun h7=>?_,fun h7=>?_⟩
          ·(try simp only [Bool.or_eq_true,Bool.and_eq_true,Bool.or_eq_false_iff,Bool.and_eq_false_iff,beq_iff_eq,beq_eq_false_iff_ne,bne_iff_ne,decide_eq_true_eq,decide_eq_false_iff_not,ne_eq] at h7)
           have o29 : { s:=L.q,n:=L.l.length,c:=L.c } = L.sl:=rfl
           have o30 : L.l.length ≤ 1000000:=hL
           have o31 : ((fun x=>3 :: x) []).length ≤ maxLen:=by decide
           refine ⟨⟨o29,o30,o31⟩,?_⟩
           refine ⟨fun h8=>?_,fun h8=>?_⟩
           ·(try simp only [Bool.or_eq_true,Bool.and_eq_true,Bool.or_eq_false_iff,Bool.and_eq_false_iff,beq_iff_eq,beq_eq_false_iff_ne,bne_iff_ne,decide_eq_true_eq,decide_eq_false_iff_not,ne_eq] at h8)
            exact ⟨⟨(⟨2,15,0,false,[]⟩,0),rfl,st_q (fun t ht=>by (try simp only [Int.reduceToNat]); simp only [stS,Int.min_def,Int.max_def] at ht; grind (splits:=30)) (fun ht=>by simp only [stS] at ht; grind (splits:=30))⟩,rfl⟩
           ·(try simp only [Bool.or_eq_true,Bool.and_eq_true,Bool.or_eq_false_iff,Bool.and_eq_false_iff,beq_iff_eq,beq_eq_false_iff_ne,bne_iff_ne,decide_eq_true_eq,decide_eq_false_iff_not,ne_eq] at h8)
            have o32 : { s:=L.q,n:=L.l.length,c:=L.c } = L.sl:=rfl
            have o33 : L.l.length ≤ 1000000:=hL
            have o34 : ((fun x=>4 :: x) []).length ≤ maxLen:=by decide
            refine ⟨⟨o32,o33,o34⟩,?_⟩
            refine ⟨fun h9=>?_,fun h9=>?_⟩
            ·(try simp only [Bool.or_eq_true,Bool.and_eq_true,Bool.or_eq_false_iff,Bool.and_eq_false_iff,beq_iff_eq,beq_eq_false_iff_ne,bne_iff_ne,decide_eq_true_eq,decide_eq_false_iff_not,ne_eq] at h9)
             exact ⟨⟨(⟨2,15,0,false,[]⟩,0),rfl,st_q (fun t ht=>by (try simp only [Int.reduceToNat]); simp only [stS,Int.min_def,Int.max_def] at ht; grind (splits:=30)) (fun ht=>by simp only [stS] at ht; grind (splits:=30))⟩,rfl⟩
            ·(try simp only [Bool.or_eq_true,Bool.and_eq_true,Bool.or_eq_false_iff,Bool.and_eq_false_iff,beq_iff_eq,beq_eq_false_iff_ne,bne_iff_ne,decide_eq_true_eq,decide_eq_false_iff_not,ne_eq] at h9)
             exact ⟨⟨(Ty0,5),rfl,st_q (fun t ht=>by (try simp only [Int.reduceToNat]); simp only [stS,Int.min_def,Int.max_def] at ht; grind (splits:=30)) (fun ht=>by simp only [stS] at ht; grind (splits:=30))⟩,rfl⟩
          ·(try simp only [Bool.or_eq_true,Bool.and_eq_true,Bool.or_eq_false_iff,Bool.and_eq_false_iff,beq_iff_eq,beq_eq_false_iff_ne,bne_iff_ne,decide_eq_true_eq,decide_eq_false_iff_not,ne_eq] at h7)
           refine ⟨fun h8=>?_,fun h8=>?_⟩
           ·(try simp only [Bool.or_eq_true,Bool.and_eq_true,Bool.or_eq_false_iff,Bool.and_eq_false_iff,beq_iff_eq,beq_eq_false_iff_ne,bne_iff_ne,decide_eq_true_eq,decide_eq_false_iff_not,ne_eq] at h8)
            have o35 : { s:=L.q,n:=L.l.length,c:=L.c } = L.sl:=rfl
            have o36 : L.l.length ≤ 1000000:=hL
            have o37 : ((fun x=>3 :: x) ((fun x=>3 :: x) ((fun x=>3 :: x) []))).length ≤ maxLen:=by decide
            refine ⟨⟨o35,o36,o37⟩,?_⟩
            refine ⟨fun h9=>?_,fun h9=>?_⟩
            ·(try simp only [Bool.or_eq_true,Bool.and_eq_true,Bool.or_eq_false_iff,Bool.and_eq_false_iff,beq_iff_eq,beq_eq_false_iff_ne,bne_iff_ne,decide_eq_true_eq,decide_eq_false_iff_not,ne_eq] at h9)
             have o38 : (0 : Int) ≤ 0 ∧ 0 < (↑L.l.length : Int):=by grind
             refine ⟨o38,?_⟩
             exact ⟨⟨((L.l.getD (Int.toNat 0) Ty0),0),rfl,st_q (fun t ht=>by (try simp only [Int.reduceToNat]); simp only [stS,Int.min_def,Int.max_def] at ht; grind (splits:=30)) (fun ht=>by simp only [stS] at ht; grind (splits:=30))⟩,rfl⟩
            ·(try simp only [Bool.or_eq_true,Bool.and_eq_true,Bool.or_eq_false_iff,Bool.and_eq_false_iff,beq_iff_eq,beq_eq_false_iff_ne,bne_iff_ne,decide_eq_true_eq,decide_eq_false_iff_not,ne_eq] at h9)
             exact ⟨⟨(Ty0,5),rfl,st_q (fun t ht=>by (try simp only [Int.reduceToNat]); simp only [stS,Int.min_def,Int.max_def] at ht; grind (splits:=30)) (fun ht=>by simp only [stS] at ht; grind (splits:=30))⟩,rfl⟩
           ·(try simp only [Bool.or_eq_true,Bool.and_eq_true,Bool.or_eq_false_iff,Bool.and_eq_false_iff,beq_iff_eq,beq_eq_false_iff_ne,bne_iff_ne,decide_eq_true_eq,decide_eq_false_iff_not,ne_eq] at h8)
            refine ⟨fun h9=>?_,fun h9=>?_⟩
            ·(try simp only [Bool.or_eq_true,Bool.and_eq_true,Bool.or_eq_false_iff,Bool.and_eq_false_iff,beq_iff_eq,beq_eq_false_iff_ne,bne_iff_ne,decide_eq_true_eq,decide_eq_false_iff_not,ne_eq] at h9)
             have o39 : { s:=L.q,n:=L.l.length,c:=L.c } = L.sl:=rfl
             have o40 : L.l.length ≤ 1000000:=hL
             have o41 : ((fun x=>3 :: x) ((fun x=>2 :: x) [])).length ≤ maxLen:=by decide
             refine ⟨⟨o39,o40,o41⟩,?_⟩
             refine ⟨fun h10=>?_,fun h10=>?_⟩
             ·(try simp only [Bool.or_eq_true,Bool.and_eq_true,Bool.or_eq_false_iff,Bool.and_eq_false_iff,beq_iff_eq,beq_eq_false_iff_ne,bne_iff_ne,decide_eq_true_eq,decide_eq_false_iff_not,ne_eq] at h10)
              exact ⟨⟨(⟨3,255,0,true,[]⟩,0),rfl,st_q (fun t ht=>by (try simp only [Int.reduceToNat]); simp only [stS,Int.min_def,Int.max_def] at ht; grind (splits:=30)) (fun ht=>by simp only [stS] at ht; grind (splits:=30))⟩,rfl⟩
             ·(try simp only [Bool.or_eq_true,Bool.and_eq_true,Bool.or_eq_false_iff,Bool.and_eq_false_iff,beq_iff_eq,beq_eq_false_iff_ne,bne_iff_ne,decide_eq_true_eq,decide_eq_false_iff_not,ne_eq] at h10)
              have o42 : { s:=L.q,n:=L.l.length,c:=L.c } = L.sl:=rfl
              have o43 : L.l.length ≤ 1000000:=hL
              have o44 : ((fun x=>4 :: x) ((fun x=>2 :: x) [])).length ≤ maxLen:=by decide
              refine ⟨⟨o42,o43,o44⟩,?_⟩
              refine ⟨fun h11=>?_,fun h11=>?_⟩
              ·(try simp only [Bool.or_eq_true,Bool.and_eq_true,Bool.or_eq_false_iff,Bool.and_eq_false_iff,beq_iff_eq,beq_eq_false_iff_ne,bne_iff_ne,decide_eq_true_eq,decide_eq_false_iff_not,ne_eq] at h11)
               exact ⟨⟨(⟨4,64,0,false,[]⟩,0),rfl,st_q (fun t ht=>by (try simp only [Int.reduceToNat]); simp only [stS,Int.min_def,Int.max_def] at ht; grind (splits:=30)) (fun ht=>by simp only [stS] at ht; grind (splits:=30))⟩,rfl⟩
              ·(try simp only [Bool.or_eq_true,Bool.and_eq_true,Bool.or_eq_false_iff,Bool.and_eq_false_iff,beq_iff_eq,beq_eq_false_iff_ne,bne_iff_ne,decide_eq_true_eq,decide_eq_false_iff_not,ne_eq] at h11)
               exact ⟨⟨(Ty0,5),rfl,st_q (fun t ht=>by (try simp only [Int.reduceToNat]); simp only [stS,Int.min_def,Int.max_def] at ht; grind (splits:=30)) (fun ht=>by simp only [stS] at ht; grind (splits:=30))⟩,rfl⟩
            ·(try simp only [Bool.or_eq_true,Bool.and_eq_true,Bool.or_eq_false_iff,Bool.and_eq_false_iff,beq_iff_eq,beq_eq_false_iff_ne,bne_iff_ne,decide_eq_true_eq,decide_eq_false_iff_not,ne_eq] at h9)
             exact ⟨⟨(Ty0,5),rfl,st_q (fun t ht=>by (try simp only [Int.reduceToNat]); simp only [stS,Int.min_def,Int.max_def] at ht; grind (splits:=30)) (fun ht=>by simp only [stS] at ht; grind (splits:=30))⟩,rfl⟩
 ·cases i with
  | e a=>exact absurd hj (Nat.not_lt_zero _)
set_option maxHeartbeats 4000000
def fiF (a b c : Int) : St:={ stP [] with heap:=[(0,⟨[.int .i64 a,.int .i64 b,.int .i64 c],28,true⟩)],next:=1 }
def fiV (a b c : Int) : Int:=if a ≠ 0 then a else if b ≠ 0 then b else c
theorem fiX (a b c : Int) : CallsF Tryz.prog 159 [.one (.sli 0 3 3)] (fiF a b c) (.ret (.v (vI (fiV a b c)))):=by
 refine CallsF.mk true Tryz.func159 kq kq (fun ρ w=>V.lit ?_)
 refine V.q ?_
 refine V.iter ?_
 refine V.q ?_
 refine V.known 8 (decide ((0 : Int) < 3)) true kq rfl ?_
 refine V.q ?_
 refine V.branch 12 (a != 0) kq (fun h=>?_) (fun h=>?_)
 ·have e : fiV a b c = a:=by simp only [bne_iff_ne] at h; simp only [fiV,if_pos h]
  rw [e]
  refine V.q ?_
  exact V.retO kq kq kq
 refine V.q ?_
 refine V.iter ?_
 refine V.q ?_
 refine V.known 8 (decide ((1 : Int) < 3)) true kq rfl ?_
 refine V.q ?_
 have h : a = 0:=by simpa using h
 subst h
 refine V.branch 12 (b != 0) kq (fun h=>?_) (fun h=>?_)
 ·have e : fiV 0 b c = b:=by simp only [bne_iff_ne] at h; simp [fiV,h]
  rw [e]
  refine V.q ?_
  exact V.retO kq kq kq
 refine V.q ?_
 refine V.iter ?_
 refine V.q ?_
 refine V.known 8 (decide ((2 : Int) < 3)) true kq rfl ?_
 refine V.q ?_
 have h : b = 0:=by simpa using h
 subst h
 have e : fiV 0 0 c = c:=by simp [fiV]
 rw [e]
 refine V.branch 12 (c != 0) kq (fun h=>?_) (fun h=>?_)
 ·refine V.q ?_
  exact V.retO kq kq kq
 have h : c = 0:=by simpa using h
 subst h
 refine V.q ?_
 refine V.iter ?_
 refine V.q ?_
 refine V.known 8 (decide ((3 : Int) < 3)) false kq rfl ?_
 refine V.q ?_
 exact V.retO kq kq kq
def saF (b : Ty) : St:={ stP [] with heap:=[(0,⟨tyC b,26,true⟩)],next:=1 }
def saV (a b : Ty) : Int:=if a.k = b.k then 0 else 5
theorem saX (a b : Ty) : CallsF Tryz.prog 161 [.agg (tyC a),.one (.sli 0 1 1)] (saF b) (.ret (.v (vI (saV a b)))):=by
 refine CallsF.mk true Tryz.func161 kq kq (fun ρ w=>V.lit ?_)
 refine V.q ?_
 refine V.iter ?_
 refine V.q ?_
 refine V.known 10 (decide ((0 : Int) < 1)) true kq rfl ?_
 refine V.q ?_
 refine V.branch 17 (b.k != a.k) kq (fun h=>?_) (fun h=>?_)
 ·have e : saV a b = 5:=by simp only [bne_iff_ne] at h; simp only [saV]; rw [if_neg (fun e=>h e.symm)]
  rw [e]
  refine V.q ?_
  exact V.retO kq kq kq
 have h : b.k = a.k:=by simpa using h
 have e : saV a b = 0:=by simp only [saV]; rw [if_pos h.symm]
 rw [e]
 refine V.q ?_
 refine V.iter ?_
 refine V.q ?_
 refine V.known 10 (decide ((1 : Int) < 1)) false kq rfl ?_
 refine V.q ?_
 exact V.retO kq kq kq
end Go.Proofs
end
section
namespace Go.SX
open Go
theorem plainB_ok2 {x : SV} (h : plainB x = true) : x.plain:=by cases x <;> first | trivial | cases h
theorem plain_den0 {l : List SV} (h : l.all plainB = true) (ρ : Nat → Nat) : l.map (SV.den ρ) = l.map SV.den0 :=
 List.map_congr_left fun x hx=>SV.plain_den (plainB_ok2 (List.all_eq_true.1 h x hx)) _
theorem FSat_one {C : Ctx} {ρ : Nat → Nat} {s : St} {a : Act} {w : World} (hS : Sat C ρ s a w) {b : Nat} {blk : Blk} (hb : SX.look s.heap b = some blk) (hp : blk.cells.all plainB = true) {cs : List SV} (hc : cs.all plainB = true) (he : cs.map SV.den0 = blk.cells.map SV.den0) {e : TypeId} (hel : blk.elem = e) (rw : Bool) :
  FSat (fun _=>ρ b) { stP [] with heap:=[(0,⟨cs,e,rw⟩)],next:=1 } w:=by
 obtain ⟨h1,h2,h3,_⟩:=hS.heap b blk hb
 refine ⟨fun k kb hk=>?_,fun k c hk hc _=>?_,fun k hk=>hS.lt b h1,(fun r R h=>by cases h),(fun r r' R R' h=>by cases h),fun p hp=>absurd hp List.not_mem_nil⟩
 ·simp only [SX.look] at hk
  split at hk
  ·rename_i e
   cases hk
   have:=(beq_iff _ _).1 e
   subst this
   refine ⟨Nat.zero_lt_one,?_,fun x hx=>?_⟩
   ·rw [h2,hel,plain_den0 hp,plain_den0 hc,he]
   ·have:=plainB_ok2 (List.all_eq_true.1 hc x hx)
    cases x <;> first | trivial | cases this
  ·cases hk
 ·have h1 : k < 1:=hk
  have h2 : c < 1:=hc
  omega
end Go.SX
namespace Go.Proofs
open Go Go.SX
set_option maxRecDepth 10000
set_option maxHeartbeats 4000000
noncomputable def evA : List CV → Option RV
 | [x]=>match tyOf x with
  | some t=>some (.v (vI (vN fckX t)))
  | none=>none
 | _=>none
def evB (s : St) : List CV → Option RV
 | [x,.one (.sli b 1 1)]=>match tyOf x,SX.look s.heap b with
  | some t,some blk=>match tyOf (.agg blk.cells),Nat.beq blk.elem 26 with
   | some u,true=>some (.v (vI (saV t u)))
   | _,_=>none
  | _,_=>none
 | _=>none
def evC (s : St) : List CV → Option RV
 | [.one (.sli b 3 3)]=>match SX.look s.heap b with
  | some blk=>match blk.cells,Nat.beq blk.elem 28 with
   | [.int .i64 x,.int .i64 y,.int .i64 z],true=>some (.v (vI (fiV x y z)))
   | _,_=>none
  | none=>none
 | _=>none
noncomputable def evFx : EvT:=fun f xs s =>
 match Nat.beq f 160 with
 | true=>evA xs
 | false=>match Nat.beq f 161 with
  | true=>evB s xs
  | false=>match Nat.beq f 159 with
   | true=>evC s xs
   | false=>none
theorem tyOf_agg {l : List SV} {t : Ty} (h : tyOf (.agg l) = some t) : l.all plainB = true ∧ l.map SV.den0 = (tyC t).map SV.den0:=by
 unfold tyOf at h
 split at h
 ·rename_i e; cases e; cases h; exact ⟨rfl,rfl⟩
 ·rename_i e; cases e; cases h; exact ⟨rfl,rfl⟩
 ·cases h
theorem evFx_ok : EvOk Tryz.prog evFx:=by
 refine ⟨fun f xs s v h=>?_,fun f xs s v h=>?_,fun f xs s v h C hC ρ a w hS hx=>?_⟩
 ·unfold evFx at h
  split at h
  ·rename_i e; rw [(beq_iff _ _).1 e]; kernel_rfl
  ·split at h
   ·rename_i e; rw [(beq_iff _ _).1 e]; kernel_rfl
   ·split at h
    ·rename_i e; rw [(beq_iff _ _).1 e]; kernel_rfl
    ·cases h
 ·unfold evFx at h
  split at h
  ·unfold evA at h
   repeat' split at h
   all_goals first | cases h; rfl | cases h
  ·split at h
   ·unfold evB at h
    repeat' split at h
    all_goals first | cases h; rfl | cases h
   ·split at h
    ·unfold evC at h
     repeat' split at h
     all_goals first | cases h; rfl | cases h
    ·cases h
 ·unfold evFx at h
  split at h
  ·rename_i e
   have e:=(beq_iff _ _).1 e
   subst e
   unfold evA at h
   split at h
   case h_2=>cases h
   rename_i x
   split at h
   case h_2=>cases h
   rename_i t ht
   cases h
   have:=(vN_ok fckX t trivial).1 ρ w (FSat_stP fun p hp=>absurd hp List.not_mem_nil)
   rw [show [x].map (CV.den ρ) = (arg1T t).map (CV.den ρ) from by simp only [arg1T,List.map_cons,List.map_nil,tyOf_den ht ρ]]
   exact this
  split at h
  ·rename_i e
   have e:=(beq_iff _ _).1 e
   subst e
   unfold evB at h
   split at h
   case h_2=>cases h
   rename_i x b
   split at h
   case h_2=>cases h
   rename_i t blk ht hb
   split at h
   case h_2=>cases h
   rename_i u hu hel
   cases h
   obtain ⟨h1,h2⟩:=tyOf_agg hu
   have:=saX t u (fun _=>ρ b) w (FSat_one hS hb h1 rfl h2.symm ((beq_iff _ _).1 hel) true)
   rw [show [x,.one (.sli b 1 1)].map (CV.den ρ) = ([.agg (tyC t),.one (.sli 0 1 1)] : List CV).map (CV.den fun _=>ρ b) from by
    simp only [List.map_cons,List.map_nil,tyOf_den ht ρ]; rfl]
   exact this
  split at h
  ·rename_i e
   have e:=(beq_iff _ _).1 e
   subst e
   unfold evC at h
   split at h
   case h_2=>cases h
   rename_i b
   split at h
   case h_2=>cases h
   rename_i blk hb
   split at h
   case h_2=>cases h
   rename_i x y z hc hel
   cases h
   have:=fiX x y z (fun _=>ρ b) w (FSat_one hS hb (by rw [hc]; rfl) rfl (by rw [hc]) ((beq_iff _ _).1 hel) true)
   exact this
  ·cases h
end Go.Proofs
end
section
namespace Go.SX
open Go
theorem VX.ev {C : Ctx} {T : List Nat} {L : Nat} {c0 : Cfg} {ev : EvT} {d : DCfg} (hev : EvOk C.P ev) (i : Nat) (hr : Region.ready .any (dOps c0) d.listed = [i]) (hs : (callE C.P ev c0 d i).isSome = true) (h : VX C T [] L c0 ((callE C.P ev c0 d i).getD d)) : VX C T [] L c0 d:=by
 cases hx : callE C.P ev c0 d i with
 | none=>rw [hx] at hs; cases hs
 | some d2=>rw [hx] at h; exact (callE_ok (T:=T) (L:=L) hev hr hx).2.2 h
end Go.SX
namespace Go.Proofs
open Go Go.SX
set_option maxRecDepth 10000
set_option maxHeartbeats 4000000
def zc : List SV:=[.int .i64 0,.int .i64 0,.int .i64 0,.bool false,.str []]
def p6St (op : Int) (a b : Ty) : St :=
 { n:=39,slots:=[(0,.v (vI op)),(4,.v (.one (.ptr 0 0))),(5,.v (.one (.ptr 1 0))),(6,.v (.one (.ptr 2 0)))],gs:=[],
    heap:=[(0,⟨tyC a,26,true⟩),(1,⟨tyC b,26,true⟩),(2,⟨zc,26,true⟩)],next:=3,rows:=[],nr:=0,pers:=[],wr:=false,fx:=0 }
def p7St (op : Int) (a b : Ty) (e : Int) : St :=
 { n:=39,slots:=[(0,.v (vI op)),(4,.v (.one (.ptr 0 0))),(5,.v (.one (.ptr 1 0))),(6,.v (.one (.ptr 2 0))),(10,.v (vI e))],gs:=[],
    heap:=[(0,⟨tyC a,26,true⟩),(1,⟨tyC b,26,true⟩),(2,⟨zc,26,true⟩)],next:=3,rows:=[],nr:=0,pers:=[],wr:=false,fx:=0 }
noncomputable def TF : List (Ent Tryz.prog):=[cOper.e,cFck.e,cFre.e]
noncomputable def p6T : List Item:=(leafN (treeX Tryz.prog 90 TF 69 40 (entO Tryz.f90 (arg3T (5,Ty0,Ty0)))) 0 (entO Tryz.f90 (arg3T (5,Ty0,Ty0)))).todo
noncomputable def p6C (op : Int) (a b : Ty) : Cfg:=⟨p6T,p6St op a b⟩
noncomputable def p7T : List Item:=dK (p6C 5 Ty0 Ty0)
noncomputable def p7C (op : Int) (a b : Ty) (e : Int) : Cfg:=⟨p7T,p7St op a b e⟩
noncomputable def p6E (a b : Ty) : Int:=fiV (vN fckX a) (vN fckX b) (saV a b)
theorem p6 {op : Int} {a b : Ty} {ρ base : Nat → Nat} {w : World} {o : Out} (k : V (ctxO Tryz.prog 90 ρ o w base) (p7C op a b (p6E a b))) : V (ctxO Tryz.prog 90 ρ o w base) (p6C op a b):=by
 refine V.drawX [] [] 11 kq ?_
 refine @VX.run _ [] [] 11 _ _ ([] : List (Ent Tryz.prog)) [] kq kq trivial ?_
 refine @VX.two _ [] [] 11 _ _ ([cFck.e] : List (Ent Tryz.prog)) [fckQ a] 1 6 kq kq kq kq kq trivial ?_ ?_
 ·refine @VX.run _ [] [] 11 _ _ ([] : List (Ent Tryz.prog)) [] kq kq trivial ?_
  refine @VX.two _ [] [] 11 _ _ ([cFck.e] : List (Ent Tryz.prog)) [fckQ b] 3 6 kq kq kq kq kq trivial ?_ ?_
  ·refine @VX.run _ [] [] 11 _ _ ([] : List (Ent Tryz.prog)) [] kq kq trivial ?_
   refine VX.ev evFx_ok 7 kq kq ?_
   refine @VX.run _ [] [] 11 _ _ ([] : List (Ent Tryz.prog)) [] kq kq trivial ?_
   refine VX.ev evFx_ok 9 kq kq ?_
   refine @VX.run _ [] [] 11 _ _ ([] : List (Ent Tryz.prog)) [] kq kq trivial ?_
   refine @VX.stop _ [] [] 11 _ _ kq ?_
   exact V.nrm (V.backK [0,4,5,6,10] [] k kq kq)
  ·refine @VX.run _ [] [] 11 _ _ ([] : List (Ent Tryz.prog)) [] kq kq trivial ?_
   refine VX.ev evFx_ok 3 kq kq ?_
   refine @VX.run _ [] [] 11 _ _ ([] : List (Ent Tryz.prog)) [] kq kq trivial ?_
   refine VX.ev evFx_ok 7 kq kq ?_
   refine @VX.run _ [] [] 11 _ _ ([] : List (Ent Tryz.prog)) [] kq kq trivial ?_
   refine VX.ev evFx_ok 9 kq kq ?_
   refine @VX.run _ [] [] 11 _ _ ([] : List (Ent Tryz.prog)) [] kq kq trivial ?_
   refine @VX.stop _ [] [] 11 _ _ kq ?_
   exact V.nrm (V.backK [0,4,5,6,10] [] k kq kq)
 ·refine @VX.run _ [] [] 11 _ _ ([] : List (Ent Tryz.prog)) [] kq kq trivial ?_
  refine VX.ev evFx_ok 1 kq kq ?_
  refine @VX.run _ [] [] 11 _ _ ([] : List (Ent Tryz.prog)) [] kq kq trivial ?_
  refine VX.ev evFx_ok 3 kq kq ?_
  refine @VX.run _ [] [] 11 _ _ ([] : List (Ent Tryz.prog)) [] kq kq trivial ?_
  refine VX.ev evFx_ok 7 kq kq ?_
  refine @VX.run _ [] [] 11 _ _ ([] : List (Ent Tryz.prog)) [] kq kq trivial ?_
  refine VX.ev evFx_ok 9 kq kq ?_
  refine @VX.run _ [] [] 11 _ _ ([] : List (Ent Tryz.prog)) [] kq kq trivial ?_
  refine @VX.stop _ [] [] 11 _ _ kq ?_
  exact V.nrm (V.backK [0,4,5,6,10] [] k kq kq)
end Go.Proofs
end
section
namespace Go.Proofs
open Go Go.SX
set_option maxRecDepth 10000
set_option maxHeartbeats 4000000
inductive pfI where
 | e (a : Int × Ty × Ty)
 | m (op : Int) (a b : Ty) (e : Int)
noncomputable def pfC : pfI → Unit → Cfg
 | .e a,_=>entO Tryz.f90 (arg3T a)
 | .m op a b e,_=>p7C op a b e
def opB (op : Int) : Bool:=bif op == 5 then true else bif op == 11 then true else bif op == 6 then true else bif op == 7 then true else bif op == 8 then true else bif op == 9 then true else bif op == 10 then true else bif op == 12 then true else bif op == 13 then true else false
def unB (op : Int) : Bool:=bif op == 5 then true else bif op == 11 then true else bif op == 6 then false else bif op == 7 then false else bif op == 8 then false else bif op == 9 then false else bif op == 10 then false else bif op == 12 then false else bif op == 13 then false else false
theorem opB_iff (op : Int) : opB op = true ↔ 5 ≤ op ∧ op ≤ 13:=by
 simp only [opB,Bool.cond_eq_ite,beq_iff_eq]
 grind
theorem unB_iff (op : Int) : unB op = true ↔ op = 5 ∨ op = 11:=by
 simp only [unB,Bool.cond_eq_ite,beq_iff_eq]
 grind
noncomputable def pfS : pfI → Sh
 | .e a=>.cond (!opB a.1) (.ret (rsT (Ty0,1))) (.cond (unB a.1) .leaf .leaf)
 | .m op a b e=>.cond (e != 0) (.ret (rsT (Ty0,e))) (.ob [freQ (op,a,b)] (.ret (rsT (vN freX (op,a,b),0))))
noncomputable def pfN : pfI → Nat → pfI ⊕ Out
 | .e a,0=>.inl (.m a.1 a.2.1 a.2.1 (p6E a.2.1 a.2.1))
 | .e a,_=>.inl (.m a.1 a.2.1 a.2.2 (p6E a.2.1 a.2.2))
 | .m op a b e,_=>.inl (.m op a b e)
def pfM : pfI → Nat
 | .e a=>2
 | .m op a b e=>1
def pfP (a0 : Int × Ty × Ty) : pfI → Prop
 | .e a=>a = a0
 | .m op a b e=>op = a0.1 ∧ a = a0.2.1 ∧ 5 ≤ op ∧ op ≤ 13 ∧ (op = 5 ∨ op = 11 → b = a) ∧ (¬ (op = 5 ∨ op = 11) → b = a0.2.2) ∧ e = p6E a b
theorem pfX : ExN Tryz.prog 90 [] arg3T rsT (fun _=>True) (fun a r=>tyQ (fxS a.1 a.2.1 a.2.2) r):=by
 intro a0 _
 suffices h : ∃ o,(∃ r,o = .ret (rsT r) ∧ tyQ (fxS a0.1 a0.2.1 a0.2.2) r) ∧ ∀ x ρ base w,V (ctxO Tryz.prog 90 ρ o w base) (pfC (.e a0) x) by
  obtain ⟨o,h1,h2⟩:=h
  exact CallsF.ofV false Tryz.func90 kq kq ⟨o,h1,fun ρ base w=>h2 () ρ base w⟩
 refine cutsX hMu kq (T:=TF) 40 pfC pfS pfN pfM (pfP a0) (fun o=>∃ r,o = .ret (rsT r) ∧ tyQ (fxS a0.1 a0.2.1 a0.2.2) r) (fun i x=>by cases i <;> kernel_rfl) (fun i x=>by cases i <;> kernel_rfl) ?_ (fun i x j hi hj=>?_) _ (.e a0) (Nat.lt_succ_self _) rfl
 ·intro i hi
  cases i with
  | e a =>
   have hi : a = a0:=hi
   subst hi
   have o1:=opB_iff a.1
   have o2:=unB_iff a.1
   refine ⟨fun h=>⟨⟨(Ty0,1),rfl,st_q (fun t ht=>?_) (fun ht=>⟨rfl,by decide⟩)⟩,rfl⟩,fun h=>⟨fun h2=>?_,fun h2=>?_⟩⟩
   ·simp only [fxS] at ht; grind
   ·have h3:=o2.1 h2
    have h4 : 5 ≤ a.1 ∧ a.1 ≤ 13:=by omega
    exact ⟨⟨rfl,rfl,h4.1,h4.2,fun _=>rfl,fun hn=>absurd h3 hn,rfl⟩,Nat.lt_succ_self _⟩
   ·have h3 : ¬ (a.1 = 5 ∨ a.1 = 11):=fun e=>by rw [o2.2 e] at h2; cases h2
    have h4:=o1.1 (by simpa using h)
    exact ⟨⟨rfl,rfl,h4.1,h4.2,fun hn=>absurd hn h3,fun _=>rfl,rfl⟩,Nat.lt_succ_self _⟩
  | m op a b e =>
   obtain ⟨g1,g2,g3,g4,g5,g6,g7⟩:=hi
   have ka:=(vN_ok fckX a trivial).2
   have kb:=(vN_ok fckX b trivial).2
   have hfx : (e ≠ 0 → fxS a0.1 a0.2.1 a0.2.2 = none) ∧ (e = 0 → freQ (op,a,b) ∧ fxS a0.1 a0.2.1 a0.2.2 = some (fxT op a b)):=by
    subst g1; subst g2; subst g7
    simp only [p6E,fiV,saV,fxS,freQ,fxP]
    grind (splits:=30)
   refine ⟨fun h=>⟨⟨(Ty0,e),rfl,?_⟩,rfl⟩,fun h=>?_⟩
   ·have h : e ≠ 0:=by simpa using h
    rw [hfx.1 h]
    exact ⟨rfl,h⟩
   ·have h : e = 0:=by simpa using h
    obtain ⟨q1,q2⟩:=hfx.2 h
    refine ⟨q1,⟨(vN freX (op,a,b),0),rfl,?_⟩,rfl⟩
    rw [q2,(vN_ok freX (op,a,b) q1).2]
    rfl
 ·cases i with
  | e a=>match j,hj with
   | 0,_=>exact fun ρ base w o k=>V.nrm (V.backK [0,4,5,6] [] (p6 (k ())) kq kq)
   | 1,_=>exact fun ρ base w o k=>V.nrm (V.backK [0,4,5,6] [] (p6 (k ())) kq kq)
  | m op a b e=>exact absurd hj (Nat.not_lt_zero _)
noncomputable def cPfx : Con Tryz.prog:=Con.exN pfX un3T un3T_den
set_option maxHeartbeats 4000000
def cBad (f : FuncId) : Con Tryz.prog where
 f:=f
 need:=[]
 fn:=fun _=>some (.v (vI 0),[False])
 ok:=fun xs v ob h ho=>by cases h; exact (ho False (List.mem_singleton.2 rfl)).elim
def pctQ (a : Ty) : Prop:=a.k ≠ 5
inductive pctI where
 | e (a : Ty)
noncomputable def pctC : pctI → Cfg
 | .e a=>entO Tryz.f157 (arg1T a)
noncomputable def pctS : pctI → Sh
 | .e a=>(.cond (a.k == 1 || a.k == 2) (.ob [fckQ a] (.ret (RV.v (CV.one (SV.int IntKind.i64 (vN fckX a)))))) (.cond (a.k == 3) (.cond (!(decide (a.p ≥ 0) && decide (a.p ≤ 255)) || !(a.k == a.k && (a.p == a.p && (a.q == 0 && (a.v == a.v && a.s == ([] : List UInt8)))))) (.ret (RV.v (CV.one (SV.int IntKind.i64 5)))) (.ret (RV.v (CV.one (SV.int IntKind.i64 0))))) (.cond (a.k == 4) (.cond (!(decide (a.p ≥ 0) && decide (a.p ≤ 64)) || !(a.k == a.k && (a.p == a.p && (a.q == 0 && (a.v == false && a.s == ([] : List UInt8)))))) (.ret (RV.v (CV.one (SV.int IntKind.i64 5)))) (.ret (RV.v (CV.one (SV.int IntKind.i64 0))))) (.cond (a.k == 5) (.ob [(a.p == 0) = true → False] (.cond (!(a.p == 0 && 0 == 0) || !(a.k == a.k && (a.p == a.p && (a.q == 0 && (a.v == false && a.s == a.s))))) (.ret (RV.v (CV.one (SV.int IntKind.i64 5)))) (.ret (RV.v (CV.one (SV.int IntKind.i64 0)))))) (.cond (a.k == 6) (.cond (!a.p == 0 || !(a.k == a.k && (a.p == a.p && (a.q == 0 && (a.v == false && a.s == ([] : List UInt8)))))) (.ret (RV.v (CV.one (SV.int IntKind.i64 5)))) (.ret (RV.v (CV.one (SV.int IntKind.i64 0))))) (.cond (a.k == 7) (.ob [(8 : Int) ≠ 0] (.cond (!(a.p.tmod 8 == 0 && decide (a.p ≥ 16) && decide (a.p ≤ 4096)) || !(a.k == a.k && (a.p == a.p && (a.q == 0 && (a.v == false && a.s == ([] : List UInt8)))))) (.ret (RV.v (CV.one (SV.int IntKind.i64 5)))) (.ret (RV.v (CV.one (SV.int IntKind.i64 0)))))) (.ret (RV.v (CV.one (SV.int IntKind.i64 5))))))))))
noncomputable def pctN : pctI → Nat → pctI
 | .e a,_=>.e a
def pctK : pctI → List Nat
 | .e _=>[]
def pctM : pctI → Nat
 | .e a=>1
def pctP (a0 : Ty) : pctI → Prop
 | .e a=>a = a0 ∧ a.k ≠ 5
theorem pctX : ExN Tryz.prog 157 [] arg1T (fun r=>.v (vI r)) pctQ (fun a r=>a.k ≠ 7 → (r = 0 ↔ ArOK a ∨ ChOK a ∨ BtOK a ∨ PtOK a)):=by
 intro a0 ha
 refine CallsF.ofV false Tryz.func157 kq kq (cuts hMu kq (T:=[cArith2.e,cFck.e,(cBad 218).e]) 40 pctC pctS pctN pctK (fun _=>[]) pctM (pctP a0) _ (fun i=>by cases i <;> kernel_rfl) (fun i=>by cases i <;> kernel_rfl) ?_ (fun i j hj=>?_) _ (.e a0) (Nat.lt_succ_self _) ⟨rfl,ha⟩)
 ·intro i hi
  cases i with
  | e a =>
   simp only [pctP] at hi
   obtain ⟨rfl,hi⟩:=hi
   refine ⟨fun h0=>?_,fun h0=>?_⟩
   ·(try simp only [Bool.or_eq_true,Bool.and_eq_true,Bool.or_eq_false_iff,Bool.and_eq_false_iff,beq_iff_eq,beq_eq_false_iff_ne,bne_iff_ne,decide_eq_true_eq,decide_eq_false_iff_not,ne_eq] at h0)
    have o1 : fckQ a:=trivial
    have f1:=(vN_ok fckX a o1).2
    (try simp only at f1)
    refine ⟨o1,?_⟩
    exact ⟨⟨(vN fckX a),rfl,by first | grind | (simp only [ChOK,ArOK,BtOK,PtOK] at *; grind)⟩,rfl⟩
   ·(try simp only [Bool.or_eq_true,Bool.and_eq_true,Bool.or_eq_false_iff,Bool.and_eq_false_iff,beq_iff_eq,beq_eq_false_iff_ne,bne_iff_ne,decide_eq_true_eq,decide_eq_false_iff_not,ne_eq] at h0)
    refine ⟨fun h1=>?_,fun h1=>?_⟩
    ·(try simp only [Bool.or_eq_true,Bool.and_eq_true,Bool.or_eq_false_iff,Bool.and_eq_false_iff,beq_iff_eq,beq_eq_false_iff_ne,bne_iff_ne,decide_eq_true_eq,decide_eq_false_iff_not,ne_eq] at h1)
     refine ⟨fun h2=>?_,fun h2=>?_⟩
     ·(try simp only [Bool.or_eq_true,Bool.and_eq_true,Bool.or_eq_false_iff,Bool.and_eq_false_iff,beq_iff_eq,beq_eq_false_iff_ne,bne_iff_ne,decide_eq_true_eq,decide_eq_false_iff_not,ne_eq] at h2)
      exact ⟨⟨5,rfl,by first | grind | (simp only [ChOK,ArOK,BtOK,PtOK] at *; grind)⟩,rfl⟩
     ·(try simp only [Bool.or_eq_true,Bool.and_eq_true,Bool.or_eq_false_iff,Bool.and_eq_false_iff,beq_iff_eq,beq_eq_false_iff_ne,bne_iff_ne,decide_eq_true_eq,decide_eq_false_iff_not,ne_eq] at h2)
      exact ⟨⟨0,rfl,by first | grind | (simp only [ChOK,ArOK,BtOK,PtOK] at *; grind)⟩,rfl⟩
    ·(try simp only [Bool.or_eq_true,Bool.and_eq_true,Bool.or_eq_false_iff,Bool.and_eq_false_iff,beq_iff_eq,beq_eq_false_iff_ne,bne_iff_ne,decide_eq_true_eq,decide_eq_false_iff_not,ne_eq] at h1)
     refine ⟨fun h2=>?_,fun h2=>?_⟩
     ·(try simp only [Bool.or_eq_true,Bool.and_eq_true,Bool.or_eq_false_iff,Bool.and_eq_false_iff,beq_iff_eq,beq_eq_false_iff_ne,bne_iff_ne,decide_eq_true_eq,decide_eq_false_iff_not,ne_eq] at h2)
      refine ⟨fun h3=>?_,fun h3=>?_⟩
      ·(try simp only [Bool.or_eq_true,Bool.and_eq_true,Bool.or_eq_false_iff,Bool.and_eq_false_iff,beq_iff_eq,beq_eq_false_iff_ne,bne_iff_ne,decide_eq_true_eq,decide_eq_false_iff_not,ne_eq] at h3)
       exact ⟨⟨5,rfl,by first | grind | (simp only [ChOK,ArOK,BtOK,PtOK] at *; grind)⟩,rfl⟩
      ·(try simp only [Bool.or_eq_true,Bool.and_eq_true,Bool.or_eq_false_iff,Bool.and_eq_false_iff,beq_iff_eq,beq_eq_false_iff_ne,bne_iff_ne,decide_eq_true_eq,decide_eq_false_iff_not,ne_eq] at h3)
       exact ⟨⟨0,rfl,by first | grind | (simp only [ChOK,ArOK,BtOK,PtOK] at *; grind)⟩,rfl⟩
     ·(try simp only [Bool.or_eq_true,Bool.and_eq_true,Bool.or_eq_false_iff,Bool.and_eq_false_iff,beq_iff_eq,beq_eq_false_iff_ne,bne_iff_ne,decide_eq_true_eq,decide_eq_false_iff_not,ne_eq] at h2)
      refine ⟨fun h3=>?_,fun h3=>?_⟩
      ·(try simp only [Bool.or_eq_true,Bool.and_eq_true,Bool.or_eq_false_iff,Bool.and_eq_false_iff,beq_iff_eq,beq_eq_false_iff_ne,bne_iff_ne,decide_eq_true_eq,decide_eq_false_iff_not,ne_eq] at h3)
       have o2 : (a.p == 0) = true → False:=by grind
       refine ⟨o2,?_⟩
       refine ⟨fun h4=>?_,fun h4=>?_⟩
       ·(try simp only [Bool.or_eq_true,Bool.and_eq_true,Bool.or_eq_false_iff,Bool.and_eq_false_iff,beq_iff_eq,beq_eq_false_iff_ne,bne_iff_ne,decide_eq_true_eq,decide_eq_false_iff_not,ne_eq] at h4)
        exact ⟨⟨5,rfl,by first | grind | (simp only [ChOK,ArOK,BtOK,PtOK] at *; grind)⟩,rfl⟩
       ·(try simp only [Bool.or_eq_true,Bool.and_eq_true,Bool.or_eq_false_iff,Bool.and_eq_false_iff,beq_iff_eq,beq_eq_false_iff_ne,bne_iff_ne,decide_eq_true_eq,decide_eq_false_iff_not,ne_eq] at h4)
        exact ⟨⟨0,rfl,by first | grind | (simp only [ChOK,ArOK,BtOK,PtOK] at *; grind)⟩,rfl⟩
      ·(try simp only [Bool.or_eq_true,Bool.and_eq_true,Bool.or_eq_false_iff,Bool.and_eq_false_iff,beq_iff_eq,beq_eq_false_iff_ne,bne_iff_ne,decide_eq_true_eq,decide_eq_false_iff_not,ne_eq] at h3)
       refine ⟨fun h4=>?_,fun h4=>?_⟩
       ·(try simp only [Bool.or_eq_true,Bool.and_eq_true,Bool.or_eq_false_iff,Bool.and_eq_false_iff,beq_iff_eq,beq_eq_false_iff_ne,bne_iff_ne,decide_eq_true_eq,decide_eq_false_iff_not,ne_eq] at h4)
        refine ⟨fun h5=>?_,fun h5=>?_⟩
        ·(try simp only [Bool.or_eq_true,Bool.and_eq_true,Bool.or_eq_false_iff,Bool.and_eq_false_iff,beq_iff_eq,beq_eq_false_iff_ne,bne_iff_ne,decide_eq_true_eq,decide_eq_false_iff_not,ne_eq] at h5)
         exact ⟨⟨5,rfl,by first | grind | (simp only [ChOK,ArOK,BtOK,PtOK] at *; grind)⟩,rfl⟩
        ·(try simp only [Bool.or_eq_true,Bool.and_eq_true,Bool.or_eq_false_iff,Bool.and_eq_false_iff,beq_iff_eq,beq_eq_false_iff_ne,bne_iff_ne,decide_eq_true_eq,decide_eq_false_iff_not,ne_eq] at h5)
         exact ⟨⟨0,rfl,by first | grind | (simp only [ChOK,ArOK,BtOK,PtOK] at *; grind)⟩,rfl⟩
       ·(try simp only [Bool.or_eq_true,Bool.and_eq_true,Bool.or_eq_false_iff,Bool.and_eq_false_iff,beq_iff_eq,beq_eq_false_iff_ne,bne_iff_ne,decide_eq_true_eq,decide_eq_false_iff_not,ne_eq] at h4)
        refine ⟨fun h5=>?_,fun h5=>?_⟩
        ·(try simp only [Bool.or_eq_true,Bool.and_eq_true,Bool.or_eq_false_iff,Bool.and_eq_false_iff,beq_iff_eq,beq_eq_false_iff_ne,bne_iff_ne,decide_eq_true_eq,decide_eq_false_iff_not,ne_eq] at h5)
         have o3 : (8 : Int) ≠ 0:=by first | decide | exact fun _=>by decide
         refine ⟨o3,?_⟩
         refine ⟨fun h6=>?_,fun h6=>?_⟩
         ·(try simp only [Bool.or_eq_true,Bool.and_eq_true,Bool.or_eq_false_iff,Bool.and_eq_false_iff,beq_iff_eq,beq_eq_false_iff_ne,bne_iff_ne,decide_eq_true_eq,decide_eq_false_iff_not,ne_eq] at h6)
          exact ⟨⟨5,rfl,by first | grind | (simp only [ChOK,ArOK,BtOK,PtOK] at *; grind)⟩,rfl⟩
         ·(try simp only [Bool.or_eq_true,Bool.and_eq_true,Bool.or_eq_false_iff,Bool.and_eq_false_iff,beq_iff_eq,beq_eq_false_iff_ne,bne_iff_ne,decide_eq_true_eq,decide_eq_false_iff_not,ne_eq] at h6)
          exact ⟨⟨0,rfl,by first | grind | (simp only [ChOK,ArOK,BtOK,PtOK] at *; grind)⟩,rfl⟩
        ·(try simp only [Bool.or_eq_true,Bool.and_eq_true,Bool.or_eq_false_iff,Bool.and_eq_false_iff,beq_iff_eq,beq_eq_false_iff_ne,bne_iff_ne,decide_eq_true_eq,decide_eq_false_iff_not,ne_eq] at h5)
         exact ⟨⟨5,rfl,by first | grind | (simp only [ChOK,ArOK,BtOK,PtOK] at *; grind)⟩,rfl⟩
 ·cases i with
  | e a=>exact absurd hj (Nat.not_lt_zero _)
noncomputable def cPct : Con Tryz.prog:=Con.exN pctX un1T un1T_den
set_option maxHeartbeats 4000000
def pscQ (a : Ty) : Prop:=a.k ≠ 5
inductive pscI where
 | e (a : Ty)
noncomputable def pscC : pscI → Cfg
 | .e a=>entO Tryz.f89 (arg1T a)
noncomputable def pscS : pscI → Sh
 | .e a=>(.ob [(a.k != 7) = true → pctQ a] (.ret (RV.v (CV.one (SV.sb (a.k != 7 && vN pctX a == 0))))))
noncomputable def pscN : pscI → Nat → pscI
 | .e a,_=>.e a
def pscK : pscI → List Nat
 | .e _=>[]
def pscM : pscI → Nat
 | .e a=>1
def pscP (a0 : Ty) : pscI → Prop
 | .e a=>a = a0 ∧ a.k ≠ 5
theorem pscX : ExN Tryz.prog 89 [] arg1T (fun r=>.v (vT r)) pscQ (fun a r=>(r = true ↔ ArOK a ∨ ChOK a ∨ BtOK a ∨ PtOK a)):=by
 intro a0 ha
 refine CallsF.ofV false Tryz.func89 kq kq (cuts hMu kq (T:=[cPct.e]) 40 pscC pscS pscN pscK (fun _=>[]) pscM (pscP a0) _ (fun i=>by cases i <;> kernel_rfl) (fun i=>by cases i <;> kernel_rfl) ?_ (fun i j hj=>?_) _ (.e a0) (Nat.lt_succ_self _) ⟨rfl,ha⟩)
 ·intro i hi
  cases i with
  | e a =>
   simp only [pscP] at hi
   obtain ⟨rfl,hi⟩:=hi
   have kp:=(vN_ok pctX a hi).2
   have o1 : (a.k != 7) = true → pctQ a:=by first | exact hi | exact fun _=>hi
   refine ⟨o1,?_⟩
   exact ⟨⟨(a.k != 7 && vN pctX a == 0),rfl,by first | grind | (simp only [ChOK,ArOK,BtOK,PtOK] at *; grind)⟩,rfl⟩
 ·cases i with
  | e a=>exact absurd hj (Nat.not_lt_zero _)
noncomputable def cPsc : Con Tryz.prog:=Con.exN pscX un1T un1T_den
set_option maxHeartbeats 4000000
def rskQ (L : LsA) (a : Int × SlA) : Prop:=a.2 = L.sl ∧ L.l.length ≤ 1000000
def argOT (a : Int × SlA) : List CV:=[vI a.1,a.2.v]
theorem rskX (L : LsA) : ExN Tryz.prog 43 L.need argOT rsT (rskQ L) (fun a r=>tyQ (stS a.1 L.l) r):=by
 rintro ⟨op,s⟩ ⟨h1,h2⟩
 simp only at h1
 subst h1
 exact rstX L op h2
def unOT : List CV → Option (Int × SlA)
 | [.one (.int .i64 n),x]=>match slOf x with
  | some s=>some (n,s)
  | none=>none
 | _=>none
theorem unOT_den (xs : List CV) (a : Int × SlA) (h : unOT xs = some a) (ρ : Nat → Nat) : xs.map (CV.den ρ) = (argOT a).map (CV.den ρ):=by
 unfold unOT at h
 split at h
 case h_2=>cases h
 split at h
 case h_2=>cases h
 rename_i h1
 cases h
 simp only [argOT,List.map_cons,List.map_nil,slOf_den h1 ρ]
noncomputable def cRsk (L : LsA) : Con Tryz.prog:=Con.exN (rskX L) unOT unOT_den
noncomputable def cNumR : Con Tryz.prog:=Con.auto Tryz.func40 true [] [] kq kq
noncomputable def cOnlyR : Con Tryz.prog:=Con.auto Tryz.func42 true [] [] kq kq
noncomputable def cBitR : Con Tryz.prog:=Con.auto Tryz.func44 true [] [] kq kq
noncomputable def ex0 {α β : Type} [Inhabited β] {P : Program} {f : FuncId} {need : List Pers} {arg : α → List CV} {res : β → RV} {pre : α → Prop} {Q : α → β → Prop} (h : ExN P f need arg res pre Q) (hp : ∀ a,pre a) (un : List CV → Option α) (hun : ∀ xs a,un xs = some a → ∀ ρ : Nat → Nat,xs.map (CV.den ρ) = (arg a).map (CV.den ρ)) : Con P where
 f:=f
 need:=need
 fn:=fun xs=>match un xs with
  | some a=>some (res (vN h a),[])
  | none=>none
 ok:=by
  intro xs v ob hx hob ρ w hps hl
  split at hx
  case h_2=>cases hx
  rename_i a ha
  cases hx
  rw [hun xs a ha ρ]
  exact (vN_ok h a (hp a)).1 ρ w (FSat_stP hps)
noncomputable def cRfx0 : Con Tryz.prog:=ex0 rfxX (fun _=>trivial) un3T un3T_den
noncomputable def cPfx0 : Con Tryz.prog:=ex0 pfX (fun _=>trivial) un3T un3T_den
noncomputable def evCon (T : List (Ent Tryz.prog)) : EvT:=fun f xs _=>match findE T f with
 | some e=>match entersB Tryz.prog f,(xs.map unrowC).all plainC,e.sp.need,e.sp.fn (xs.map unrowC) with
  | true,true,[],some (v,[])=>match plainR v with
   | true=>some v
   | false=>none
  | _,_,_,_=>none
 | none=>none
theorem evCon_ok (T : List (Ent Tryz.prog)) : EvOk Tryz.prog (evCon T):=by
 have main : ∀ f xs s v,evCon T f xs s = some v → entersB Tryz.prog f = true ∧ plainR v = true ∧ ∃ e ∈ T,e.sp.f = f ∧ (xs.map unrowC).all plainC = true ∧ e.sp.need = [] ∧ e.sp.fn (xs.map unrowC) = some (v,[]):=by
  intro f xs s v h
  unfold evCon at h
  split at h
  case h_2=>cases h
  rename_i e he
  split at h
  case h_2=>cases h
  rename_i h1 h2 h3 h4
  split at h
  case h_2=>cases h
  rename_i h5
  cases h
  obtain ⟨hm,hf⟩:=findE_mem he
  exact ⟨h1,h5,e,hm,hf,h2,h3,h4⟩
 refine ⟨fun f xs s v h=>(main f xs s v h).1,fun f xs s v h=>(main f xs s v h).2.1,fun f xs s v h C hC ρ a w hS hx=>?_⟩
 obtain ⟨_,_,e,hm,rfl,h2,h3,h4⟩:=main f xs s v h
 rw [← unrow_map ρ xs]
 refine e.sp.ok (xs.map unrowC) v [] h4 (fun p hp=>absurd hp List.not_mem_nil) ρ w (by rw [h3]; exact fun p hp=>absurd hp List.not_mem_nil) (fun x hx y hy=>?_)
 have hp:=List.all_eq_true.1 h2 x hx
 cases x with
 | one z=>rcases List.mem_singleton.1 hy with rfl; cases y <;> first | trivial | cases hp
 | agg zs =>
  have:=List.all_eq_true.1 hp y hy
  cases y <;> first | trivial | cases this
noncomputable def TE13 : List (Ent Tryz.prog):=[cNumR.e,cOnlyR.e,cRfx0.e,cBitR.e]
noncomputable def xt13 : Ext Tryz.prog:=⟨evCon TE13,[],fun _ _ _=>none,evCon_ok TE13,fun _ _ _ _ _ h=>by cases h⟩
noncomputable def T13 (L : LsA) : List (Ent Tryz.prog):=[cSca.e,cNumR.e,cOnlyR.e,cRfx0.e,cBitR.e,⟨cRsk L,[0]⟩]
inductive r13I where
 | e (a : Int × Int)
 | l (a : Int × Int) (i : Int)
section
variable (L : LsA)
def argR3 (a : Int × Int) : List CV:=[vI a.1,vI a.2,L.sl.v]
noncomputable def r13E (a : Int × Int) : Cfg:=entR L 2 Tryz.f13 (argR3 L a)
noncomputable def r13T : List Item:=(SX.iter (leafN (treeY Tryz.prog xt13 13 (T13 ⟨[],none,0⟩) 69 40 (r13E ⟨[],none,0⟩ (0,0))) 0 (r13E ⟨[],none,0⟩ (0,0)))).todo
def r13St (a : Int × Int) (i : Int) : St :=
 { n:=168,slots:=[(0,.v (vI a.1)),(1,.v (vI a.2)),(2,.v (.one (.row 0 L.q L.l.length L.c))),(6,.v (.one (.ptr 0 0))),(8,.v (vI i))],gs:=[],heap:=[(0,⟨[.int .i64 0,.int .i64 0,.int .i64 0,.bool false,.str []],26,true⟩)],next:=1,
    rows:=[(0,L.row)],nr:=1,pers:=L.need,wr:=false,fx:=0 }
noncomputable def r13C : r13I → Unit → Cfg
 | .e a,_=>r13E L a
 | .l a i,_=>⟨r13T,r13St L a i⟩
end
end Go.Proofs
end
