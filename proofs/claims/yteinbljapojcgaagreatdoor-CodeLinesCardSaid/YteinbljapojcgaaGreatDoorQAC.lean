/- A symbolic run of the program that Lean checks, and what the functions of the program come to by it: part 3 of 12. -/
import Derived.Maps.RangeRun
import Derived.Test.YteinbljapojcgaaGreatDoorQAB
set_option linter.unusedVariables false
section
namespace Go.SX
open Go
theorem FSat.congr {ρ ρ':Nat→Nat} {F:St} {w:World} (h:FSat ρ F w) (e:∀ b,b<F.next→ρ' b=ρ b):FSat ρ' F w:=by
 refine ⟨fun b blk hb=>?_,fun b c hb hc he=>h.inj b c hb hc (by rw [← e b hb,← e c hc]; exact he),fun b hb=>by rw [e b hb]; exact h.lt b hb,fun r R hR=>?_,h.rowsD,fun p hp=>?_⟩
 ·obtain ⟨h1,h2,h3⟩:=h.heap b blk hb;exact ⟨h1,by rw [e b h1,SV.den_map_congr (W:=F.W) e _ h3]; exact h2,h3⟩
 ·obtain ⟨h1,h2,h3⟩:=h.rows r R hR;exact ⟨h1,h2,fun k hk=>⟨(h3 k hk).1,fun b hb=>by rw [e b hb]; exact (h3 k hk).2 b hb⟩⟩
 ·obtain ⟨h1,h2,h3⟩:=h.pers p hp;exact ⟨h1,h2,fun k hD=>⟨(h3 k hD).1,fun b hb=>by rw [e b hb]; exact (h3 k hD).2.1 b hb,(h3 k hD).2.2⟩⟩
def stF (n:Nat) (xs:List CV) (F:St) (wr:Bool):St :=
 { n:=n,slots:=enum xs 0,gs:=[],heap:=F.heap,next:=F.next,rows:=F.rows,nr:=F.nr,pers:=F.pers,wr:=wr,fx:=F.next }
theorem Calls.of_F {P:Program} {f:FuncId} {fn:Func} {R:Ending→World→Prop} {w:World} {ρ:Nat→Nat} {F:St} (hF:FSat ρ F w) (xs:List CV) (wr:Bool)
  (hf:P.funcs[f]?=some fn) (hb:fn.body.isSome=true) (hle:Nat.ble xs.length fn.ntmps=true) (hw:∀ x∈xs,x.wf F.W)
  (h:V ⟨P,f,R,touch ρ F,w,ρ,none⟩ ⟨[.code (bodyOf fn)],stF fn.ntmps xs F wr⟩):Calls P f (xs.map (CV.den ρ)).toArray w R:=by
 refine Calls.of_V (touch ρ F) ρ ρ xs (stF fn.ntmps xs F wr) hf hb hle (fun a h1 h2 h3=>?_) h;refine ⟨h1,?_,?_,?_,hF.inj,hF.lt,h2,Chg.refl _ _,?_,hF.rowsD,hF.pers,fun b hb=>⟨hb,rfl⟩⟩
 ·intro i v hv;obtain ⟨x,rfl,_,hx⟩:=look_enum xs 0 i v hv;exact ⟨h3 i x (by simpa using hx),hw x (List.mem_of_getElem? hx)⟩
 ·intro i g pol c x hv;obtain ⟨y,e,_⟩:=look_enum xs 0 i _ hv;cases e
 ·intro b blk hb;obtain ⟨k1,k2,k3⟩:=hF.heap b blk hb;exact ⟨k1,k2,k3,fun hrw=>.inr (.inl ⟨b,blk,hb,hrw,rfl⟩)⟩
 ·intro r R hR;obtain ⟨k1,k2,k3⟩:=hF.rows r R hR;exact ⟨k1,k2,fun k hk=>⟨(k3 k hk).1,(k3 k hk).2,fun ho=>.inr (.inr ⟨r,R,hR,ho,hk⟩)⟩⟩
def ownAll:List (Nat×Row)→Bool
 | []=>true
 | (_,R)::l=>match R.own with
  | true=>ownAll l
  | false=>false
theorem ownAll_ok:∀ {l:List (Nat×Row)} {r:Nat} {R:Row},ownAll l=true→look l r=some R→R.own=true
 | (k,Q)::l,r,R,h,hl=>by
  simp only [ownAll] at h;split at h
  ·rename_i ho;simp only [look] at hl;split at hl
   ·cases hl; exact ho
   ·exact ownAll_ok h hl
  ·cases h
def rwLe (hp0:List (Nat×Blk)):List (Nat×Blk)→Bool
 | []=>true
 | (b,blk)::l=>match blk.rw with
  | false=>rwLe hp0 l
  | true=>match look hp0 b with
   | some blk0=>match blk0.rw with
    | true=>rwLe hp0 l
    | false=>false
   | none=>false
theorem rwLe_ok {hp0:List (Nat×Blk)}:∀ {l:List (Nat×Blk)} {b:Nat} {blk:Blk},rwLe hp0 l=true→look l b=some blk→blk.rw=true→∃ blk0,look hp0 b=some blk0∧blk0.rw=true
 | (k,c)::l,b,blk,h,hl,hrw=>by
  simp only [rwLe] at h;simp only [look] at hl;split at hl
  ·rename_i e;have:=(beq_iff _ _).1 e;subst this;cases hl;rw [hrw] at h;simp only at h;split at h
   ·rename_i blk0 hb;split at h
    ·rename_i h0; exact ⟨blk0,hb,h0⟩
    ·cases h
   ·cases h
  ·split at h
   ·exact rwLe_ok h hl hrw
   ·split at h
    ·split at h
     ·exact rwLe_ok h hl hrw
     ·cases h
    ·cases h
def told:Nat→List (Nat×Blk)→Bool
 | 0,_=>true
 | n+1,hp=>match look hp n with
  | some _=>told n hp
  | none=>false
theorem told_ok:∀ {n:Nat} {hp:List (Nat×Blk)} {b:Nat},told n hp=true→b<n→∃ blk,look hp b=some blk
 | n+1,hp,b,h,hb=>by
  simp only [told] at h;split at h
  ·rename_i blk hl;by_cases e:b=n
   ·subst e; exact ⟨blk,hl⟩
   ·exact told_ok h (by omega)
  ·cases h
def upto:Nat→Nat→List Nat
 | 0,_=>[]
 | n+1,i=>i::upto n (i+1)
theorem upto_get:∀ {n i b:Nat},b<n→(upto n i)[b]?=some (i+b)
 | n+1,i,b,h=>by
  cases b with
  | zero=>simp [upto]
  | succ b=>simp only [upto,List.getElem?_cons_succ]; rw [upto_get (show b<n by omega)]; congr 1; omega
def fragOf (s:St):List (Nat×Blk)×Nat×List (Nat×Row)×Nat:=(s.heap,s.next,s.rows,s.nr)
def fragEq (s F:St):Prop:=s.heap=F.heap∧s.next=F.next∧s.rows=F.rows∧s.nr=F.nr∧F.pers=[]
section
variable {C:Ctx} {ρ:Nat→Nat} {s:St} {a:Act} {w:World}
theorem chk3 {a b c:Bool} (h:(a&&(b&&c))=true):a=true∧b=true∧c=true:=by
 simpa [Bool.and_eq_true] using h
theorem V.retF {P:Program} {f:FuncId} {w0:World} {ρ0:Nat→Nat} {F:St} {α:Type} {p:α→Prop} {v:α→RV} {F':α→St} (x:α) (rs:List Nat) {c:Cfg} (u:RV)
  (hr:resOf P f c.st=some u) (he:isEnd c.todo=true) (hv:u.ren (upto F.next 0) rs=some (v x)) (hpk':(pickSt [] (upto F.next 0) rs [] c.st).map fragOf=some (fragOf (F' x)))
  (hps:(F' x).pers=[]) (hfx:c.st.fx=F.next) (hchk:(rwLe F.heap (F' x).heap&&(ownAll (F' x).rows&&told F.next (F' x).heap))=true) (hp:p x) :
  V ⟨P,f,GivesF ρ0 F p v F' w0,touch ρ0 F,w0,ρ0,none⟩ c:=by
 obtain ⟨s',hpk,hF'⟩:=Option.map_eq_some_iff.1 hpk';have hF:fragEq s' (F' x):=by
  simp only [fragOf,Prod.mk.injEq] at hF';exact ⟨hF'.1,hF'.2.1,hF'.2.2.1,hF'.2.2.2,hps⟩
 clear hpk';refine V.ret u hr he (fun ρ a w hS=>?_);obtain ⟨c1,c2,c3⟩:=chk3 hchk;have hS':=hS.pick hpk;have hfs:=hS'.toF;obtain ⟨f1,f2,f3,f4,f5⟩:=hF;have hpk':=hpk;unfold pickSt at hpk';split at hpk'
 case h_2=>cases hpk'
 rename_i sl hpp rows hnd hndr hsl hhp hrows;have hs':=Option.some.inj hpk';have hlen:∀ n i,(upto n i).length=n:=by
  intro n
  induction n with
  | zero=>intro i; rfl
  | succ n ih=>intro i; simp [upto,ih]
 have hnext:(F' x).next=F.next:=by rw [← f2,← hs']; exact hlen _ _
 have hρ:∀ b,b<F.next→ρ0 b=ρ ((upto F.next 0).getD b 0):=by
  intro b hb;have:(upto F.next 0).getD b 0=b:=by simp [List.getD,upto_get hb]
  rw [this];exact (hS.fix b (by rw [hfx]; exact hb)).2.symm
 have hW:s'.W=(F' x).W:=by simp only [St.W,f2,f3,f4]
 have hRR:RowsRen rs c.st.W ⟨(upto F.next 0).length,rs.length,rows⟩:=by
  intro r' r R hr hl;obtain ⟨r2,_,h2,h3⟩:=pickRows_ok hrows r' R hl;simp only [Nat.sub_zero] at h2;rw [hr] at h2;cases h2;exact h3
 obtain ⟨r1,r2,_⟩:=RV.ren_ok (ρ:=ρ) (W:=c.st.W) (W':=⟨(upto F.next 0).length,rs.length,rows⟩) rfl rfl hRR hv;have hwfu:u.wf c.st.W:=by
  replace hr:=(resOf_0 hr).1
  unfold resOf0 at hr;split at hr
  ·rename_i fn _;have hone:∀ (l:List ResultVar) (xs:List CV),resList P c.st l=some xs→∀ y∈xs,y.wf c.st.W:=by
    intro l
    induction l with
    | nil=>intro xs hx y hy; simp only [resList,Option.some.injEq] at hx; subst hx; simp at hy
    | cons q l ih =>
     intro xs hx y hy;simp only [resList] at hx;split at hx
     ·rename_i z hz;split at hx
      ·rename_i zs hzs;cases hx;rcases List.mem_cons.1 hy with rfl | hy
       ·cases q with
        | tmp t =>
         simp only [resOne] at hz;split at hz
         ·rename_i y' hl;cases hz;exact (hS.slots t _ hl).2
         ·cases hz
        | cell ad t =>
         simp only [resOne] at hz;split at hz
         ·split at hz
          ·rename_i blk hbl;obtain ⟨q1,q2,q3,q4⟩:=hS.heap _ blk hbl;exact (cellsAt_load (ρ:=ρ) (w:=w) hz c.st.W q3 q2).2
          ·cases hz
         ·cases hz
       ·exact ih zs hzs y hy
      ·cases hx
     ·cases hx
   split at hr
   ·rename_i y hy; cases hr; exact hone _ _ hy y (List.mem_cons_self ..)
   ·rename_i xs _ hy; cases hr; exact hone _ _ hy
   ·cases hr
  ·cases hr
 have hWs:s'.W=⟨(upto F.next 0).length,rs.length,rows⟩:=by rw [← hs']; rfl
 have hwv:(v x).wf (F' x).W:=by rw [← hW,hWs]; exact r2 hwfu
 have hfs':FSat (fun i=>ρ ((upto F.next 0).getD i 0)) (F' x) w:=by
  refine ⟨?_,?_,?_,?_,?_,?_⟩
  ·intro b blk hb; rw [← f1] at hb; rw [← f2,← hW]; exact hfs.heap b blk hb
  ·rw [← f2]; exact hfs.inj
  ·rw [← f2]; exact hfs.lt
  ·intro r R hR; rw [← f3] at hR; rw [← f2,← f4]; exact hfs.rows r R hR
  ·rw [← f3]; exact hfs.rowsD
  ·rw [f5]; intro q hq; cases hq
 refine ⟨x,hp,?_,hfs'.congr (by rw [hnext]; exact hρ),hnext,fun b hb=>told_ok c3 hb,hwv,hS.chg,?_,?_⟩
 ·rw [← r1,RV.den_congr (W:=(F' x).W) (ρ:=ρ0) (ρ':=fun i=>ρ ((upto F.next 0).getD i 0)) (fun b hb=>(hρ b (by rw [← hnext]; exact hb)).symm) _ hwv]
 ·intro b blk hb hrw; exact rwLe_ok c1 hb hrw
 ·intro r R hR k hk;have ho:=ownAll_ok c2 hR;have hR':look s'.rows r=some R:=by rw [f3]; exact hR
  rcases ((hS'.rows r R hR').2.2 k hk).2.2 ho with q | q
  ·exact .inr (.inr q)
  ·exact .inl ⟨ho,q⟩
theorem V.callF {α:Type} (f:FuncId) (xs ys:List CV) (hs rs:List Nat) (pm:List Bool) (F:St) (p:α→Prop) (v:α→RV) (F':α→St) {c:Cfg} (hc:callOf c=some (none,f,xs))
  (hent:∀ args w,(callFunc f args).run C.P w=.ok (.enter f args) w) (hpk:pickSt [] hs rs pm c.st=some F) (hys:∀ ρ,xs.map (CV.den ρ)=ys.map (CV.den (fun i=>ρ (hs.getD i 0))))
  (hu:∀ x,p x→noKeyDup (F' x).heap=true∧(∀ g pol b y,v x≠.grd g pol b y)∧(afterOp c (c.st.bring hs rs (F' x)) ((v x).bring hs c.st.nr)).isSome=true)
  (h:∀ ρ w,FSat ρ F w→Calls C.P f (ys.map (CV.den ρ)).toArray w (GivesF ρ F p v F' w))
  (k:∀ x,p x→V C (afterD c (c.st.bring hs rs (F' x)) ((v x).bring hs c.st.nr))):V C c:=by
 refine V.callM hc hent (fun ρ a w hS=>⟨_,by rw [hys ρ]; exact h _ w (hS.pick hpk).toF,?_⟩);rintro e w' ⟨x,hp,rfl,hF,hnext,hkeep,hwf,hch,hrw,hru⟩;obtain ⟨h1,h2,h3⟩:=hu x hp;obtain ⟨b1,b2⟩:=hS.bring hpk h1 hF hnext hkeep hch hrw hru;refine ⟨ρ,(v x).bring hs c.st.nr,c.st.bring hs rs (F' x),_,by rw [RV.bring_den],b1,b2 _ hwf,?_,afterD_some h3,k x hp⟩;intro g pol b y e;cases hvx:v x with
 | grd=>exact h2 _ _ _ _ hvx
 | v=>rw [hvx] at e; cases e
 | tup=>rw [hvx] at e; cases e
end
end Go.SX
end
section
namespace Go.SX
open Go
open Go.ChangeMaps (setBlock)
def objRow (g:Nat) (o:Obj):Row:=⟨some ⟨g,0,none⟩,0,0,0,0,fun _=>[],true,some o⟩
theorem objRow_ok {w:World} {g:Nat} {o:Obj} (h:w.heap[g]?=some o):(objRow g o).ok w :=
 ⟨fun _ hi=>absurd hi (Nat.not_lt_zero _),fun hp=>absurd hp (Nat.lt_irrefl _),fun _ hn=>(by cases hn),fun o' ho=>(by cases ho; exact ⟨g,rfl,h⟩)⟩
theorem objRow_uses {g k:Nat} {o:Obj}:(objRow g o).uses k↔g=k :=
 ⟨fun ⟨_,h1,h2,_⟩=>(by cases h1; exact h2),fun e=>⟨⟨g,0,none⟩,rfl,e,.inl rfl⟩⟩
def St.addObj (s:St) (g:Nat) (o:Obj):St:={ s with rows:=(s.nr,objRow g o)::s.rows,nr:=s.nr+1 }
def St.setObj (s:St) (r g:Nat) (o:Obj):St:={ s with rows:=upd s.rows r (objRow g o) }
theorem setBlock_other (w:World) (g k:Nat) (o:Obj) (h:g≠k):(setBlock w g o).heap[k]?=w.heap[k]?:=by
 simp [setBlock,h]
theorem setBlock_same (w:World) (g:Nat) (o:Obj) (h:g<w.heap.size):(setBlock w g o).heap[g]?=some o:=by
 simp [setBlock,h]
theorem setBlock_size (w:World) (g:Nat) (o:Obj):(setBlock w g o).heap.size=w.heap.size:=by simp [setBlock]
section
variable {C:Ctx} {ρ:Nat→Nat} {s:St} {a:Act} {w:World}
theorem Sat.newObj (h:Sat C ρ s a w) (o:Obj):Sat C ρ (s.addObj w.heap.size o) a (w.alloc o):=by
 have hc:Chg (fun _=>False) w (w.alloc o):=Chg.alloc _ w o;have h':=h.below hc;have hlt:∀ r R,look s.rows r=some R→r<s.nr:=fun r R hR=>(h.rows r R hR).1;have hle:s.W.le (s.addObj w.heap.size o).W:=by
  refine ⟨Nat.le_refl _,Nat.le_succ _,fun r hr R hR=>?_⟩;have hr':r<s.nr:=hr;simp only [St.addObj,St.W,look] at hR;split at hR
  ·rename_i e; have:=(beq_iff _ _).1 e; omega
  ·exact hR
 refine ⟨h'.n,fun i v hv=>⟨(h'.slots i v hv).1,RV.wf_mono hle v (h'.slots i v hv).2⟩,h'.grds,?_,h'.inj,h'.lt,h'.defers,h'.chg,?_,?_,?_,h'.fix⟩
 ·intro b blk hb;obtain ⟨k1,k2,k3,k4⟩:=h'.heap b blk hb;exact ⟨k1,k2,fun x hx=>SV.wf_mono hle x (k3 x hx),k4⟩
 ·intro r R hR;simp only [St.addObj,look] at hR;split at hR
  ·rename_i e';cases hR;have:=(beq_iff _ _).1 e';refine ⟨by show r<s.nr+1; omega,objRow_ok (heap_alloc_new w o),fun k hk=>?_⟩;have hk:=objRow_uses.1 hk;subst hk;exact ⟨by simp only [World.size_alloc]; omega,fun b hb e=>by have:=h.lt b hb; omega,fun _=>.inl h.chg.size⟩
  ·obtain ⟨k0,k1,k2⟩:=h'.rows r R hR;exact ⟨by show r<s.nr+1; omega,k1,k2⟩
 ·intro r1 r2 R1 R2 h1 h2 hne ho k hk1 hk2;simp only [St.addObj,look] at h1 h2;split at h1
  ·rename_i e1;cases h1;have:=objRow_uses.1 hk1;subst this;split at h2
   ·rename_i e2; exact hne (((beq_iff _ _).1 e1).symm.trans ((beq_iff _ _).1 e2))
   ·have:=((h.rows r2 R2 h2).2.2 _ hk2).1; omega
  ·split at h2
   ·cases h2;have:=objRow_uses.1 hk2;subst this;have:=((h.rows r1 R1 h1).2.2 _ hk1).1; omega
   ·exact h'.rowsD r1 r2 R1 R2 h1 h2 hne ho k hk1 hk2
 ·intro p hp;obtain ⟨p1,p2,p3⟩:=h'.pers p hp;refine ⟨p1,p2,fun k hD=>⟨(p3 k hD).1,(p3 k hD).2.1,fun r R hR ho hu=>?_⟩⟩;simp only [St.addObj,look] at hR;split at hR
  ·cases hR;have:=objRow_uses.1 hu;subst this;obtain ⟨_,_,q3⟩:=h.pers p hp;have:=(q3 _ hD).1; omega
  ·exact (p3 k hD).2.2 r R hR ho hu
theorem Sat.setObj (h:Sat C ρ s a w) {r g:Nat} {o:Obj} (hr:look s.rows r=some (objRow g o)) (o':Obj):Sat C ρ (s.setObj r g o') a (setBlock w g o'):=by
 obtain ⟨hr0,hok,huse⟩:=h.rows r _ hr;have hg:=huse g (objRow_uses.2 rfl);have hother:∀ k,g≠k→(setBlock w g o').heap[k]?=w.heap[k]?:=fun k hk=>setBlock_other w g k o' hk;have hlk:∀ q R',look (upd s.rows r (objRow g o')) q=some R'→(q=r∧R'=objRow g o')∨(q≠r∧look s.rows q=some R'):=by
  intro q R' hq;rw [look_upd] at hq;by_cases e:r=q
  ·rw [if_pos e] at hq; cases hq; exact .inl ⟨e.symm,rfl⟩
  ·rw [if_neg e] at hq; exact .inr ⟨fun e'=>e e'.symm,hq⟩
 have hwf:∀ x:SV,x.wf s.W→x.wf (s.setObj r g o').W:=by
  intro x hx;cases x with
  | row q p n cap =>
   refine ⟨hx.1,fun R' hR'=>?_⟩;rcases hlk q R' hR' with ⟨e1,e2⟩ | ⟨_,e2⟩
   ·subst e1; subst e2; have:=hx.2 (objRow g o) hr; exact this
   ·exact hx.2 R' e2
  | el q p size i j =>
   refine ⟨hx.1,fun R' hR'=>?_⟩;rcases hlk q R' hR' with ⟨e1,e2⟩ | ⟨_,e2⟩
   ·subst e1; subst e2; have:=hx.2 (objRow g o) hr; exact this
   ·exact hx.2 R' e2
  | ptr b off=>exact hx
  | fn f cap=>exact hx
  | sli b n cap=>exact hx
  | _=>trivial
 have hwr:∀ v:RV,v.wf s.W→v.wf (s.setObj r g o').W:=by
  have hcv:∀ y:CV,y.wf s.W→y.wf (s.setObj r g o').W:=by
   intro y hy;cases y with
   | one x=>exact hwf x hy
   | agg xs=>exact fun x hx=>hwf x (hy x hx)
  intro v hv;cases v with
  | v x=>exact hcv x hv
  | tup xs=>exact fun y hy=>hcv y (hv y hy)
  | grd g' pol c x=>exact fun hc=>hcv x (hv hc)
 refine ⟨h.n,fun i v hv=>⟨(h.slots i v hv).1,hwr v (h.slots i v hv).2⟩,h.grds,?_,h.inj,fun b hb=>by rw [setBlock_size]; exact h.lt b hb,h.defers,?_,?_,?_,?_,h.fix⟩
 ·intro b blk hb;obtain ⟨k1,k2,k3,k4⟩:=h.heap b blk hb;exact ⟨k1,by rw [hother _ (fun e=>hg.2.1 b k1 e.symm)]; exact k2,fun x hx=>hwf x (k3 x hx),k4⟩
 ·refine ⟨h.chg.os,h.chg.tape,h.chg.output,by rw [setBlock_size]; exact h.chg.size,fun k hk hS=>?_⟩;rw [hother k (fun e=>?_)]
  ·exact h.chg.block k hk hS
  ·rcases hg.2.2 rfl with q | q
   ·omega
   ·exact hS (e▸q)
 ·intro q R' hq;rcases hlk q R' hq with ⟨rfl,rfl⟩ | ⟨e1,e2⟩
  ·refine ⟨hr0,objRow_ok (setBlock_same w g o' hg.1),fun k hk=>?_⟩;have:=objRow_uses.1 hk;subst this;exact ⟨by rw [setBlock_size]; exact hg.1,hg.2⟩
  ·obtain ⟨k0,k1,k2⟩:=h.rows q R' e2;refine ⟨k0,k1.congr (fun k hk=>hother k (fun e=>?_)),fun k hk=>⟨by rw [setBlock_size]; exact (k2 k hk).1,(k2 k hk).2⟩⟩;subst e;exact h.rowsD r q _ R' hr e2 (fun e=>e1 e.symm) rfl g (objRow_uses.2 rfl) hk
 ·intro r1 r2 R1 R2 h1 h2 hne ho k hk1 hk2;rcases hlk r1 R1 h1 with ⟨rfl,rfl⟩ | ⟨e1,e2⟩<;>rcases hlk r2 R2 h2 with ⟨rfl,rfl⟩ | ⟨e3,e4⟩
  ·exact hne rfl
  ·exact h.rowsD r1 r2 _ R2 hr e4 hne rfl k (objRow_uses.2 (objRow_uses.1 hk1)) hk2
  ·exact h.rowsD r1 r2 R1 _ e2 hr hne ho k hk1 (objRow_uses.2 (objRow_uses.1 hk2))
  ·exact h.rowsD r1 r2 R1 R2 e2 e4 hne ho k hk1 hk2
 ·intro p hp;obtain ⟨p1,p2,p3⟩:=h.pers p hp;have hk:∀ k,p.D k→(setBlock w g o').heap[k]?=w.heap[k]?:=fun k hD=>hother k (fun e=>by
   subst e; exact (p3 g hD).2.2 r _ hr rfl (objRow_uses.2 rfl))
  refine ⟨p2 _ hk,fun w2 hw2=>p2 w2 (fun k hD=>(hw2 k hD).trans (hk k hD)),fun k hD=>⟨by rw [setBlock_size]; exact (p3 k hD).1,(p3 k hD).2.1,fun q R' hq ho hu=>?_⟩⟩;rcases hlk q R' hq with ⟨rfl,rfl⟩ | ⟨_,e2⟩
  ·exact (p3 k hD).2.2 _ _ hr rfl (objRow_uses.2 (objRow_uses.1 hu))
  ·exact (p3 k hD).2.2 q R' e2 ho hu
theorem Sat.obj (h:Sat C ρ s a w) {r g:Nat} {o:Obj} (hr:look s.rows r=some (objRow g o)):w.heap[g]?=some o:=by
 obtain ⟨g',e1,e2⟩:=(h.rows r _ hr).2.1.obj o rfl;cases e1;exact e2
def headOp (c:Cfg):Option Op :=
 match c.todo with
 | .inRegion ops (i::_)::_=>match ops[i]? with
  | some o=>match grdOf c.st ops o.guard with
   | .yes=>some o.op
   | _=>none
  | none=>none
 | _=>none
theorem V.opM {c:Cfg} {op:Op} (hc:headOp c=some op)
  (h:∀ ρ a w (o:Oper),o.op=op→Sat C ρ c.st a w→∃ ρ' v w' s1,(execOp a.eval o).run C.P w=.ok (.value (v.den ρ')) w'∧Sat C ρ' s1 a w'∧v.wf s1.W ∧
   (∀ g pol b x,v≠.grd g pol b x)∧∃ c',afterOp c s1 v=some c'∧V C c'):V C c:=by
 intro ρ a w hS;obtain ⟨todo,st⟩:=c;unfold headOp at hc;simp only at hc h hS ⊢;split at hc
 ·rename_i ops i l k;split at hc
  ·rename_i o ho;split at hc
   ·rename_i hg;obtain ⟨ρ',v,w',s1,h1,h2,h3,h4,c',haf,hV⟩:=h ρ a w o (Option.some.inj hc) hS;refine Ok.op_value ho (grd_yes hS hg) h1 ?_;simp only [afterOp,ho] at haf;split at haf
    ·rename_i s' hput;cases haf;exact hV ρ' _ _ (h2.put hput h3 (fun g pol b x e=>absurd e (h4 g pol b x)))
    ·cases haf
   ·cases hc
  ·cases hc
 ·cases hc
theorem V.opU {c:Cfg} {op:Op} (hc:headOp c=some op)
  (h:∀ ρ a w (o:Oper),o.op=op→Sat C ρ c.st a w→∃ w' s1,(execOp a.eval o).run C.P w=.ok .skip w'∧Sat C ρ s1 a w'∧∃ c',afterOp c s1 (.v (.one (.val undef)))=some c'∧V C c'):V C c:=by
 intro ρ a w hS;obtain ⟨todo,st⟩:=c;unfold headOp at hc;simp only at hc h hS ⊢;split at hc
 ·rename_i ops i l k;split at hc
  ·rename_i o ho;split at hc
   ·rename_i hg;obtain ⟨w',s1,h1,h2,c',haf,hV⟩:=h ρ a w o (Option.some.inj hc) hS;refine Ok.op_skip ho (grd_yes hS hg) h1 ?_;simp only [afterOp,ho] at haf;split at haf
    ·rename_i s' hput;cases haf;exact hV ρ _ _ (h2.put hput trivial (fun g pol b x e=>by cases e))
    ·cases haf
   ·cases hc
  ·cases hc
 ·cases hc
def mapV (g:Nat):RV:=.v (.one (.val (.map (some g))))
theorem V.mkMap (t:TypeId) {c:Cfg} (hc:headOp c=some (.makeMap t none)) (haf:∀ g,(afterOp c (c.st.addObj g (.map #[] 0)) (mapV g)).isSome=true)
  (k:∀ g,V C (afterD c (c.st.addObj g (.map #[] 0)) (mapV g))):V C c:=by
 refine V.opM hc (fun ρ a w o ho hS=>⟨ρ,mapV w.heap.size,w.alloc (.map #[] 0),c.st.addObj w.heap.size (.map #[] 0),?_,hS.newObj _,trivial,by simp [mapV],_,afterD_some (haf _),k _⟩);unfold execOp;rw [ho];refine execVal2 ?_;simp [Instr.makeMap,mapV,RV.den,CV.den,SV.den]
def keyKind:TypeDesc→Bool
 | .int _ | .string | .bool=>true
 | _=>false
theorem run_checkKey {P:Program} {kt:TypeId} {kd:TypeDesc} (hk:P.underlying kt=some kd) (hkk:keyKind kd=true) (e:Bool) (v:Value) (w:World):(Instr.checkKey e 10000 kt v).run P w=.ok () w:=by
 cases kd<;>first | (simp [keyKind] at hkk; done) | (unfold Instr.checkKey; rw [Sem.run_bind,run_underlying hk]; rfl)
theorem run_findKey {P:Program} {kt:TypeId} {kd:TypeDesc} (hk:P.underlying kt=some kd) {k:Value} {es:List MapEntry} {x:Option (Nat×Value)} (hf:Instr.findNow kd k es 0=some x) (w:World) :
  (Instr.findKey kt k es).run P w=.ok x w:=by
 unfold Instr.findKey;rw [Sem.run_bind,run_underlying hk];simp [hf]
theorem run_lookup {P:Program} {t kt et:TypeId} {kd:TypeDesc} {w:World} {g:Nat} {es:Array MapEntry} {clock:Nat} (ht:P.underlying t=some (.map kt et)) (hk:P.underlying kt=some kd) (hkk:keyKind kd=true)
  (hb:w.heap[g]?=some (.map es clock)) {k:Value} {x:Option (Nat×Value)} (hf:Instr.findNow kd k es.toList 0=some x) {z:Value} (hz:x=none→(zeroValue et).run P w=.ok z w) (ok:Bool) :
  (Instr.lookup t (.map (some g)) k ok).run P w=.ok (cond ok (.tuple #[(x.map (·.2)).getD z,.bool x.isSome]) ((x.map (·.2)).getD z)) w:=by
 unfold Instr.lookup;rw [Sem.run_bind,run_underlying ht];simp only [Result.andThen_ok,Sem.run_bind,MapKept.run_getObj_map hb,Sem.run_pure,run_checkKey hk hkk,run_findKey hk hf];cases x with
 | none=>simp only [Sem.run_bind,hz rfl,Result.andThen_ok,Sem.run_pure]; cases ok<;>rfl
 | some y=>cases ok<;>rfl
theorem run_mapInsert {P:Program} {t kt et:TypeId} {kd:TypeDesc} {w:World} {g:Nat} {es:Array MapEntry} {clock:Nat} (ht:P.underlying t=some (.map kt et)) (hk:P.underlying kt=some kd) (hkk:keyKind kd=true)
  (hb:w.heap[g]?=some (.map es clock)) {k v:Value} (hf:Instr.findNow kd k es.toList 0=some none) :
  (Instr.mapUpdate t (.map (some g)) k v).run P w=.ok () (setBlock w g (.map (es.push { key:=k,val:=v,born:=clock }) (clock+1))):=by
 unfold Instr.mapUpdate;rw [Sem.run_bind,run_underlying ht];simp only [Result.andThen_ok,Sem.run_bind,MapKept.run_getObj_map hb,run_checkKey hk hkk,run_findKey hk hf];simp [MapKept.run_setObj_map _ hb,setBlock]
def insOp:Op→Option (TypeId×Operand×Operand×Operand)
 | .mapUpdate t m k x=>some (t,m,k,x)
 | .insert t m k x=>some (t,m,k,x)
 | _=>none
def insOf (c:Cfg):Option (TypeId×Nat×CV×CV) :=
 match headOp c with
 | some op=>match insOp op with
  | some (t,m,k,x)=>match ev c.st none m,ev c.st none k,ev c.st none x with
   | some (.one (.val (.map (some g)))),some kv,some xv=>some (t,g,kv,xv)
   | _,_,_=>none
  | none=>none
 | none=>none
def lookOf (c:Cfg):Option (TypeId×Nat×CV×Bool) :=
 match headOp c with
 | some (.lookup t m k ok)=>match ev c.st none m,ev c.st none k with
  | some (.one (.val (.map (some g)))),some kv=>some (t,g,kv,ok)
  | _,_=>none
 | _=>none
def ptrV (g:Nat):RV:=.v (.one (.val (.pointer (some ⟨g,0,none⟩))))
def rangeOf (c:Cfg):Option (TypeId×Nat) :=
 match headOp c with
 | some (.range t m)=>match ev c.st none m with
  | some (.one (.val (.map (some g))))=>some (t,g)
  | _=>none
 | _=>none
theorem V.range (t kt et:TypeId) (g:Nat) (es:Array MapEntry) (clock:Nat) {c:Cfg} (hc:rangeOf c=some (t,g)) (ht:C.P.underlying t=some (.map kt et))
  (hb:∀ ρ a w,Sat C ρ c.st a w→w.heap[g]?=some (.map es clock))
  (haf:∀ i,(afterOp c (c.st.addObj i (.mapIter (some g) clock #[] clock)) (ptrV i)).isSome=true)
  (k:∀ i,V C (afterD c (c.st.addObj i (.mapIter (some g) clock #[] clock)) (ptrV i))):V C c:=by
 unfold rangeOf at hc;split at hc
 ·rename_i t' m hop;split at hc
  ·rename_i g' hm;cases hc;refine V.opM hop (fun ρ a w o ho hS=>⟨ρ,ptrV w.heap.size,w.alloc (.mapIter (some g) clock #[] clock),_,?_,hS.newObj _,trivial,by simp [ptrV],_,afterD_some (haf _),k _⟩);obtain ⟨e1,_⟩:=ev_sound hS.toP (GcOk.none c.st) hm;unfold execOp;rw [ho];refine execVal2 ?_;rw [e1];exact run_range_map w t kt et g es clock ht (hb ρ a w hS)
  ·cases hc
 ·cases hc
def nextOf (c:Cfg):Option Nat :=
 match headOp c with
 | some (.next it false)=>match ev c.st none it with
  | some (.one (.val (.pointer (some ⟨i,0,none⟩))))=>some i
  | _=>none
 | _=>none
theorem Sat.drew (h:Sat C ρ s a w):Sat C ρ s a w.drew:=h.below ⟨rfl,rfl,rfl,Nat.le_refl _,fun _ _ _=>rfl⟩
theorem V.next (i r g since c0 clock:Nat) (seen:Array Nat) (es:Array MapEntry) {c:Cfg} (hc:nextOf c=some i) (hr:look c.st.rows r=some (objRow i (.mapIter (some g) since seen c0)))
  (hb:∀ ρ a w,Sat C ρ c.st a w→w.heap[g]?=some (.map es clock)) (hold:∀ x∈es.toList,x.born<since) (hsc:since≤c0)
  (haf:(afterOp c c.st (.tup [.one (.bool false)])).isSome=true)
  (haf':∀ e,e∈(leftOf es seen).toList→(afterOp c (c.st.setObj r i (.mapIter (some g) since (seen.push e.born) clock)) (.tup [.one (.bool true),.one (.val e.key),.one (.val e.val)])).isSome=true)
  (k:(leftOf es seen).size=0→V C (afterD c c.st (.tup [.one (.bool false)])))
  (k':∀ e,e∈(leftOf es seen).toList→V C (afterD c (c.st.setObj r i (.mapIter (some g) since (seen.push e.born) clock)) (.tup [.one (.bool true),.one (.val e.key),.one (.val e.val)]))):V C c:=by
 unfold nextOf at hc;split at hc
 ·rename_i it hop;split at hc
  ·rename_i i' hm;cases hc;refine V.opM hop (fun ρ a w o ho hS=>?_);obtain ⟨e1,_⟩:=ev_sound hS.toP (GcOk.none c.st) hm;rcases run_next_at (P:=C.P) w o.type i g since c0 seen es clock (hS.obj hr) (hb ρ a w hS) hold hsc with ⟨h0,h1⟩ | ⟨e,he,w1,hw,h1⟩
   ·refine ⟨ρ,.tup [.one (.bool false)],w,c.st,?_,hS,?_,by simp,_,afterD_some haf,k h0⟩
    ·unfold execOp; rw [ho]; refine execVal2 ?_; rw [e1]; exact h1
    ·intro y hy; rcases List.mem_singleton.1 hy with rfl; trivial
   ·refine ⟨ρ,.tup [.one (.bool true),.one (.val e.key),.one (.val e.val)],_,_,?_,Sat.setObj (w:=w1) ?_ hr _,?_,by simp,_,afterD_some (haf' e he),k' e he⟩
    ·unfold execOp; rw [ho]; refine execVal2 ?_; rw [e1]; exact h1
    ·rcases hw with rfl | rfl
     ·exact hS
     ·exact hS.drew
    ·intro y hy;rcases List.mem_cons.1 hy with rfl | hy
     ·trivial
     ·rcases List.mem_cons.1 hy with rfl | hy
      ·trivial
      ·rcases List.mem_singleton.1 hy with rfl; trivial
  ·cases hc
 ·cases hc
def entryOf (c:Cfg):Option Nat :=
 match headOp c with
 | some (.entry it)=>match ev c.st none it with
  | some (.one (.val (.pointer (some ⟨i,0,none⟩))))=>some i
  | _=>none
 | _=>none
theorem V.entry (i r g since clock:Nat) (seen:Array Nat) (es:Array MapEntry) (e:MapEntry) {c:Cfg} (hc:entryOf c=some i) (hr:look c.st.rows r=some (objRow i (.mapIter (some g) since (seen.push e.born) clock)))
  (hb:∀ ρ a w,Sat C ρ c.st a w→w.heap[g]?=some (.map es clock)) (he:e∈es.toList) (hn:(es.toList.map (·.born)).Nodup)
  (haf:(afterOp c c.st (.tup [.one (.val e.key),.one (.val e.val)])).isSome=true)
  (k:V C (afterD c c.st (.tup [.one (.val e.key),.one (.val e.val)]))):V C c:=by
 unfold entryOf at hc;split at hc
 ·rename_i it hop;split at hc
  ·rename_i i' hm;cases hc;refine V.opM hop (fun ρ a w o ho hS=>?_);obtain ⟨e1,_⟩:=ev_sound hS.toP (GcOk.none c.st) hm;refine ⟨ρ,.tup [.one (.val e.key),.one (.val e.val)],w,c.st,?_,hS,?_,by simp,_,afterD_some haf,k⟩
   ·unfold execOp; rw [ho]; refine execVal2 ?_; rw [e1]; exact run_entry_at w i g since seen es clock e (hS.obj hr) (hb ρ a w hS) he hn
   ·intro y hy;rcases List.mem_cons.1 hy with rfl | hy
    ·trivial
    ·rcases List.mem_singleton.1 hy with rfl; trivial
  ·cases hc
 ·cases hc
end
end Go.SX
end
section
namespace Go.SX
open Go
def entersB (P:Program) (f:FuncId):Bool :=
 match P.funcs[f]? with
 | some fn=>fn.body.isSome&&!(fn.name == "runtime.NumGoroutine")
 | none=>false
theorem enters {P:Program} {f:FuncId} (h:entersB P f=true) (args:Array Value) (w:World):(callFunc f args).run P w=.ok (.enter f args) w:=by
 unfold entersB at h;split at h
 ·rename_i fn hf;rw [Bool.and_eq_true] at h;obtain ⟨h1,h2⟩:=h;have h2':¬ fn.name = "runtime.NumGoroutine":=by simpa using h2
  have h1':¬ fn.body=none:=by intro e; rw [e] at h1; cases h1
  unfold callFunc;have:(program:Sem Program).run P w=.ok P w:=rfl;rw [Sem.run_bind,this];simp [hf,h2',h1']
 ·cases h
def plainC:CV→Bool
 | .one x=>plainB x
 | .agg xs=>xs.all plainB
def plainR:RV→Bool
 | .v x=>plainC x
 | .tup xs=>xs.all plainC
 | .grd _ _ _ _=>false
theorem plainC_wf {x:CV} (h:plainC x=true) (W:WF):x.wf W:=by
 cases x with
 | one x=>exact SV.plain_wf (plainB_ok h) W
 | agg xs=>intro y hy; exact SV.plain_wf (plainB_ok (List.all_eq_true.1 h y hy)) W
theorem plainR_wf {x:RV} (h:plainR x=true) (W:WF):x.wf W∧∀ g pol b y,x≠.grd g pol b y:=by
 cases x with
 | v x=>exact ⟨plainC_wf h W,by simp⟩
 | tup xs=>exact ⟨fun y hy=>plainC_wf (List.all_eq_true.1 h y hy) W,by simp⟩
 | grd=>cases h
def ngB:RV→Bool
 | .grd _ _ _ _=>false
 | _=>true
theorem ngB_ok {x:RV} (h:ngB x=true):∀ g pol b y,x≠.grd g pol b y:=by
 cases x with
 | grd=>cases h
 | v x=>simp
 | tup xs=>simp
theorem and3 {a b c:Bool} (h:(a&&(b&&c))=true):a=true∧b=true∧c=true:=by simpa [Bool.and_eq_true] using h
section
variable {C:Ctx}
theorem V.callP (f:FuncId) (xs:List CV) (v:RV) {c:Cfg} (hc:callOf c=some (none,f,xs)) (hb:(entersB C.P f&&(plainR v&&(afterOp c c.st v).isSome))=true)
  (h:∀ ρ a w,Sat C ρ c.st a w→Calls C.P f (xs.map (CV.den ρ)).toArray w (Gives (v.den ρ) w)) (k:V C (afterD c c.st v)):V C c:=by
 obtain ⟨h1,h2,h3⟩:=and3 hb;obtain ⟨w1,w2⟩:=plainR_wf h2 c.st.W;exact V.callD f xs v hc (enters h1) h3 w1 w2 h k
theorem V.callPA (g:Nat) (pol b:Bool) (f:FuncId) (xs:List CV) (x:CV) {c:Cfg} (hc:callOf c=some (some (g,pol,b),f,xs))
  (hb:(entersB C.P f&&(plainC x&&(afterOp c { c.st with gs:=addNat c.st.gs g } (.grd g pol b x)).isSome))=true)
  (h:b=pol→∀ ρ a w,Sat C ρ c.st a w→Calls C.P f (xs.map (CV.den ρ)).toArray w (Gives (x.den ρ) w))
  (k:V C (afterD c { c.st with gs:=addNat c.st.gs g } (.grd g pol b x))):V C c:=by
 obtain ⟨h1,h2,h3⟩:=and3 hb;exact V.callAD g pol b f xs x hc (enters h1) h3 (plainC_wf h2 c.st.W) h k
theorem V.callG {α:Type} (f:FuncId) (xs ys:List CV) (hs rs:List Nat) (pm:List Bool) (F:St) (p:α→Prop) (v:α→RV) (F':α→St) {c:Cfg} (hc:callOf c=some (none,f,xs))
  (hb:entersB C.P f=true) (hpk:pickSt [] hs rs pm c.st=some F) (hys:∀ ρ,xs.map (CV.den ρ)=ys.map (CV.den (fun i=>ρ (hs.getD i 0))))
  (hu:∀ x,(noKeyDup (F' x).heap&&(ngB (v x)&&(afterOp c (c.st.bring hs rs (F' x)) ((v x).bring hs c.st.nr)).isSome))=true)
  (h:∀ ρ w,FSat ρ F w→Calls C.P f (ys.map (CV.den ρ)).toArray w (GivesF ρ F p v F' w))
  (k:∀ x,p x→V C (afterD c (c.st.bring hs rs (F' x)) ((v x).bring hs c.st.nr))):V C c:=by
 refine V.callF f xs ys hs rs pm F p v F' hc (enters hb) hpk hys (fun x _=>?_) h k;obtain ⟨h1,h2,h3⟩:=and3 (hu x);exact ⟨h1,ngB_ok h2,h3⟩
end
end Go.SX
end
section
namespace Go.SX
open Go
theorem rowTo_wf (s:St) (r:Nat) (R:Row) (q:Option Addr) (m cap:Nat) (get:Nat→List SV):(RV.v (.one (.row s.nr q (R.n+m) cap))).wf (s.rowTo r (R.next q m cap get)).W:=by
 refine ⟨Nat.lt_succ_self _,fun R' hR=>?_⟩;simp only [St.rowTo,St.W,look,Nat.beq_refl] at hR;cases hR;exact ⟨rfl,rfl,rfl⟩
section
variable {C:Ctx} {D:Held} {ops:Array Oper} {k:List Item}
theorem VD.append (i:Nat) (A:App) (get:Nat→List SV) {o:Oper} {cl:Call} {d:DCfg} {n:Nat} (hr:Region.ready .any ops d.listed=[i]) (hf:d.fuel=n+1) (ho:ops[i]?=some o) (hg:grdOf d.st ops o.guard=.yes)
  (hcl:callAt o=some cl) (hA:appS C.P d.st cl=some A) (hb:(A.R.n+A.m)*A.bytes≤140737488355328)
  (h1:∀ i,i<A.R.n→get i=A.R.get i) (h2:∀ i,i<A.m→get (A.R.n+i)=A.get i) (hTS:∀ k,A.R.uses k→D.TS k)
  (hst:∀ q cap,((d.st.rowTo A.r (A.R.next q A.m cap get)).put o.dst (.v (.one (.row d.st.nr q (A.R.n+A.m) cap)))).isSome=true)
  (h:∀ q cap s',(d.st.rowTo A.r (A.R.next q A.m cap get)).put o.dst (.v (.one (.row d.st.nr q (A.R.n+A.m) cap)))=some s'→VD C D ops k ⟨n,d.listed.setIfInBounds i true,s'⟩):VD C D ops k d:=by
 intro ρ a w hS hρ hn hc hclo hsz;have hi:i∈Region.ready .any ops d.listed:=by rw [hr]; simp
 rw [hf];refine wpAnyE_all hr (by simp) (fun j hj=>?_);have:j=i:=by simpa using hj
 subst this;have hop:o.op=.call cl:=by
  unfold callAt at hcl;split at hcl
  ·rename_i e; cases hcl; exact e
  ·cases hcl
 obtain ⟨q,cap,w',hrun,hS',hch,_⟩:=append_run (ty:=o.type) hS hA hb get h1 h2;obtain ⟨s',hs'⟩:=Option.isSome_iff_exists.1 (hst q cap);have hc2:Chg D.TS D.ws w':=hc.trans hch (fun k hk=>.inr (hTS k hk));unfold wpOp;simp only [ho,grd_yes hS hg,if_true];refine .inl ?_;unfold Oper.wp execOp;rw [hop];simp only;rw [hrun];refine ⟨fun _=>hc2,h q cap s' hs' ρ _ w' (hS'.put hs' (rowTo_wf ..) (fun g pol b x e=>by cases e)) hρ ?_ hc2 (hclo.set hi) (by simpa using hsz)⟩;show D.n0≤s'.next;rw [put_next hs']; exact hn
end
end Go.SX
end
section
namespace Go.SX
open Go
def stepDM (P:Program) (ops:Array Oper) (h0:List (Nat×Blk)) (r0:List (Nat×Row)) (d:DCfg):Option (DCfg×List Prop) :=
 match d.fuel with
 | 0=>none
 | n+1=>match takeD P ops h0 r0 d.listed d.st (Region.ready .any ops d.listed) with
  | some (i,s',ob)=>some (⟨n,d.listed.setIfInBounds i true,s'⟩,ob)
  | none=>match Region.ready .any ops d.listed with
   | [i]=>match ops[i]? with
    | some o=>match grdOf d.st ops o.guard with
     | .yes=>match opMem P d.st none o.op with
      | some (v,s1)=>match s1.put o.dst v with
       | some s'=>some (⟨n,d.listed.setIfInBounds i true,s'⟩,[])
       | none=>none
      | none=>none
     | _=>none
    | none=>none
   | _=>none
def runDM (P:Program) (ops:Array Oper) (h0:List (Nat×Blk)) (r0:List (Nat×Row)):Nat→DCfg→DCfg×List Prop
 | 0,d=>(d,[])
 | m+1,d=>match stepDM P ops h0 r0 d with
  | none=>(d,[])
  | some (d',ob)=>match runDM P ops h0 r0 m d' with
   | (d2,ob')=>(d2,ob++ob')
theorem opMem_rows {P:Program} {s s1:St} {gc:Option (Nat×Bool)} {op:Op} {v:RV} (h:opMem P s gc op=some (v,s1)):s1.rows=s.rows∧s1.nr=s.nr∧s.next≤s1.next:=by
 unfold opMem at h;split at h
 ·split at h
  ·cases h; exact ⟨rfl,rfl,Nat.le_succ _⟩
  ·cases h
 ·split at h
  ·split at h
   ·cases h; exact ⟨rfl,rfl,Nat.le_succ _⟩
   ·cases h
  ·cases h
 ·split at h
  ·split at h
   ·split at h
    ·split at h
     ·cases h; exact ⟨rfl,rfl,Nat.le_succ _⟩
     ·cases h
    ·cases h
   ·cases h
  ·cases h
 ·cases h
theorem stepPure_W {P:Program} {ops:Array Oper} {h0:List (Nat×Blk)} {r0:List (Nat×Row)} {o:Oper} {s s':St} {ob:List Prop} (hs:stepPure P ops h0 r0 o s=some (s',ob)):s'.W=s.W:=by
 unfold stepPure at hs;split at hs
 ·split at hs
  ·split at hs
   ·rename_i hput; cases hs; exact put_W hput
   ·cases hs
  ·cases hs
 ·split at hs
  ·rename_i hput; cases hs; exact put_W hput
  ·cases hs
 ·split at hs
  ·split at hs
   ·rename_i hput; cases hs; rw [put_W hput]; rfl
   ·cases hs
  ·cases hs
 ·cases hs
theorem WF.le.trans' {A B E:WF} (h:A.le B) (k:B.le E):A.le E :=
 ⟨Nat.le_trans h.n k.n,Nat.le_trans h.nr k.nr,fun r hr R hR=>h.rows r hr R (k.rows r (Nat.lt_of_lt_of_le hr h.nr) R hR)⟩
section
variable {C:Ctx} {D:Held} {ops:Array Oper} {k:List Item}
theorem stepDM_rows {P:Program} {h0:List (Nat×Blk)} {r0:List (Nat×Row)} {d d':DCfg} {ob:List Prop} (hs:stepDM P ops h0 r0 d=some (d',ob)) (hrw:D.rows d.st):D.rows d'.st:=by
 unfold stepDM at hs;split at hs
 ·cases hs
 ·split at hs
  ·rename_i i s' ob' ht;cases hs;obtain ⟨_,o,_,_,h⟩:=takeD_spec ht;have hW:=stepPure_W h;exact ⟨fun r R hR=>by rw [show s'.rows=d.st.rows from congrArg WF.rows hW]; exact hrw.1 r R hR,by rw [hW]; exact hrw.2⟩
  ·split at hs
   ·split at hs
    ·split at hs
     ·split at hs
      ·rename_i v s1 hop;split at hs
       ·rename_i s' hput;cases hs;have hW:=put_W hput;obtain ⟨q1,q2,q3⟩:=opMem_rows hop;have e1:s'.rows=d.st.rows:=(congrArg WF.rows hW).trans q1;have e2:s'.nr=d.st.nr:=(congrArg WF.nr hW).trans q2;have e3:s'.next=s1.next:=congrArg WF.n hW;refine ⟨fun r R hR=>by rw [e1]; exact hrw.1 r R hR,Nat.le_trans hrw.2.n (by show d.st.next≤s'.next; rw [e3]; exact q3),Nat.le_trans hrw.2.nr (by show d.st.nr≤s'.nr; rw [e2]; exact Nat.le_refl _),fun r hr R hR=>?_⟩;exact hrw.2.rows r hr R (by show look d.st.rows r=some R; rw [← e1]; exact hR)
       ·cases hs
      ·cases hs
     ·cases hs
    ·cases hs
   ·cases hs
theorem VD.stepM (hD:D.ok) (hL:LastOp ops D.L∨ops.size≤D.L) (hsel:Region.noSelect ops=true) {d d':DCfg} {ob:List Prop} (hs:stepDM C.P ops D.h0 D.r0 d=some (d',ob)) (hob:∀ p∈ob,p) (hrw:D.rows d.st)
  (h:VD C D ops k d'):VD C D ops k d:=by
 unfold stepDM at hs;split at hs
 ·cases hs
 ·rename_i n hf;split at hs
  ·rename_i i s' ob' ht;cases hs;obtain ⟨hm,o,ho,hfr,hst⟩:=takeD_spec ht;have hW:=stepPure_W hst;intro ρ a w hS hρ hn hc hcl hsz;obtain ⟨v,hy,hS',hnx⟩:=stepPure_sound hD hst hob hS hρ hn hrw;rw [hf];exact wpAnyE_first hL ho (Region.noSelect_spec hsel) Qd_panic n d.listed a w hsz hcl (Region.free_spec ho hfr) hm hy hc (h ρ _ w hS' hρ (by show D.n0≤s'.next; rw [show s'.next=d.st.next from congrArg WF.n hW]; exact hn) hc (hcl.set hm) (by simpa using hsz))
  ·split at hs
   ·rename_i i hr;split at hs
    ·rename_i o ho;split at hs
     ·rename_i hg;split at hs
      ·rename_i v s1 hop;split at hs
       ·rename_i s' hput;cases hs;exact VD.mem i hr hf ho hg hop hput h
       ·cases hs
      ·cases hs
     ·cases hs
    ·cases hs
   ·cases hs
theorem VD.runM (hD:D.ok) (hL:LastOp ops D.L∨ops.size≤D.L) (hsel:Region.noSelect ops=true):∀ (m:Nat) (d:DCfg),(∀ p∈(runDM C.P ops D.h0 D.r0 m d).2,p)→D.rows d.st →
  (D.rows (runDM C.P ops D.h0 D.r0 m d).1.st→VD C D ops k (runDM C.P ops D.h0 D.r0 m d).1)→VD C D ops k d
 | 0,d,_,hrw,h=>h hrw
 | m+1,d,hob,hrw,h=>by
  unfold runDM at hob h;split at hob
  ·rename_i hs; rw [hs] at h; exact h hrw
  ·rename_i d' ob hs;rw [hs] at h;exact VD.stepM hD hL hsel hs (fun p hp=>hob p (List.mem_append_left _ hp)) hrw
    (VD.runM hD hL hsel m d' (fun p hp=>hob p (List.mem_append_right _ hp)) (stepDM_rows hs hrw) h)
def endD (P:Program) (ops:Array Oper) (L:Nat) (d:DCfg):Option St :=
 match Region.ready .any ops d.listed with
 | []=>some d.st
 | [i]=>match Nat.beq i L,d.fuel,ops[L]? with
  | true,_+1,some o=>match grdOf d.st ops o.guard,opStore P d.st none o.op,o.dst,Region.ready .any ops (d.listed.setIfInBounds L true) with
   | .yes,some s1,none,[]=>some s1
   | _,_,_,_=>none
  | _,_,_=>none
 | _=>none
theorem VD.fin {d:DCfg} {s1:St} (hs:endD C.P ops D.L d=some s1) (h:V C ⟨k,s1⟩):VD C D ops k d:=by
 unfold endD at hs;split at hs
 ·rename_i hr; cases hs; exact VD.done (by simp [hr]) h
 ·rename_i i hr;split at hs
  ·rename_i n o hi hf ho;have:=(beq_iff _ _).1 hi;subst this;split at hs
   ·rename_i hg hop hd he;cases hs;exact VD.last hr hf ho hg hop hd (by simp [he]) h
   ·cases hs
  ·cases hs
 ·cases hs
def drawAll (P:Program) (L:Nat) (c:Cfg):Option (Cfg×List Prop) :=
 match drawOf c with
 | some (ops,k)=>match P.follows .mixedOrders,Region.noSelect ops,lastB ops L||Nat.ble ops.size L with
  | true,true,true=>match runDM P ops c.st.heap c.st.rows ops.size ⟨ops.size,Array.replicate ops.size false,c.st⟩ with
   | (d,ob)=>match endD P ops L d with
    | some s1=>some (⟨k,s1⟩,ob)
    | none=>none
  | _,_,_=>none
 | none=>none
theorem heldOf_nil {α:Type}:∀ (l:List (Nat×α)),heldOf [] l=l
 | []=>rfl
 | (b,v)::l=>by simp only [heldOf,hasNat]; rw [heldOf_nil l]
theorem V.drawAll (L:Nat) (ob:List Prop) {c:Cfg} {c':Cfg} (hr:SX.drawAll C.P L c=some (c',ob)) (ho:allP ob) (h:V C c'):V C c:=by
 unfold SX.drawAll at hr;split at hr
 ·rename_i ops k hc;split at hr
  ·rename_i hm hsel hL;split at hr;rename_i d ob' hrun;split at hr
   ·rename_i s1 hend;cases hr;have hL':LastOp ops L∨ops.size≤L:=by
     rw [Bool.or_eq_true] at hL;rcases hL with hL | hL
     ·exact .inl (lastB_ok hL)
     ·exact .inr (Nat.le_of_ble_eq_true hL)
    refine V.draw [] [] L ops k hc hm (fun D hD h1 h2 h3 h4 _ hrw _ _=>?_) (by simp);rw [heldOf_nil] at h1 h3;refine VD.runM hD (by rw [h4]; exact hL') hsel ops.size _ ?_ hrw (fun _=>?_)
    ·rw [h1,h3,hrun]; exact allP_mem ho
    ·rw [h1,h3,hrun]; exact VD.fin (by rw [h4]; exact hend) h
   ·cases hr
  ·cases hr
 ·cases hr
def drawHead (P:Program) (r:Nat) (c:Cfg):Option (DCfg×Nat×Option Tmp×App×List Prop) :=
 match drawOf c with
 | some (ops,_)=>match runDM P ops c.st.heap (heldOf [r] c.st.rows) ops.size ⟨ops.size,Array.replicate ops.size false,c.st⟩ with
  | (d,ob)=>match Region.ready .any ops d.listed,d.fuel with
   | [i],_+1=>match ops[i]? with
    | some o=>match grdOf d.st ops o.guard,callAt o with
     | .yes,some cl=>match appS P d.st cl with
      | some A=>match Nat.beq A.r r with
       | true=>some (d,i,o.dst,A,ob)
       | false=>none
      | none=>none
     | _,_=>none
    | none=>none
   | _,_=>none
 | none=>none
def drawTail (P:Program) (r L:Nat) (c:Cfg) (R:Row):Option Cfg :=
 match drawOf c,drawHead P r c with
 | some (ops,k),some (d,i,dst,_,_)=>match P.follows .mixedOrders,Region.noSelect ops,lastB ops L||Nat.ble ops.size L,(d.st.rowTo r R).put dst (.v (.one (.row d.st.nr R.s R.n R.cap))) with
  | true,true,true,some s'=>match runDM P ops c.st.heap (heldOf [r] c.st.rows) ops.size ⟨d.fuel - 1,d.listed.setIfInBounds i true,s'⟩ with
   | (d2,[])=>match endD P ops L d2 with
    | some s1=>some ⟨k,s1⟩
    | none=>none
   | _=>none
  | _,_,_,_=>none
 | _,_=>none
def drawTailD (P:Program) (r L:Nat) (c:Cfg) (R:Row):Cfg:=(drawTail P r L c R).getD c
theorem rows_rowTo {s:St} {r:Nat} {R:Row} (hr0:D.r0=heldOf [r] D.w0) (hrw:D.rows s) (hlt:∀ q Q,look D.w0 q=some Q→q<s.nr):D.rows (s.rowTo r R):=by
 refine ⟨fun q Q hQ=>?_,hrw.2.trans' (rowTo_le s r R)⟩;have h1:=hrw.1 q Q hQ;rw [hr0] at hQ;obtain ⟨hne,hw⟩:=look_heldOf' hQ;have hlt':=hlt q Q hw;show look ((s.nr,R)::eraseK r s.rows) q=some Q;simp only [look];have:Nat.beq s.nr q=false:=by
  cases hb:Nat.beq s.nr q with
  | true=>have:=(beq_iff _ _).1 hb; omega
  | false=>rfl
 rw [this];have hqr:q≠r:=fun e=>hne (by rw [e]; simp);clear hlt hrw hQ hne hw hlt' this;generalize s.rows=rows at h1
 induction rows with
 | nil=>exact h1
 | cons p l ih =>
  obtain ⟨j,u⟩:=p;simp only [eraseK];simp only [look] at h1;cases hj:Nat.beq j q with
  | true =>
   rw [hj] at h1;have e1:=(beq_iff _ _).1 hj;have:Nat.beq j r=false:=by
    cases hb:Nat.beq j r with
    | true=>have:=(beq_iff _ _).1 hb; omega
    | false=>rfl
   rw [this];simp only [look,hj];exact h1
  | false =>
   rw [hj] at h1;cases hb:Nat.beq j r with
   | true=>exact ih h1
   | false=>simp only [look,hj]; exact ih h1
theorem V.drawApp (r L:Nat) (A:App) (get:Nat→List SV) {c:Cfg} {d:DCfg} {i:Nat} {dst:Option Tmp} {ob:List Prop} (hA:drawHead C.P r c=some (d,i,dst,A,ob)) (hob:allP ob) (hown:A.R.own=true) (hlk:look c.st.rows r=some A.R)
  (hb:(A.R.n+A.m)*A.bytes≤140737488355328) (h1:∀ i,i<A.R.n→get i=A.R.get i) (h2:∀ i,i<A.m→get (A.R.n+i)=A.get i)
  (haf:∀ q cap,(drawTail C.P r L c (A.R.next q A.m cap get)).isSome=true)
  (k:∀ q cap,V C (drawTailD C.P r L c (A.R.next q A.m cap get))):V C c:=by
 intro ρ a w hS;have hlt:∀ q Q,look c.st.rows q=some Q→q<c.st.nr:=fun q Q h=>(hS.rows q Q h).1;revert ρ a w;have haf0:=haf none 0;have hA':=hA;unfold drawHead at hA;split at hA
 case h_2=>cases hA
 rename_i ops k' hc;split at hA;rename_i d0 ob0 hrun;split at hA
 case h_2=>cases hA
 rename_i i0 n hready hfuel;split at hA
 case h_2=>cases hA
 rename_i o ho;split at hA
 case h_2=>cases hA
 rename_i cl hg hcl;split at hA
 case h_2=>cases hA
 rename_i A0 hA0;split at hA
 case h_2=>cases hA
 rename_i hr;cases hA;have hr':=(beq_iff _ _).1 hr;have hd0:runDM C.P ops c.st.heap (heldOf [r] c.st.rows) ops.size ⟨ops.size,Array.replicate ops.size false,c.st⟩=(d,ob):=hrun
 -- what the tail says,for each new place
 have tail:∀ q cap,∃ s' d2 s1,(C.P.follows .mixedOrders=true∧Region.noSelect ops=true∧(lastB ops L||Nat.ble ops.size L)=true) ∧
   (d.st.rowTo r (A.R.next q A.m cap get)).put o.dst (.v (.one (.row d.st.nr q (A.R.n+A.m) cap)))=some s' ∧
   runDM C.P ops c.st.heap (heldOf [r] c.st.rows) ops.size ⟨n,d.listed.setIfInBounds i true,s'⟩=(d2,[])∧endD C.P ops L d2=some s1∧drawTailD C.P r L c (A.R.next q A.m cap get)=⟨k',s1⟩:=by
  intro q cap;obtain ⟨c',hc'⟩:=Option.isSome_iff_exists.1 (haf q cap);have hD:drawTailD C.P r L c (A.R.next q A.m cap get)=c':=by simp [drawTailD,hc']
  unfold drawTail at hc';rw [hc,hA'] at hc';simp only at hc';split at hc'
  ·rename_i s' e1 e2 e3 e4;split at hc'
   ·rename_i d2 e5;split at hc'
    ·rename_i s1 e6;cases hc';rw [hfuel] at e5;exact ⟨s',d2,s1,⟨e1,e2,e3⟩,e4,e5,e6,hD⟩
    ·cases hc'
   ·cases hc'
  ·cases hc'
 obtain ⟨_,_,_,⟨hm,hsel,hL⟩,_⟩:=tail none 0;have hL':LastOp ops L∨ops.size≤L:=by
  rw [Bool.or_eq_true] at hL;rcases hL with hL | hL
  ·exact .inl (lastB_ok hL)
  ·exact .inr (Nat.le_of_ble_eq_true hL)
 refine V.draw [] [r] L ops k' hc hm (fun D hD e1 e2 e3 e4 e5 hrw _ hTS=>?_) (fun r' hr2 R hR=>?_)
 ·rw [heldOf_nil] at e1;obtain ⟨e5,e6⟩:=e5;refine VD.runM hD (by rw [e4]; exact hL') hsel ops.size _ (by rw [e1,e3,hd0]; exact allP_mem hob) hrw (fun hrw1=>?_);rw [e1,e3,hd0] at hrw1 ⊢;refine VD.append i A get hready hfuel ho hg hcl hA0 hb h1 h2 (fun k hk=>hTS r (by simp) A.R hlk k hk) (fun q cap=>?_) (fun q cap s' hs'=>?_)
  ·obtain ⟨s',_,_,_,hs',_⟩:=tail q cap;rw [hr',hs']; rfl
  ·obtain ⟨s2,d2,s1,_,t1,t2,t3,t4⟩:=tail q cap;rw [hr',t1] at hs';cases hs';have hW:=put_W t1;have hrw2:D.rows (d.st.rowTo r (A.R.next q A.m cap get)):=rows_rowTo (by rw [e3,e6]) hrw1 (fun q Q hQ=>by
    rw [e6] at hQ;exact Nat.lt_of_lt_of_le (hlt q Q hQ) (by rw [← e5]; exact hrw1.2.nr))
   have hrw3:D.rows s':=⟨fun r R hR=>by rw [show s'.rows=_ from congrArg WF.rows hW]; exact hrw2.1 r R hR,by rw [hW]; exact hrw2.2⟩;refine VD.runM hD (by rw [e4]; exact hL') hsel ops.size _ (by rw [e1,e3,t2]; simp) hrw3 (fun _=>?_);rw [e1,e3,t2];have:=k q cap;rw [t4] at this;exact VD.fin (by rw [e4]; exact t3) this
 ·have:r'=r:=by simpa using hr2
  subst this;rw [hlk] at hR; cases hR; exact hown
def appViewH (x:DCfg×Nat×Option Tmp×App×List Prop):(Nat×Row×Nat×List SV×Nat)×List Prop:=(appView x.2.2.2.1,x.2.2.2.2)
theorem V.drawPush {α:Type} (f:α→List SV) (dl:α) (l:List α) (x:α) (r L:Nat) (q:Option Addr) (cap:Nat) (e:TypeId) (sz:Nat) (xs:List SV) (bytes:Nat) (ob:List Prop) {c:Cfg}
  (hA:(drawHead C.P r c).map appViewH=some ((r,rowL f dl l q cap e sz true,1,xs,bytes),ob)) (hob:allP ob) (hlk:look c.st.rows r=some (rowL f dl l q cap e sz true)) (hb:(l.length+1)*bytes≤140737488355328) (hx:f x=xs)
  (haf:∀ q cap,(drawTail C.P r L c (rowL f dl (l++[x]) q cap e sz true)).isSome=true)
  (k:∀ q cap,V C (drawTailD C.P r L c (rowL f dl (l++[x]) q cap e sz true))):V C c:=by
 cases hA':drawHead C.P r c with
 | none=>rw [hA'] at hA; cases hA
 | some y =>
  obtain ⟨d,i,dst,A,ob'⟩:=y;rw [hA'] at hA;simp only [Option.map_some,appViewH,appView,Option.some.injEq,Prod.mk.injEq] at hA;obtain ⟨⟨e1,e2,e3,e4,e5⟩,rfl⟩:=hA;have hlen:(l++[x]).length=l.length+1:=by simp
  have hrow:∀ q cap,A.R.next q A.m cap (fun i=>f ((l++[x]).getD i dl))=rowL f dl (l++[x]) q cap e sz true:=by
   intro q cap;rw [e2,e3];simp only [Row.next,rowL,hlen]
  refine V.drawApp r L A (fun i=>f ((l++[x]).getD i dl)) hA' hob (by rw [e2]; rfl) (by rw [e2]; exact hlk) (by rw [e2,e3,e5]; exact hb) ?_ ?_ ?_ ?_
  ·intro i hi;rw [e2] at hi ⊢;have hi':i<l.length:=hi;show f ((l++[x]).getD i dl)=f (l.getD i dl);rw [getD_left _ _ _ _ hi']
  ·intro i hi;rw [e3] at hi;have:i=0:=by omega
   subst this;rw [e2,e4,← hx];show f ((l++[x]).getD (l.length+0) dl)=f x;rw [getD_right]; rfl
  ·intro q cap; rw [hrow]; exact haf q cap
  ·intro q cap; rw [hrow]; exact k q cap
end
end Go.SX
end
section
namespace Go.SX
open Go
def fragP (s:St):List (Nat×Blk)×Nat×List (Nat×Row)×Nat×List Pers:=(s.heap,s.next,s.rows,s.nr,s.pers)
theorem FSat.frag {ρ:Nat→Nat} {s F:St} {w:World} (h:FSat ρ s w) (e:fragP s=fragP F):FSat ρ F w:=by
 obtain ⟨n,slots,gs,heap,next,rows,nr,pers,wr,fx⟩:=s;obtain ⟨n',slots',gs',heap',next',rows',nr',pers',wr',fx'⟩:=F;simp only [fragP,Prod.mk.injEq] at e;obtain ⟨rfl,rfl,rfl,rfl,rfl⟩:=e;exact ⟨h.heap,h.inj,h.lt,h.rows,h.rowsD,h.pers⟩
theorem GivesF.frag {α:Type} {ρ:Nat→Nat} {s F:St} {p:α→Prop} {v:α→RV} {F':α→St} {w:World} {e:Ending} {w':World} (h:GivesF ρ F p v F' w e w') (he:fragP s=fragP F):GivesF ρ s p v F' w e w':=by
 obtain ⟨n,slots,gs,heap,next,rows,nr,pers,wr,fx⟩:=s;obtain ⟨n',slots',gs',heap',next',rows',nr',pers',wr',fx'⟩:=F;simp only [fragP,Prod.mk.injEq] at he;obtain ⟨rfl,rfl,rfl,rfl,rfl⟩:=he;exact h
section
variable {C:Ctx}
theorem V.callW {α:Type} (f:FuncId) (xs ys:List CV) (hs rs:List Nat) (pm:List Bool) (F:St) (p:α→Prop) (v:α→RV) (F':α→St) {c:Cfg} (hc:callOf c=some (none,f,xs))
  (hb:entersB C.P f=true) (hpk:(pickSt [] hs rs pm c.st).map fragP=some (fragP F)) (hys:∀ ρ,xs.map (CV.den ρ)=ys.map (CV.den (fun i=>ρ (hs.getD i 0))))
  (hu:∀ x,(noKeyDup (F' x).heap&&(ngB (v x)&&(afterOp c (c.st.bring hs rs (F' x)) ((v x).bring hs c.st.nr)).isSome))=true)
  (h:∀ ρ w,FSat ρ F w→Calls C.P f (ys.map (CV.den ρ)).toArray w (GivesF ρ F p v F' w))
  (k:∀ x,p x→V C (afterD c (c.st.bring hs rs (F' x)) ((v x).bring hs c.st.nr))):V C c:=by
 obtain ⟨s',hs',he⟩:=Option.map_eq_some_iff.1 hpk;refine V.callG f xs ys hs rs pm s' p v F' hc hb hs' hys hu (fun ρ w hF=>?_) k;exact (h ρ w (hF.frag he)).mono fun e w' hg=>hg.frag he
def drawD (P:Program) (L:Nat) (c:Cfg):Cfg:=((drawAll P L c).map (·.1)).getD c
theorem V.drawR (L:Nat) (ob:List Prop) {c:Cfg} (hr:(SX.drawAll C.P L c).map (·.2)=some ob) (ho:allP ob) (h:V C (drawD C.P L c)):V C c:=by
 cases hd:SX.drawAll C.P L c with
 | none=>rw [hd] at hr; cases hr
 | some x =>
  obtain ⟨c',ob'⟩:=x;rw [hd] at hr;cases hr;refine V.drawAll L _ hd ho ?_;have:drawD C.P L c=c':=by simp [drawD,hd]
  rw [this] at h; exact h
theorem V.back (ks hs rs:List Nat) (pm:List Bool) {T:List Item} {s':St} {c:Cfg} (h:V C ⟨T,s'⟩) (hT:c.todo=T) (hp:pickSt ks hs rs pm c.st=some s'):V C c :=
 V.pick ks hs rs pm s' hp (hT▸h)
theorem V.loopTo (ks hs rs:List Nat) (pm:List Bool) {ι:Type} (μ : ι→Nat) (st:ι→St) (pre:ι→Prop) (i:ι) {c:Cfg}
  (hp:pickSt ks hs rs pm c.st=some (st i)) (hi:pre i) (hstep:∀ i,pre i→(∀ j,pre j → μ j < μ i→V C ⟨c.todo,st j⟩)→V C ⟨c.todo,st i⟩):V C c :=
 V.pick ks hs rs pm (st i) hp (V.loop μ st pre hstep i hi)
def SV.soft:SV→SV
 | .bool b=>.sb b
 | x=>x
theorem SV.soft_den (ρ:Nat→Nat) (x:SV):x.soft.den ρ=x.den ρ:=by cases x<;>rfl
theorem SV.soft_wf (x:SV) (W:WF) (h:x.wf W):x.soft.wf W:=by cases x<;>exact h
def softB (b:Nat):List (Nat×Blk)→List (Nat×Blk)
 | []=>[]
 | (k,blk)::l=>match Nat.beq k b with
  | true=>(k,⟨blk.cells.map SV.soft,blk.elem,blk.rw⟩)::softB b l
  | false=>(k,blk)::softB b l
theorem look_softB {b:Nat}:∀ {l:List (Nat×Blk)} {i:Nat} {blk:Blk},look (softB b l) i=some blk→look l i=some blk∨∃ blk0,look l i=some blk0∧blk=⟨blk0.cells.map SV.soft,blk0.elem,blk0.rw⟩
 | (k,c)::l,i,blk,h=>by
  simp only [softB] at h;simp only [look];split at h
  ·simp only [look] at h;split at h
   ·cases h; exact .inr ⟨c,rfl,rfl⟩
   ·exact look_softB h
  ·simp only [look] at h;split at h
   ·cases h; exact .inl rfl
   ·exact look_softB h
theorem V.soft (b:Nat) {c:Cfg} (h:V C ⟨c.todo,{ c.st with heap:=softB b c.st.heap }⟩):V C c:=by
 intro ρ a w hS;refine h ρ a w ⟨hS.n,hS.slots,hS.grds,fun i blk hb=>?_,hS.inj,hS.lt,hS.defers,hS.chg,hS.rows,hS.rowsD,hS.pers,hS.fix⟩;rcases look_softB hb with hl | ⟨blk0,hl,rfl⟩
 ·exact hS.heap i blk hl
 ·obtain ⟨h1,h2,h3,h4⟩:=hS.heap i blk0 hl;refine ⟨h1,?_,?_,h4⟩
  ·have:(blk0.cells.map SV.soft).map (SV.den ρ)=blk0.cells.map (SV.den ρ):=by
    rw [List.map_map]; exact List.map_congr_left fun x _=>SV.soft_den ρ x
   simp only [this]; exact h2
  ·intro x hx;obtain ⟨y,hy,rfl⟩:=List.mem_map.1 hx;exact SV.soft_wf y _ (h3 y hy)
theorem V.split (g:Nat) (b:Bool) {c:Cfg} (hc:look c.st.slots g=some (.v (.one (.sb b)))) (h1:b=true→V C (c.know g true)) (h2:b=false→V C (c.know g false)):V C c:=by
 intro ρ a w hS;cases b with
 | true=>exact h1 rfl ρ a w (hS.know hc)
 | false=>exact h2 rfl ρ a w (hS.know hc)
end
end Go.SX
end
section
namespace Go.SX
open Go
def rowP (R:Row):Pers:=⟨R.uses,R.ok⟩
section
variable {C:Ctx} {ρ:Nat→Nat} {s:St} {a:Act} {w:World}
theorem Sat.rowOfP (h:Sat C ρ s a w) {i:Nat} {R:Row} (hp:s.pers[i]?=some (rowP R)) (ho:R.own=false) :
  Sat C ρ { s with rows:=(s.nr,R)::s.rows,nr:=s.nr+1 } a w:=by
 have hm:rowP R∈s.pers:=List.mem_of_getElem? hp;obtain ⟨p1,p2,p3⟩:=h.pers _ hm;have hlt:∀ r R,look s.rows r=some R→r<s.nr:=fun r R hR=>(h.rows r R hR).1;have hle:s.W.le ⟨s.next,s.nr+1,(s.nr,R)::s.rows⟩:=by
  refine ⟨Nat.le_refl _,Nat.le_succ _,fun r hr Q hQ=>?_⟩;have hr':r<s.nr:=hr;simp only [look] at hQ;split at hQ
  ·rename_i e; have:=(beq_iff _ _).1 e; omega
  ·exact hQ
 refine ⟨h.n,fun i v hv=>⟨(h.slots i v hv).1,RV.wf_mono hle v (h.slots i v hv).2⟩,h.grds,?_,h.inj,h.lt,h.defers,h.chg,?_,?_,?_,h.fix⟩
 ·intro b blk hb;obtain ⟨k1,k2,k3,k4⟩:=h.heap b blk hb;exact ⟨k1,k2,fun x hx=>SV.wf_mono hle x (k3 x hx),k4⟩
 ·intro r Q hQ;simp only [look] at hQ;split at hQ
  ·rename_i e';cases hQ;have:=(beq_iff _ _).1 e';refine ⟨by show r<s.nr+1; omega,p1,fun k hk=>?_⟩;obtain ⟨q1,q2,_⟩:=p3 k hk;exact ⟨q1,q2,fun e=>by rw [ho] at e; cases e⟩
  ·obtain ⟨k0,k1,k2⟩:=h.rows r Q hQ;exact ⟨by show r<s.nr+1; omega,k1,k2⟩
 ·intro r1 r2 R1 R2 h1 h2 hne ho' k hk1 hk2;simp only [look] at h1 h2;split at h1
  ·cases h1; rw [ho] at ho'; cases ho'
  ·split at h2
   ·cases h2; exact (p3 k hk2).2.2 r1 R1 h1 ho' hk1
   ·exact h.rowsD r1 r2 R1 R2 h1 h2 hne ho' k hk1 hk2
 ·intro p hp;obtain ⟨q1,q2,q3⟩:=h.pers p hp;refine ⟨q1,q2,fun k hD=>⟨(q3 k hD).1,(q3 k hD).2.1,fun r Q hQ hQo=>?_⟩⟩;simp only [look] at hQ;split at hQ
  ·cases hQ; rw [ho] at hQo; cases hQo
  ·exact (q3 k hD).2.2 r Q hQ hQo
theorem V.asRow (t i:Nat) (R:Row) {c:Cfg} (hl:look c.st.slots t=some (.v (.one (.val (.slice R.s R.n R.cap))))) (hg:hasNat c.st.gs t=false) (hp:c.st.pers[i]?=some (rowP R)) (ho:R.own=false)
  (h:V C ⟨c.todo,{ c.st with slots:=upd c.st.slots t (.v (.one (.row c.st.nr R.s R.n R.cap))),rows:=(c.st.nr,R)::c.st.rows,nr:=c.st.nr+1 }⟩):V C c:=by
 intro ρ a w hS;have h1:=hS.rowOfP hp ho;refine h ρ a w ⟨h1.n,?_,?_,h1.heap,h1.inj,h1.lt,h1.defers,h1.chg,h1.rows,h1.rowsD,h1.pers,h1.fix⟩
 ·intro j v hv;simp only [look_upd] at hv;by_cases e:t=j
  ·rw [if_pos e] at hv;cases hv;subst e;refine ⟨(h1.slots t _ hl).1,Nat.lt_succ_self _,fun Q hQ=>?_⟩;simp only [St.W,look,Nat.beq_refl] at hQ;cases hQ;exact ⟨rfl,rfl,rfl⟩
  ·rw [if_neg e] at hv;exact h1.slots j v hv
 ·intro j g pol b x hv;simp only [look_upd] at hv ⊢;by_cases e:t=j
  ·rw [if_pos e] at hv; cases hv
  ·rw [if_neg e] at hv;obtain ⟨k1,k2⟩:=h1.grds j g pol b x hv;refine ⟨k1,?_⟩;rw [if_neg (fun e'=>?_)]
   ·exact k2
   ·rw [← e'] at k1;have k1':hasNat c.st.gs t=true:=k1;rw [hg] at k1'; cases k1'
end
theorem V.ar {C:Ctx} (t i:Nat) (R:Row) {c:Cfg} (h:V C ⟨c.todo,{ c.st with slots:=upd c.st.slots t (.v (.one (.row c.st.nr R.s R.n R.cap))),rows:=(c.st.nr,R)::c.st.rows,nr:=c.st.nr+1 }⟩) (hl:look c.st.slots t=some (.v (.one (.val (.slice R.s R.n R.cap)))):=by kernel_rfl) (hg:hasNat c.st.gs t=false:=by kernel_rfl) (hp:c.st.pers[i]?=some (rowP R):=by kernel_rfl) (ho:R.own=false:=by kernel_rfl):V C c:=V.asRow t i R hl hg hp ho h
end Go.SX
end
section
namespace Go.SX
open Go
def wfS (n:Nat):SV→Bool
 | .ptr b _=>Nat.blt b n
 | .fn _ cap=>cap.all fun b=>Nat.blt b n
 | x=>plainB x
def wfC (n:Nat):CV→Bool
 | .one x=>wfS n x
 | .agg xs=>xs.all (wfS n)
def wfR (n:Nat):RV→Bool
 | .v x=>wfC n x
 | .tup xs=>xs.all (wfC n)
 | .grd _ _ _ _=>false
theorem wfS_ok {n:Nat} {x:SV} (h:wfS n x=true) {W:WF} (hW:n=W.n):x.wf W:=by
 subst hW;cases x with
 | ptr b off=>exact Nat.blt_eq.mp h
 | fn f cap=>intro c hc; exact Nat.blt_eq.mp (List.all_eq_true.1 h c hc)
 | _=>first | trivial | cases h
theorem wfC_ok {n:Nat} {x:CV} (h:wfC n x=true) {W:WF} (hW:n=W.n):x.wf W:=by
 cases x with
 | one x=>exact wfS_ok h hW
 | agg xs=>intro y hy; exact wfS_ok (List.all_eq_true.1 h y hy) hW
theorem wfR_ok {n:Nat} {x:RV} (h:wfR n x=true) {W:WF} (hW:n=W.n):x.wf W∧∀ g pol b y,x≠.grd g pol b y:=by
 cases x with
 | v x=>exact ⟨wfC_ok h hW,by simp⟩
 | tup xs=>exact ⟨fun y hy=>wfC_ok (List.all_eq_true.1 h y hy) hW,by simp⟩
 | grd=>cases h
def PersOk (ps:List Pers) (w:World):Prop :=
 ∀ p∈ps,p.φ w∧(∀ w',(∀ k,p.D k→w'.heap[k]?=w.heap[k]?)→p.φ w')∧∀ k,p.D k→k<w.heap.size
def blkP (g:Nat) (cells:List SV) (e:TypeId):Pers:=⟨fun k=>k=g,fun w=>w.heap[g]?=some (.cells (cells.map SV.den0).toArray e (0,0))⟩
section
variable {C:Ctx} {ρ:Nat→Nat} {s:St} {a:Act} {w:World}
theorem Sat.persOk (h:Sat C ρ s a w) (pm:List Bool):PersOk (keepP pm s.pers) w:=by
 intro p hp;obtain ⟨h1,h2,h3⟩:=h.pers p (keepP_sub _ _ p hp);exact ⟨h1,h2,fun k hk=>(h3 k hk).1⟩
theorem Calls.of_P {P:Program} {f:FuncId} {fn:Func} {R:Ending→World→Prop} {w:World} (ps:List Pers) (hps:PersOk ps w) (xs:List CV) (wr:Bool)
  (hf:P.funcs[f]?=some fn) (hb:fn.body.isSome=true) (hle:Nat.ble xs.length fn.ntmps=true) (hw:xs.all (wfC 0)=true)
  (h:V ⟨P,f,R,fun _=>False,w,fun _=>0,none⟩ ⟨[.code (bodyOf fn)],st0 fn.ntmps xs [] 0 [] 0 ps wr⟩):Calls P f (xs.map (CV.den (fun _=>0))).toArray w R:=by
 refine Calls.of_V (fun _=>False) (fun _=>0) (fun _=>0) xs (st0 fn.ntmps xs [] 0 [] 0 ps wr) hf hb hle (fun a h1 h2 h3=>?_) h;refine ⟨h1,?_,?_,?_,?_,?_,h2,Chg.refl _ _,?_,?_,?_,fun b hb=>absurd hb (Nat.not_lt_zero b)⟩
 ·intro i v hv;obtain ⟨x,rfl,_,hx⟩:=look_enum xs 0 i v hv;exact ⟨h3 i x (by simpa using hx),wfC_ok (List.all_eq_true.1 hw x (List.mem_of_getElem? hx)) rfl⟩
 ·intro i g pol c x hv;obtain ⟨y,e,_⟩:=look_enum xs 0 i _ hv;cases e
 ·intro b blk hb; simp [st0,look] at hb
 ·intro b c hb; exact absurd hb (Nat.not_lt_zero _)
 ·intro b hb; exact absurd hb (Nat.not_lt_zero _)
 ·intro r R hr; simp [st0,look] at hr
 ·intro r r' R R' hr; simp [st0,look] at hr
 ·intro p hp;obtain ⟨q1,q2,q3⟩:=hps p hp;exact ⟨q1,q2,fun k hk=>⟨q3 k hk,fun b hb=>absurd hb (Nat.not_lt_zero _),fun r R hr=>by simp [st0,look] at hr⟩⟩
theorem Calls.of_ptr {P:Program} {f:FuncId} {fn:Func} {R:Ending→World→Prop} {w:World} (g off:Nat) (hg:g<w.heap.size) (wr:Bool)
  (hf:P.funcs[f]?=some fn) (hb:fn.body.isSome=true) (hle:Nat.ble 1 fn.ntmps=true)
  (h:V ⟨P,f,R,fun _=>False,w,fun _=>g,none⟩ ⟨[.code (bodyOf fn)],{ st0 fn.ntmps [.one (.ptr 0 off)] [] 1 [] 0 [] wr with fx:=1 }⟩):Calls P f #[.pointer (some ⟨g,off,none⟩)] w R:=by
 refine Calls.of_V (fun _=>False) (fun _=>g) (fun _=>g) [.one (.ptr 0 off)] { st0 fn.ntmps [.one (.ptr 0 off)] [] 1 [] 0 [] wr with fx:=1 } hf hb hle (fun a h1 h2 h3=>?_) h;refine ⟨h1,?_,?_,?_,?_,?_,h2,Chg.refl _ _,?_,?_,?_,fun b hb=>⟨hb,rfl⟩⟩
 ·intro i v hv;obtain ⟨x,rfl,_,hx⟩:=look_enum _ 0 i v hv;refine ⟨h3 i x (by simpa using hx),?_⟩;have hm:=List.mem_of_getElem? hx;rcases List.mem_singleton.1 hm with rfl;exact Nat.zero_lt_one
 ·intro i g pol c x hv;obtain ⟨y,e,_⟩:=look_enum _ 0 i _ hv;cases e
 ·intro b blk hb; simp [st0,look] at hb
 ·intro b c hb hc _;have hb':b<1:=hb;have hc':c<1:=hc;omega
 ·intro b hb; exact hg
 ·intro r R hr; simp [st0,look] at hr
 ·intro r r' R R' hr; simp [st0,look] at hr
 ·intro p hp; simp [st0] at hp
theorem V.callQ (f:FuncId) (xs:List CV) (v:RV) {c:Cfg} (hc:callOf c=some (none,f,xs)) (hb:(entersB C.P f&&(wfR c.st.next v&&(afterOp c c.st v).isSome))=true)
  (h:∀ ρ a w,Sat C ρ c.st a w→Calls C.P f (xs.map (CV.den ρ)).toArray w (Gives (v.den ρ) w)) (k:V C (afterD c c.st v)):V C c:=by
 obtain ⟨h1,h2,h3⟩:=and3 hb;obtain ⟨w1,w2⟩:=wfR_ok (W:=c.st.W) h2 rfl;exact V.callD f xs v hc (enters h1) h3 w1 w2 h k
def loadOf (c:Cfg):Option (TypeId×Nat×Nat) :=
 match headOp c with
 | some (.load t x)=>match ev c.st none x with
  | some (.one (.val (.pointer (some ⟨g,off,none⟩))))=>some (t,g,off)
  | _=>none
 | _=>none
theorem V.loadP (i:Nat) (t:TypeId) (g off:Nat) (cells:List SV) (e:TypeId) (v:CV) {c:Cfg} (hc:loadOf c=some (t,g,off)) (hp:c.st.pers[i]?=some (blkP g cells e)) (hpl:cells.all plainB=true)
  (hv:cellsAt C.P t cells off=some v) (haf:(afterOp c c.st (.v v)).isSome=true) (k:V C (afterD c c.st (.v v))):V C c:=by
 unfold loadOf at hc;split at hc
 ·rename_i t' x hop;split at hc
  ·rename_i g' off' hx;cases hc;refine V.opM hop (fun ρ a w o ho hS=>?_);obtain ⟨e1,_⟩:=ev_sound hS.toP (GcOk.none c.st) hx;obtain ⟨p1,_,_⟩:=hS.pers _ (List.mem_of_getElem? hp);have hpl':∀ x∈cells,x.plain:=fun x hx=>plainB_ok (List.all_eq_true.1 hpl x hx);have hden:cells.map SV.den0=cells.map (SV.den ρ):=List.map_congr_left fun x hx=>(SV.plain_den (hpl' x hx) ρ).symm;have hh:w.heap[g]?=some (.cells (cells.map (SV.den ρ)).toArray e (0,0)):=by rw [← hden]; exact p1
   obtain ⟨l1,l2⟩:=cellsAt_load (ρ:=ρ) (w:=w) hv c.st.W (fun x hx=>SV.plain_wf (hpl' x hx) _) hh;refine ⟨ρ,.v v,w,c.st,?_,hS,l2,by simp,_,afterD_some haf,k⟩;unfold execOp;rw [ho];refine execVal2 ?_;rw [e1];simp only [CV.den,SV.den,Instr.loadAt,Instr.sureAddr,Sem.run_bind,Sem.run_pure,Result.andThen_ok,l1];rfl
  ·cases hc
 ·cases hc
end
theorem V.lp {C:Ctx} (i:Nat) (t:TypeId) (g off:Nat) (cells:List SV) (e:TypeId) (v:CV) {c:Cfg} (k:V C (afterD c c.st (.v v))) (hc:loadOf c=some (t,g,off):=by kernel_rfl) (hp:c.st.pers[i]?=some (blkP g cells e):=by kernel_rfl) (hpl:cells.all plainB=true:=by kernel_rfl)
    (hv:cellsAt C.P t cells off=some v:=by kernel_rfl) (haf:(afterOp c c.st (.v v)).isSome=true:=by kernel_rfl):V C c:=V.loadP i t g off cells e v hc hp hpl hv haf k
end Go.SX
end
section
namespace Go.SX
open Go
structure DAt where
 ops:Array Oper
 k:List Item
 c:Cfg
 d:DCfg
def dHead (P:Program) (L:Nat) (c:Cfg):Option DAt :=
 match drawOf c with
 | some (ops,k)=>match P.follows .mixedOrders,Region.noSelect ops,lastB ops L||Nat.ble ops.size L with
  | true,true,true=>match runDM P ops c.st.heap c.st.rows ops.size ⟨ops.size,Array.replicate ops.size false,c.st⟩ with
   | (d,[])=>some ⟨ops,k,c,d⟩
   | _=>none
  | _,_,_=>none
 | none=>none
def dCall (x:DAt):Option (Option (Nat×Bool×Bool)×FuncId×List CV) :=
 match Region.ready .any x.ops x.d.listed,x.d.fuel with
 | [i],_+1=>callD x.ops i x.d.st
 | _,_=>none
def dAfter (P:Program) (x:DAt) (v:RV):Option DAt :=
 match Region.ready .any x.ops x.d.listed,x.d.fuel with
 | [i],n+1=>match x.ops[i]? with
  | some o=>match x.d.st.put o.dst v with
   | some s'=>match runDM P x.ops x.c.st.heap x.c.st.rows x.ops.size ⟨n,x.d.listed.setIfInBounds i true,s'⟩ with
    | (d,[])=>some ⟨x.ops,x.k,x.c,d⟩
    | _=>none
   | none=>none
  | none=>none
 | _,_=>none
def dEnd (P:Program) (L:Nat) (x:DAt):Option Cfg :=
 match endD P x.ops L x.d with
 | some s1=>some ⟨x.k,s1⟩
 | none=>none
def VA (C:Ctx) (L:Nat) (x:DAt):Prop :=
 ∀ D:Held,D.ok→D.h0=x.c.st.heap→D.r0=x.c.st.rows→D.L=L→(LastOp x.ops L∨x.ops.size≤L)→Region.noSelect x.ops=true→D.rows x.d.st→VD C D x.ops x.k x.d
section
variable {C:Ctx}
theorem V.drawTo (L:Nat) {c:Cfg} {x:DAt} (h:dHead C.P L c=some x) (k:VA C L x):V C c:=by
 unfold dHead at h;split at h
 ·rename_i ops k' hc;split at h
  ·rename_i hm hsel hL;split at h
   ·rename_i d hrun;cases h;have hL':LastOp ops L∨ops.size≤L:=by
     rw [Bool.or_eq_true] at hL;rcases hL with hL | hL
     ·exact .inl (lastB_ok hL)
     ·exact .inr (Nat.le_of_ble_eq_true hL)
    refine V.draw [] [] L ops k' hc hm (fun D hD h1 h2 h3 h4 _ hrw _ _=>?_) (by simp);rw [heldOf_nil] at h1 h3;refine VD.runM hD (by rw [h4]; exact hL') hsel ops.size _ (by rw [h1,h3,hrun]; simp) hrw (fun hrw2=>?_);rw [h1,h3,hrun] at hrw2 ⊢;exact k D hD h1 h3 h4 hL' hsel hrw2
   ·cases h
  ·cases h
 ·cases h
theorem VA.call (L:Nat) (f:FuncId) (xs:List CV) (v:RV) {x y:DAt} (hc:dCall x=some (none,f,xs)) (hb:(entersB C.P f&&wfR x.d.st.next v)=true) (hy:dAfter C.P x v=some y)
  (h:∀ ρ a w,Sat C ρ x.d.st a w→Calls C.P f (xs.map (CV.den ρ)).toArray w (Gives (v.den ρ) w)) (k:VA C L y):VA C L x:=by
 intro D hD e1 e2 e3 hL hsel hrw;rw [Bool.and_eq_true] at hb;obtain ⟨b1,b2⟩:=hb;obtain ⟨w1,w2⟩:=wfR_ok (W:=x.d.st.W) b2 rfl;unfold dCall at hc;unfold dAfter at hy;split at hc
 ·rename_i i n hr hf;rw [hr,hf] at hy;simp only at hy;split at hy
  ·rename_i o ho;split at hy
   ·rename_i s' hput;split at hy
    ·rename_i d hrun;cases hy;refine VD.call i f xs v hr hf ho hc (enters b1) hput w1 w2 h ?_;have hW:=put_W hput;have hrw2:D.rows s':=⟨fun r R hR=>by rw [show s'.rows=x.d.st.rows from congrArg WF.rows hW]; exact hrw.1 r R hR,by rw [hW]; exact hrw.2⟩;refine VD.runM hD (by rw [e3]; exact hL) hsel x.ops.size _ (by rw [e1,e2,hrun]; simp) hrw2 (fun hrw3=>?_);rw [e1,e2,hrun] at hrw3 ⊢;exact k D hD e1 e2 e3 hL hsel hrw3
    ·cases hy
   ·cases hy
  ·cases hy
 ·cases hc
theorem VA.fin (L:Nat) {x:DAt} {c':Cfg} (h:dEnd C.P L x=some c') (k:V C c'):VA C L x:=by
 intro D hD e1 e2 e3 hL hsel hrw;unfold dEnd at h;split at h
 ·rename_i s1 hs;cases h;exact VD.fin (by rw [e3]; exact hs) k
 ·cases h
instance:Inhabited DAt:=⟨⟨#[],[],⟨[],{ n:=0,slots:=[],gs:=[],heap:=[],next:=0,rows:=[],nr:=0,pers:=[],wr:=false }⟩,⟨0,#[],{ n:=0,slots:=[],gs:=[],heap:=[],next:=0,rows:=[],nr:=0,pers:=[],wr:=false }⟩⟩⟩
def dHeadD (P:Program) (L:Nat) (c:Cfg):DAt:=(dHead P L c).getD default
def dAfterD (P:Program) (x:DAt) (v:RV):DAt:=(dAfter P x v).getD default
def dEndD (P:Program) (L:Nat) (x:DAt):Cfg:=(dEnd P L x).getD x.c
theorem some_getD {α:Type} {x:Option α} (d:α) (h:x.isSome=true):x=some (x.getD d):=by cases x<;>simp at h ⊢
theorem V.draw2 (L:Nat) (f1:FuncId) (xs1:List CV) (v1:RV) (f2:FuncId) (xs2:List CV) (v2:RV) {c:Cfg} (h0:(dHead C.P L c).isSome=true)
  (h1:dCall (dHeadD C.P L c)=some (none,f1,xs1)) (b1:(entersB C.P f1&&wfR (dHeadD C.P L c).d.st.next v1)=true) (g1:(dAfter C.P (dHeadD C.P L c) v1).isSome=true)
  (c1:∀ ρ a w,Sat C ρ (dHeadD C.P L c).d.st a w→Calls C.P f1 (xs1.map (CV.den ρ)).toArray w (Gives (v1.den ρ) w))
  (h2:dCall (dAfterD C.P (dHeadD C.P L c) v1)=some (none,f2,xs2)) (b2:(entersB C.P f2&&wfR (dAfterD C.P (dHeadD C.P L c) v1).d.st.next v2)=true) (g2:(dAfter C.P (dAfterD C.P (dHeadD C.P L c) v1) v2).isSome=true)
  (c2:∀ ρ a w,Sat C ρ (dAfterD C.P (dHeadD C.P L c) v1).d.st a w→Calls C.P f2 (xs2.map (CV.den ρ)).toArray w (Gives (v2.den ρ) w))
  (g3:(dEnd C.P L (dAfterD C.P (dAfterD C.P (dHeadD C.P L c) v1) v2)).isSome=true)
  (k:V C (dEndD C.P L (dAfterD C.P (dAfterD C.P (dHeadD C.P L c) v1) v2))):V C c :=
 V.drawTo L (some_getD default h0) (VA.call L f1 xs1 v1 h1 b1 (some_getD default g1) c1 (VA.call L f2 xs2 v2 h2 b2 (some_getD default g2) c2 (VA.fin L (some_getD _ g3) k)))
end
section
variable {C:Ctx} {ρ:Nat→Nat} {s:St} {a:Act} {w:World}
theorem V.blkIn (t g:Nat) (cells:List SV) (e:TypeId) {c:Cfg} (hl:look c.st.slots t=some (.v (.one (.val (.pointer (some ⟨g,0,none⟩)))))) (hg:hasNat c.st.gs t=false) (hp:c.st.pers=[blkP g cells e])
  (hpl:cells.all plainB=true) (hrows:c.st.rows=[])
  (h:V C ⟨c.todo,{ c.st with slots:=upd c.st.slots t (.v (.one (.ptr c.st.next 0))),heap:=(c.st.next,⟨cells,e,false⟩)::c.st.heap,next:=c.st.next+1,pers:=[] }⟩):V C c:=by
 intro ρ a w hS;obtain ⟨p1,_,p3⟩:=hS.pers (blkP g cells e) (by rw [hp]; simp);obtain ⟨q1,q2,_⟩:=p3 g rfl;have hpl':∀ x∈cells,x.plain:=fun x hx=>plainB_ok (List.all_eq_true.1 hpl x hx)
 let ρ':Nat→Nat:=fun i=>if i=c.st.next then g else ρ i
 have hρ:∀ b,b<c.st.next→ρ' b=ρ b:=fun b hb=>if_neg (by omega);have hρn:ρ' c.st.next=g:=if_pos rfl;have hle:c.st.W.le ⟨c.st.next+1,c.st.nr,c.st.rows⟩:=⟨Nat.le_succ _,Nat.le_refl _,fun _ _ _ h=>h⟩;refine h ρ' a w ⟨hS.n,?_,?_,?_,?_,?_,hS.defers,hS.chg,?_,?_,?_,fun b hb=>?_⟩
 ·intro i v hv;simp only [look_upd] at hv;by_cases e':t=i
  ·subst e';rw [if_pos rfl] at hv;cases hv;refine ⟨?_,Nat.lt_succ_self _⟩;rw [(hS.slots t _ hl).1];show some (Value.pointer (some ⟨g,0,none⟩))=some (.pointer (some ⟨ρ' c.st.next,0,none⟩));rw [hρn]
  ·rw [if_neg e'] at hv;obtain ⟨k1,k2⟩:=hS.slots i v hv;exact ⟨by rw [k1,RV.den_congr (W:=c.st.W) hρ v k2],RV.wf_mono hle v k2⟩
 ·intro i g' pol b x hv;simp only [look_upd] at hv ⊢;by_cases e':t=i
  ·rw [if_pos e'] at hv; cases hv
  ·rw [if_neg e'] at hv;obtain ⟨k1,k2⟩:=hS.grds i g' pol b x hv;refine ⟨k1,?_⟩;rw [if_neg (fun e2=>?_)]
   ·exact k2
   ·rw [← e2,hg] at k1; cases k1
 ·intro b blk hb;simp only [look] at hb;split at hb
  ·rename_i e';cases hb;have:=(beq_iff _ _).1 e';subst this;refine ⟨Nat.lt_succ_self _,?_,fun x hx=>SV.plain_wf (hpl' x hx) _,fun hh=>by cases hh⟩;rw [hρn];have:cells.map (SV.den ρ')=cells.map SV.den0:=List.map_congr_left fun x hx=>SV.plain_den (hpl' x hx) _;simp only [this];exact p1
  ·obtain ⟨k1,k2,k3,k4⟩:=hS.heap b blk hb;refine ⟨Nat.lt_succ_of_lt k1,?_,fun x hx=>SV.wf_mono hle x (k3 x hx),?_⟩
   ·rw [hρ b k1,SV.den_map_congr (W:=c.st.W) hρ _ k3]; exact k2
   ·rw [hρ b k1]; exact k4
 ·intro b d hb hd he;have hb':b<c.st.next+1:=hb;have hd':d<c.st.next+1:=hd;by_cases e1:b=c.st.next<;>by_cases e2:d=c.st.next
  ·omega
  ·subst e1; rw [hρn,hρ d (by omega)] at he; exact absurd he.symm (q2 d (by omega))
  ·subst e2; rw [hρn,hρ b (by omega)] at he; exact absurd he (q2 b (by omega))
  ·rw [hρ b (by omega),hρ d (by omega)] at he; exact hS.inj b d (by omega) (by omega) he
 ·intro b hb;have hb':b<c.st.next+1:=hb;by_cases e1:b=c.st.next
  ·subst e1; rw [hρn]; exact q1
  ·rw [hρ b (by omega)]; exact hS.lt b (by omega)
 ·intro r R hR;have hR':look c.st.rows r=some R:=hR;rw [hrows] at hR'; cases hR'
 ·intro r r' R R' hR;have hR':look c.st.rows r=some R:=hR;rw [hrows] at hR'; cases hR'
 ·intro p hp; cases hp
 ·obtain ⟨k1,k2⟩:=hS.fix b hb;exact ⟨Nat.lt_succ_of_lt k1,by rw [hρ b k1]; exact k2⟩
end
end Go.SX
end
section
namespace Go.SX
open Go
def GivesK {α:Type} (ρ:Nat→Nat) (F:St) (p:α→Prop) (v:α→RV) (F':α→St) (w:World) (e:Ending) (w':World):Prop :=
 ∃ x ρ',p x∧e=.returned ((v x).den ρ')∧(∀ b,b<F.next→ρ' b=ρ b)∧F.next≤(F' x).next ∧
  (∀ b,F.next≤b→b<(F' x).next→w.heap.size≤ρ' b∨touch ρ F (ρ' b))∧FSat ρ' (F' x) w' ∧
  (∀ b,b<F.next→∃ blk,look (F' x).heap b=some blk)∧(v x).wf (F' x).W∧Chg (touch ρ F) w w' ∧
  (∀ b blk,b<F.next→look (F' x).heap b=some blk→blk.rw=true→∃ blk0,look F.heap b=some blk0∧blk0.rw=true) ∧
  (∀ r R,look (F' x).rows r=some R→∀ k,R.uses k→(R.own=true∧touch ρ F k)∨(R.own=false∧usesAny F k)∨w.heap.size≤k) ∧
  (∀ q∈(F' x).pers,∀ k,q.D k→w.heap.size≤k∨touch ρ F k)
def CallsK {α:Type} (P:Program) (f:FuncId) (ys:List CV) (F:St) (p:α→Prop) (v:α→RV) (F':α→St):Prop :=
 ∀ ρ w,FSat ρ F w→Calls P f (ys.map (CV.den ρ)).toArray w (GivesK ρ F p v F' w)
def newP (n0:Nat) (S:Nat→Prop) (p:Pers):Pers:=⟨p.D,fun w=>p.φ w∧∀ k,p.D k→n0≤k∨S k⟩
def newHs (hs:List Nat) (n m:Nat):List Nat:=appendL hs (upto (m - hs.length) n)
def St.bringK (s:St) (hs rs:List Nat) (n0:Nat) (S:Nat→Prop) (F:St):St :=
 { s with heap:=bringHeap (newHs hs s.next F.next) s.nr s.heap F.heap,next:=s.next+(F.next - hs.length),rows:=bringRows s.nr (eraseAll rs s.rows) F.rows,nr:=s.nr+F.nr,
           pers:=appendL (F.pers.map (newP n0 S)) s.pers }
theorem appendL_eq {α:Type}:∀ (l m:List α),appendL l m=l++m
 | [],m=>rfl
 | x::l,m=>by simp only [appendL,appendL_eq l m,List.cons_append]
theorem newHs_old {hs:List Nat} {n m i:Nat} (h:i<hs.length):(newHs hs n m).getD i 0=hs.getD i 0:=by
 simp [newHs,appendL_eq,List.getD,List.getElem?_append_left h]
theorem newHs_new {hs:List Nat} {n m i:Nat} (h:hs.length≤i) (h':i<m):(newHs hs n m).getD i 0=n+(i - hs.length):=by
 simp only [newHs,appendL_eq,List.getD,List.getElem?_append_right h];rw [upto_get (by omega)];rfl
section
variable {C:Ctx} {ρ:Nat→Nat} {s:St} {a:Act} {w w':World}
theorem Sat.bringK1 (h:Sat C ρ s a w) {hs rs:List Nat} {F F':St} {ρ':Nat→Nat} (hp:(pickSt [] hs rs [] s).map fragOf=some (fragOf F)) (hnd:noKeyDup F'.heap=true)
  (hρ':∀ b,b<F.next→ρ' b=ρ (hs.getD b 0)) (hnext:F.next≤F'.next) (hnew:∀ b,F.next≤b→b<F'.next→w.heap.size≤ρ' b∨touch (fun i=>ρ (hs.getD i 0)) F (ρ' b))
  (hF:FSat ρ' F' w') (hkeep:∀ b,b<F.next→∃ blk,look F'.heap b=some blk) (hc:Chg (touch (fun i=>ρ (hs.getD i 0)) F) w w')
  (hrw:∀ b blk,b<F.next→look F'.heap b=some blk→blk.rw=true→∃ blk0,look F.heap b=some blk0∧blk0.rw=true)
  (hru:∀ r R,look F'.rows r=some R→∀ k,R.uses k→(R.own=true∧touch (fun i=>ρ (hs.getD i 0)) F k)∨(R.own=false∧usesAny F k)∨w.heap.size≤k)
  (hps:∀ q∈F'.pers,∀ k,q.D k→w.heap.size≤k∨touch (fun i=>ρ (hs.getD i 0)) F k) :
  ∃ ρ1,Sat C ρ1 (s.bringK hs rs C.w0.heap.size C.S F') a w'∧(∀ b,b<F'.next→ρ1 ((newHs hs s.next F'.next).getD b 0)=ρ' b) ∧
   (∀ v:RV,v.wf F'.W→(v.bring (newHs hs s.next F'.next) s.nr).wf (s.bringK hs rs C.w0.heap.size C.S F').W)∧∀ b,b<s.next→ρ1 b=ρ b:=by
 obtain ⟨Fp,hp,hfr⟩:=Option.map_eq_some_iff.1 hp;have hpk:=hp;unfold pickSt at hpk;split at hpk
 case h_2=>cases hpk
 rename_i sl hpp rows hnd1 hnd2 hsl hhp hrows;simp only [pickSlots,Option.some.injEq] at hsl;have hFeq:=Option.some.inj hpk;simp only [fragOf,Prod.mk.injEq] at hfr;obtain ⟨fr1,fr2,fr3,fr4⟩:=hfr;have hFn:F.next=hs.length:=by rw [← fr2,← hFeq]
 have hFr:F.rows=rows:=by rw [← fr3,← hFeq]
 have hFh:F.heap=hpp:=by rw [← fr1,← hFeq]
 have hltn:∀ i,i<hs.length→hs.getD i 0<s.next∧∃ blk,look s.heap (hs.getD i 0)=some blk:=by
  intro i hi;have hm:hs.getD i 0∈hs:=by simp [List.getD,List.getElem?_eq_getElem hi]
  have:∀ (l:List Nat) (i0:Nat) (r:List (Nat×Blk)),pickHeap hs rs s.heap l i0=some r→∀ b∈l,∃ blk,look s.heap b=some blk:=by
   intro l
   induction l with
   | nil=>intro i0 r _ b hb; simp at hb
   | cons c l ih =>
    intro i0 r hr b hb;simp only [pickHeap] at hr;split at hr
    ·rename_i blk hc;split at hr
     ·split at hr
      ·rename_i r' hr';rcases List.mem_cons.1 hb with rfl | hb
       ·exact ⟨blk,hc⟩
       ·exact ih _ _ hr' b hb
      ·cases hr
     ·cases hr
    ·cases hr
  obtain ⟨blk,hb⟩:=this hs 0 hpp hhp _ hm;exact ⟨(h.heap _ blk hb).1,blk,hb⟩
 have hmem:∀ b,b∈hs→∃ i,i<F.next∧hs.getD i 0=b:=by
  intro b hm;obtain ⟨i,hi,hbi⟩:=List.getElem_of_mem hm;exact ⟨i,by rw [hFn]; exact hi,by simp only [List.getD,List.getElem?_eq_getElem hi,Option.getD_some,hbi]⟩
 -- the new numbers
 let ρ1:Nat→Nat:=fun b=>if b<s.next then ρ b else ρ' (hs.length+(b - s.next))
 have hρ1:∀ b,b<s.next→ρ1 b=ρ b:=fun b hb=>if_pos hb;have hρn:∀ b,s.next≤b→ρ1 b=ρ' (hs.length+(b - s.next)):=fun b hb=>if_neg (by omega);have hback:∀ i,i<F'.next→ρ1 ((newHs hs s.next F'.next).getD i 0)=ρ' i∧(newHs hs s.next F'.next).getD i 0<s.next+(F'.next - hs.length):=by
  intro i hi;by_cases e:i<hs.length
  ·rw [newHs_old e,hρ1 _ (hltn i e).1,hρ' i (by omega)];exact ⟨rfl,by have:=(hltn i e).1; omega⟩
  ·rw [newHs_new (by omega) hi,hρn _ (by omega)];exact ⟨by congr 1; omega,by omega⟩
 -- what may be written,said of the caller's part
 have htouch:∀ k,touch (fun i=>ρ (hs.getD i 0)) F k→(∃ b blk,b∈hs∧look s.heap b=some blk∧blk.rw=true∧ρ b=k)∨∃ r R,r∈rs∧look s.rows r=some R∧R.own=true∧R.uses k:=by
  rintro k (⟨b,blk,hb,hbrw,hbk⟩ | ⟨r,R,hR,ho,hu⟩)
  ·rw [hFh] at hb;obtain ⟨c,blk0,_,h2,h3,_,_,h6⟩:=pickHeap_ok hhp b blk hb;simp only [Nat.sub_zero] at h2;have hg:hs.getD b 0=c:=by simp [List.getD,h2]
   simp only [hg] at hbk;exact .inl ⟨c,blk0,List.mem_of_getElem? h2,h3,by rw [← h6]; exact hbrw,hbk⟩
  ·rw [hFr] at hR;obtain ⟨r2,_,h2,h3⟩:=pickRows_ok hrows r R hR;simp only [Nat.sub_zero] at h2;exact .inr ⟨r2,R,List.mem_of_getElem? h2,h3,ho,hu⟩
 have htS:∀ k,touch (fun i=>ρ (hs.getD i 0)) F k→C.w0.heap.size≤k∨C.S k:=by
  intro k ht;rcases htouch k ht with ⟨b,blk,_,e2,e3,rfl⟩ | ⟨r2,R2,_,e2,e3,e4⟩
  ·exact (h.heap b blk e2).2.2.2 e3
  ·exact ((h.rows r2 R2 e2).2.2 k e4).2.2 e3
 have huses:∀ k,usesAny F k→∃ r R,r∈rs∧look s.rows r=some R∧R.uses k:=by
  rintro k ⟨r,R,hR,hu⟩;rw [hFr] at hR;obtain ⟨r2,_,h2,h3⟩:=pickRows_ok hrows r R hR;simp only [Nat.sub_zero] at h2;exact ⟨r2,R,List.mem_of_getElem? h2,h3,hu⟩
 -- an old block that is not handed on lies elsewhere
 have hother:∀ b,b<s.next→b ∉ hs→∀ k,(w.heap.size≤k∨touch (fun i=>ρ (hs.getD i 0)) F k)→ρ b≠k:=by
  intro b hb hm k hk e;rcases hk with hk | hk
  ·have:=h.lt b hb; omega
  ·rcases htouch k hk with ⟨b2,blk,m2,e2,_,e4⟩ | ⟨r2,R2,_,e2,_,e4⟩
   ·have:=h.inj b b2 hb (h.heap b2 blk e2).1 (e.trans e4.symm); subst this; exact hm m2
   ·exact ((h.rows r2 R2 e2).2.2 k e4).2.1 b hb e
 have hne:∀ b,b<s.next→∀ i,hs.length≤i→i<F'.next→ρ b≠ρ' i:=by
  intro b hb i hi hi';by_cases hm:b∈hs
  ·obtain ⟨j,hj,hbj⟩:=hmem b hm;intro e;have:=hF.inj j i (by omega) hi' (by rw [hρ' j hj,hbj]; exact e);omega
  ·exact hother b hb hm _ (hnew i (by omega) hi')
 have hsame:∀ k,k<w.heap.size→(∀ b blk,b∈hs→look s.heap b=some blk→ρ b≠k)→(∀ r R,r∈rs→look s.rows r=some R→R.own=true→¬ R.uses k)→w'.heap[k]?=w.heap[k]?:=by
  intro k hk h1 h2;refine hc.block k hk (fun ht=>?_);rcases htouch k ht with ⟨b,blk,e1,e2,_,e4⟩ | ⟨r,R,e1,e2,e3,e4⟩
  ·exact h1 b blk e1 e2 e4
  ·exact h2 r R e1 e2 e3 e4
 have hrow:∀ r R,look s.rows r=some R→r<s.nr:=fun r R hR=>(h.rows r R hR).1;have hW:∀ r R,look (s.bringK hs rs C.w0.heap.size C.S F').W.rows (s.nr+r)=some R→look F'.W.rows r=some R:=fun r R hR =>
  look_bringRows_left hR (fun R' hR'=>by have:=hrow _ R' (look_eraseAll hR').2; omega)
 have hleW:s.W.le (s.bringK hs rs C.w0.heap.size C.S F').W:=by
  refine ⟨Nat.le_add_right _ _,Nat.le_add_right _ _,fun r hr R hR=>?_⟩;have hr':r<s.nr:=hr;rcases look_bringRows hR with ⟨q,e,_⟩ | h2
  ·omega
  ·exact (look_eraseAll h2).2
 have hwfI:∀ x:SV,x.wf F'.W→(x.bring (newHs hs s.next F'.next) s.nr).wf (s.bringK hs rs C.w0.heap.size C.S F').W :=
  fun x hx=>SV.bring_wf (W:=F'.W) (W':=(s.bringK hs rs C.w0.heap.size C.S F').W) (fun b hb=>(hback b hb).2) (Nat.le_refl _) hW x hx
 have howners:∀ r R,look F'.rows r=some R→R.own=true→∀ k,R.uses k→C.w0.heap.size≤k∨C.S k:=by
  intro r R hR ho k hk;rcases hru r R hR k hk with ⟨_,ht⟩ | ⟨hno,_⟩ | hf
  ·exact htS k ht
  ·rw [ho] at hno; cases hno
  ·exact .inl (Nat.le_trans h.chg.size hf)
 -- blocks against what is at k
 have hsplit:∀ k,(∀ i,i<F'.next→ρ' i≠k)→(∀ b,b<s.next→b ∉ hs→ρ b≠k)→∀ b,b<s.next+(F'.next - hs.length)→ρ1 b≠k:=by
  intro k h1 h2 b hb;by_cases e:b<s.next
  ·rw [hρ1 b e];by_cases hm:b∈hs
   ·obtain ⟨j,hj,hbj⟩:=hmem b hm;rw [← hbj,← hρ' j hj];exact h1 j (by omega)
   ·exact h2 b e hm
  ·rw [hρn b (by omega)];exact h1 _ (by omega)
 have hblkne:∀ r R,look F'.rows r=some R→∀ k,R.uses k→∀ b,b<s.next+(F'.next - hs.length)→ρ1 b≠k:=by
  intro r R hR k hk;refine hsplit k (fun i hi=>((hF.rows r R hR).2.2 k hk).2 i hi) (fun b hb hm=>?_);rcases hru r R hR k hk with ⟨_,ht⟩ | ⟨_,hu⟩ | hf
  ·exact hother b hb hm k (.inr ht)
  ·obtain ⟨r2,R2,_,e2,e4⟩:=huses k hu;exact ((h.rows r2 R2 e2).2.2 k e4).2.1 b hb
  ·exact hother b hb hm k (.inl hf)
 -- a new row and an old one that stays
 have hstay:∀ q Q,q ∉ rs→look s.rows q=some Q→∀ k,(w.heap.size≤k∨touch (fun i=>ρ (hs.getD i 0)) F k)→¬ Q.uses k:=by
  intro q Q hq hQ k hk hk';rcases hk with hf | ht
  ·have:=((h.rows q Q hQ).2.2 k hk').1; omega
  ·rcases htouch k ht with ⟨b,blk,_,e2,_,e4⟩ | ⟨r2,R2,m2,e2,e3,e4⟩
   ·exact ((h.rows q Q hQ).2.2 k hk').2.1 b (h.heap b blk e2).1 e4
   ·exact h.rowsD r2 q R2 Q e2 hQ (fun e=>hq (e▸m2)) e3 k e4 hk'
 have hnewold:∀ r R,look F'.rows r=some R→∀ q Q,q ∉ rs→look s.rows q=some Q→(R.own=true∨Q.own=true)→∀ k,R.uses k→Q.uses k→False:=by
  intro r R hR q Q hq hQ ho k hk hk';rcases hru r R hR k hk with ⟨_,ht⟩ | ⟨hno,hu⟩ | hf
  ·exact hstay q Q hq hQ k (.inr ht) hk'
  ·obtain ⟨r2,R2,m2,e2,e4⟩:=huses k hu;rcases ho with ho | ho
   ·rw [ho] at hno; cases hno
   ·exact h.rowsD q r2 Q R2 hQ e2 (fun e=>hq (e▸m2)) ho k hk' e4
  ·exact hstay q Q hq hQ k (.inl hf) hk'
 refine ⟨ρ1,⟨h.n,fun i v hv=>⟨by rw [RV.den_congr (W:=s.W) hρ1 v (h.slots i v hv).2]; exact (h.slots i v hv).1,RV.wf_mono hleW v (h.slots i v hv).2⟩,h.grds,?_,?_,?_,h.defers,?_,?_,?_,?_,?_⟩,
    fun b hb=>(hback b hb).1,
    fun v hv=>RV.bring_wf (W:=F'.W) (W':=(s.bringK hs rs C.w0.heap.size C.S F').W) (fun b hb=>(hback b hb).2) (Nat.le_refl _) hW v hv,hρ1⟩
 ·intro b blk hb;rcases look_bringHeap hb with ⟨i,blk0,e1,e2,rfl⟩ | ⟨e1,e2⟩
  ·have hl:=noKeyDup_ok hnd i blk0 e2;obtain ⟨k1,k2,k3⟩:=hF.heap i blk0 hl;subst e1;obtain ⟨q1,q2⟩:=hback i k1;refine ⟨q2,?_,?_,?_⟩
   ·simp only [SV.bring_map,q1];rw [SV.den_map_congr (W:=F'.W) (ρ:=ρ') (fun b hb=>(hback b hb).1) _ k3];exact k2
   ·intro x hx; obtain ⟨y,hy,rfl⟩:=List.mem_map.1 hx; exact hwfI y (k3 y hy)
   ·intro hrw';rw [q1];by_cases e:i<F.next
    ·obtain ⟨blk1,f1,f2⟩:=hrw i blk0 e hl hrw';rw [hFh] at f1;obtain ⟨c,blk2,_,h2,h3,_,_,h6⟩:=pickHeap_ok hhp i blk1 f1;simp only [Nat.sub_zero] at h2;have hg:hs.getD i 0=c:=by simp [List.getD,h2]
     rw [hρ' i e,hg];exact (h.heap c blk2 h3).2.2.2 (by rw [← h6]; exact f2)
    ·rcases hnew i (by omega) k1 with q | q
     ·exact .inl (Nat.le_trans h.chg.size q)
     ·exact htS _ q
  ·obtain ⟨k1,k2,k3,k4⟩:=h.heap b blk e1;refine ⟨Nat.lt_of_lt_of_le k1 (Nat.le_add_right _ _),?_,fun x hx=>SV.wf_mono hleW x (k3 x hx),by rw [hρ1 b k1]; exact k4⟩;rw [hρ1 b k1,SV.den_map_congr (W:=s.W) hρ1 _ k3];by_cases hm:b∈hs
   ·obtain ⟨i,hi,hbi⟩:=hmem b hm;obtain ⟨blk',hb'⟩:=hkeep i hi;exact absurd (by rw [newHs_old (by omega)]; exact hbi) (e2 i blk' (look_mem hb'))
   ·rw [hsame _ (h.lt b k1) (fun c blk' hcm hcl e=>hm (h.inj c b (h.heap c blk' hcl).1 k1 e▸hcm)) (fun r R _ hR _ hu=>((h.rows r R hR).2.2 _ hu).2.1 b k1 rfl)];exact k2
 ·intro b c hb hc' e;have hb':b<s.next+(F'.next - hs.length):=hb;have hc'':c<s.next+(F'.next - hs.length):=hc';by_cases e1:b<s.next<;>by_cases e2:c<s.next
  ·rw [hρ1 b e1,hρ1 c e2] at e; exact h.inj b c e1 e2 e
  ·rw [hρ1 b e1,hρn c (by omega)] at e; exact absurd e (hne b e1 _ (by omega) (by omega))
  ·rw [hρ1 c e2,hρn b (by omega)] at e; exact absurd e.symm (hne c e2 _ (by omega) (by omega))
  ·rw [hρn b (by omega),hρn c (by omega)] at e;have:=hF.inj _ _ (by omega) (by omega) e;omega
 ·intro b hb;have hb':b<s.next+(F'.next - hs.length):=hb;by_cases e1:b<s.next
  ·rw [hρ1 b e1]; exact Nat.lt_of_lt_of_le (h.lt b e1) hc.size
  ·rw [hρn b (by omega)]; exact hF.lt _ (by omega)
 ·exact h.chg.trans hc (fun k ht=>htS k ht)
 ·intro r R hR;rcases look_bringRows hR with ⟨q,rfl,hq⟩ | hq
  ·obtain ⟨k0,k1,k2⟩:=hF.rows q R hq;exact ⟨by show s.nr+q<s.nr+F'.nr; omega,k1,fun k hk=>⟨(k2 k hk).1,hblkne q R hq k hk,fun ho=>howners q R hq ho k hk⟩⟩
  ·obtain ⟨hnm,hl⟩:=look_eraseAll hq;obtain ⟨k0,k1,k2⟩:=h.rows r R hl;refine ⟨Nat.lt_of_lt_of_le k0 (Nat.le_add_right _ _),k1.congr (fun k hk=>hsame k (k2 k hk).1 (fun b blk _ hb e=>(k2 k hk).2.1 b (h.heap b blk hb).1 e) (fun q Q hq hQ ho hu=>h.rowsD q r Q R hQ hl (fun e=>hnm (e▸hq)) ho k hu hk)),fun k hk=>⟨Nat.lt_of_lt_of_le (k2 k hk).1 hc.size,?_,(k2 k hk).2.2⟩⟩;refine hsplit k (fun i hi e=>?_) (fun b hb _=>(k2 k hk).2.1 b hb);by_cases e1:i<F.next
   ·rw [hρ' i e1] at e; exact (k2 k hk).2.1 _ (hltn i (by omega)).1 e
   ·exact hstay r R hnm hl k (e▸hnew i (by omega) hi) hk
 ·intro r1 r2 R1 R2 h1 h2 hne ho k hk1 hk2;rcases look_bringRows h1 with ⟨q1,rfl,l1⟩ | l1<;>rcases look_bringRows h2 with ⟨q2,rfl,l2⟩ | l2
  ·exact hF.rowsD q1 q2 R1 R2 l1 l2 (fun e=>hne (by rw [e])) ho k hk1 hk2
  ·obtain ⟨m2,l2'⟩:=look_eraseAll l2;exact hnewold q1 R1 l1 r2 R2 m2 l2' (.inl ho) k hk1 hk2
  ·obtain ⟨m1,l1'⟩:=look_eraseAll l1;exact hnewold q2 R2 l2 r1 R1 m1 l1' (.inr ho) k hk2 hk1
  ·exact h.rowsD r1 r2 R1 R2 (look_eraseAll l1).2 (look_eraseAll l2).2 hne ho k hk1 hk2
 ·intro p hp;rcases mem_appendL hp with hp | hp
  ·obtain ⟨q,hq,rfl⟩:=List.mem_map.1 hp;obtain ⟨p1,p2,p3⟩:=hF.pers q hq;have hpure:∀ k,q.D k→C.w0.heap.size≤k∨C.S k:=by
    intro k hk;rcases hps q hq k hk with e | e
    ·exact .inl (Nat.le_trans h.chg.size e)
    ·exact htS k e
   refine ⟨⟨p1,hpure⟩,fun w2 hw2=>⟨p2 w2 hw2,hpure⟩,fun k hD=>⟨(p3 k hD).1,hsplit k (fun i hi=>(p3 k hD).2.1 i hi) (fun b hb hm=>hother b hb hm k (hps q hq k hD)),fun r R hR ho hu=>?_⟩⟩;rcases look_bringRows hR with ⟨q',rfl,hq'⟩ | hq'
   ·exact (p3 k hD).2.2 q' R hq' ho hu
   ·obtain ⟨hnm,hl⟩:=look_eraseAll hq';exact hstay r R hnm hl k (hps q hq k hD) hu
  ·obtain ⟨p1,p2,p3⟩:=h.pers p hp;have hk:∀ k,p.D k→w'.heap[k]?=w.heap[k]?:=fun k hD =>
    hsame k (p3 k hD).1 (fun b blk _ hb e=>(p3 k hD).2.1 b (h.heap b blk hb).1 e) (fun r R _ hR ho hu=>(p3 k hD).2.2 r R hR ho hu)
   have hnt:∀ k,p.D k→¬ (w.heap.size≤k∨touch (fun i=>ρ (hs.getD i 0)) F k):=by
    rintro k hD (e | e)
    ·have:=(p3 k hD).1; omega
    ·rcases htouch k e with ⟨b,blk,_,e2,_,e4⟩ | ⟨r2,R2,_,e2,e3,e4⟩
     ·exact (p3 k hD).2.1 b (h.heap b blk e2).1 e4
     ·exact (p3 k hD).2.2 r2 R2 e2 e3 e4
   refine ⟨p2 _ hk,fun w2 hw2=>p2 w2 (fun k hD=>(hw2 k hD).trans (hk k hD)),fun k hD=>⟨Nat.lt_of_lt_of_le (p3 k hD).1 hc.size,?_,fun r R hR ho hu=>?_⟩⟩
   ·refine hsplit k (fun i hi e=>?_) (fun b hb _=>(p3 k hD).2.1 b hb);by_cases e1:i<F.next
    ·rw [hρ' i e1] at e; exact (p3 k hD).2.1 _ (hltn i (by omega)).1 e
    ·exact hnt k hD (e▸hnew i (by omega) hi)
   ·rcases look_bringRows hR with ⟨q,rfl,hq⟩ | hq
    ·rcases hru q R hq k hu with ⟨_,ht⟩ | ⟨hno,_⟩ | hf
     ·exact hnt k hD (.inr ht)
     ·rw [ho] at hno; cases hno
     ·exact hnt k hD (.inl hf)
    ·exact (p3 k hD).2.2 r R (look_eraseAll hq).2 ho hu
 ·intro b hb;obtain ⟨k1,k2⟩:=h.fix b hb;exact ⟨Nat.lt_of_lt_of_le k1 (Nat.le_add_right _ _),by rw [hρ1 b k1]; exact k2⟩
theorem Sat.bringK (h:Sat C ρ s a w) {hs rs:List Nat} {F F':St} {ρ':Nat→Nat} (hp:(pickSt [] hs rs [] s).map fragOf=some (fragOf F)) (hnd:noKeyDup F'.heap=true)
  (hρ':∀ b,b<F.next→ρ' b=ρ (hs.getD b 0)) (hnext:F.next≤F'.next) (hnew:∀ b,F.next≤b→b<F'.next→w.heap.size≤ρ' b∨touch (fun i=>ρ (hs.getD i 0)) F (ρ' b))
  (hF:FSat ρ' F' w') (hkeep:∀ b,b<F.next→∃ blk,look F'.heap b=some blk) (hc:Chg (touch (fun i=>ρ (hs.getD i 0)) F) w w')
  (hrw:∀ b blk,b<F.next→look F'.heap b=some blk→blk.rw=true→∃ blk0,look F.heap b=some blk0∧blk0.rw=true)
  (hru:∀ r R,look F'.rows r=some R→∀ k,R.uses k→(R.own=true∧touch (fun i=>ρ (hs.getD i 0)) F k)∨(R.own=false∧usesAny F k)∨w.heap.size≤k)
  (hps:∀ q∈F'.pers,∀ k,q.D k→w.heap.size≤k∨touch (fun i=>ρ (hs.getD i 0)) F k) :
  ∃ ρ1,Sat C ρ1 (s.bringK hs rs C.w0.heap.size C.S F') a w'∧(∀ b,b<F'.next→ρ1 ((newHs hs s.next F'.next).getD b 0)=ρ' b) ∧
   ∀ v:RV,v.wf F'.W→(v.bring (newHs hs s.next F'.next) s.nr).wf (s.bringK hs rs C.w0.heap.size C.S F').W:=by
 obtain ⟨ρ1,b1,b2,b3,_⟩:=h.bringK1 hp hnd hρ' hnext hnew hF hkeep hc hrw hru hps;exact ⟨ρ1,b1,b2,b3⟩
end
end Go.SX
end
section
namespace Go.SX
open Go
def walkB (hp:List (Nat×Blk)):Nat→List SV→List Nat→List Nat
 | 0,_,hs=>hs
 | _+1,[],hs=>hs
 | n+1,x::q,hs=>match x with
  | .ptr b _=>match hasNat hs b with
   | true=>walkB hp n q hs
   | false=>match look hp b with
    | some blk=>walkB hp n (appendL blk.cells q) (appendL hs [b])
    | none=>walkB hp n q (appendL hs [b])
  | .sli b _ _=>match hasNat hs b with
   | true=>walkB hp n q hs
   | false=>match look hp b with
    | some blk=>walkB hp n (appendL blk.cells q) (appendL hs [b])
    | none=>walkB hp n q (appendL hs [b])
  | .fn _ cap=>walkB hp n (appendL (cap.map fun b=>SV.ptr b 0) q) hs
  | _=>walkB hp n q hs
def walkR:List SV→List Nat→List Nat
 | [],rs=>rs
 | x::q,rs=>match x with
  | .row r _ _ _=>match hasNat rs r with
   | true=>walkR q rs
   | false=>walkR q (appendL rs [r])
  | .el r _ _ _ _=>match hasNat rs r with
   | true=>walkR q rs
   | false=>walkR q (appendL rs [r])
  | _=>walkR q rs
def cellsOf (hp:List (Nat×Blk)):List Nat→List SV
 | []=>[]
 | b::l=>match look hp b with
  | some blk=>appendL blk.cells (cellsOf hp l)
  | none=>cellsOf hp l
def CV.svs:CV→List SV
 | .one x=>[x]
 | .agg xs=>xs
def svsOf:List CV→List SV
 | []=>[]
 | x::l=>appendL x.svs (svsOf l)
def RV.svs:RV→List SV
 | .v x=>x.svs
 | .tup xs=>svsOf xs
 | .grd _ _ _ x=>x.svs
def canon (hp:List (Nat×Blk)) (hs0:List Nat) (q:List SV):List Nat×List Nat :=
 match walkB hp 1000 (appendL (cellsOf hp hs0) q) hs0 with
 | hs=>(hs,walkR (appendL (cellsOf hp hs) q) [])
def frameOf (c:Cfg):Option (FuncId×List CV×(List (Nat×Blk)×Nat×List (Nat×Row)×Nat)) :=
 match callOf c with
 | some (none,f,xs)=>match canon c.st.heap [] (svsOf xs) with
  | (hs,rs)=>match renC hs rs xs,pickSt [] hs rs [] c.st with
   | some ys,some s'=>some (f,ys,fragOf s')
   | _,_=>none
 | _=>none
def hsrs (c:Cfg):List Nat×List Nat :=
 match callOf c with
 | some (_,_,xs)=>canon c.st.heap [] (svsOf xs)
 | none=>([],[])
def getP:List (Nat×Bool)→List Pers→Option (List Pers)
 | [],_=>some []
 | (i,_)::l,ps=>match ps[i]? with
  | some p=>match getP l ps with
   | some qs=>some (p::qs)
   | none=>none
  | none=>none
def askP (n0:Nat) (S:Nat→Prop):List (Nat×Bool)→List Pers→List Pers
 | (_,true)::l,p::ps=>newP n0 S p::askP n0 S l ps
 | (_,false)::l,p::ps=>p::askP n0 S l ps
 | _,ps=>ps
theorem getP_mem:∀ {l:List (Nat×Bool)} {ps qs:List Pers},getP l ps=some qs→∀ q∈qs,q∈ps
 | [],ps,qs,h,q,hq=>by simp only [getP,Option.some.injEq] at h; subst h; simp at hq
 | (i,b)::l,ps,qs,h,q,hq=>by
  simp only [getP] at h;split at h
  ·rename_i p hp;split at h
   ·rename_i qs' hqs;cases h;rcases List.mem_cons.1 hq with rfl | hq
    ·exact List.mem_of_getElem? hp
    ·exact getP_mem hqs q hq
   ·cases h
  ·cases h
theorem askP_mem {n0:Nat} {S:Nat→Prop}:∀ {l:List (Nat×Bool)} {ps:List Pers},∀ p∈ps,p∈askP n0 S l ps∨newP n0 S p∈askP n0 S l ps
 | [],ps,p,hp=>.inl (by simpa [askP] using hp)
 | (_,true)::l,[],p,hp=>by simp at hp
 | (_,false)::l,[],p,hp=>by simp at hp
 | (_,true)::l,q::ps,p,hp=>by
  rcases List.mem_cons.1 hp with rfl | hp
  ·exact .inr (List.mem_cons_self ..)
  ·rcases askP_mem (l:=l) p hp with h | h
   ·exact .inl (List.mem_cons_of_mem _ h)
   ·exact .inr (List.mem_cons_of_mem _ h)
 | (_,false)::l,q::ps,p,hp=>by
  rcases List.mem_cons.1 hp with rfl | hp
  ·exact .inl (List.mem_cons_self ..)
  ·rcases askP_mem (l:=l) p hp with h | h
   ·exact .inl (List.mem_cons_of_mem _ h)
   ·exact .inr (List.mem_cons_of_mem _ h)
def behindK (n0:Nat) (S:Nat→Prop) (c:Cfg) (F':St) (v:RV):Cfg :=
 afterD c (c.st.bringK (hsrs c).1 (hsrs c).2 n0 S F') (v.bring (newHs (hsrs c).1 c.st.next F'.next) c.st.nr)
def okK (c:Cfg) (F':St) (v:RV):Bool :=
 noKeyDup F'.heap&&(ngB v&&(afterOp c (c.st.bringK (hsrs c).1 (hsrs c).2 0 (fun _=>False) F') (v.bring (newHs (hsrs c).1 c.st.next F'.next) c.st.nr)).isSome)
section
variable {C:Ctx} {ρ:Nat→Nat} {s:St} {a:Act} {w:World}
theorem bringK_put (s:St) (hs rs:List Nat) (n0 n1:Nat) (S S1:Nat→Prop) (F:St) (d:Option Nat) (v:RV) :
  ((s.bringK hs rs n0 S F).put d v).isSome=((s.bringK hs rs n1 S1 F).put d v).isSome:=by
 unfold St.put;simp only [St.bringK];split
 ·rfl
 ·split
  ·rfl
  ·split<;>rfl
theorem afterOp_bringK (c:Cfg) (hs rs:List Nat) (n0 n1:Nat) (S S1:Nat→Prop) (F:St) (v:RV) :
  (afterOp c (c.st.bringK hs rs n0 S F) v).isSome=(afterOp c (c.st.bringK hs rs n1 S1 F) v).isSome:=by
 unfold afterOp;split
 ·split
  ·rename_i o _;have:=bringK_put c.st hs rs n0 n1 S S1 F o.dst v;cases h1:(c.st.bringK hs rs n0 S F).put o.dst v<;>cases h2:(c.st.bringK hs rs n1 S1 F).put o.dst v<;>rw [h1,h2] at this<;>simp at this ⊢
  ·rfl
 ·rfl
theorem FSat.withPers {ρ:Nat→Nat} {s' F:St} {w:World} (h:FSat ρ s' w) (he:fragOf s'=fragOf F)
  (hp:∀ p∈F.pers,p.φ w∧(∀ w',(∀ k,p.D k→w'.heap[k]?=w.heap[k]?)→p.φ w') ∧
   ∀ k,p.D k→k<w.heap.size∧(∀ b,b<F.next→ρ b≠k)∧∀ r R,look F.rows r=some R→R.own=true→¬ R.uses k):FSat ρ F w:=by
 obtain ⟨n,slots,gs,heap,next,rows,nr,pers,wr,fx⟩:=s';obtain ⟨n',slots',gs',heap',next',rows',nr',pers',wr',fx'⟩:=F;simp only [fragOf,Prod.mk.injEq] at he;obtain ⟨rfl,rfl,rfl,rfl⟩:=he;exact ⟨h.heap,h.inj,h.lt,h.rows,h.rowsD,hp⟩
theorem V.callK {α:Type} {f:FuncId} {ys:List CV} {F:St} {p:α→Prop} {v:α→RV} {F':α→St} {c:Cfg} (pi:List (Nat×Bool)) (hk:CallsK C.P f ys F p v F')
  (hb:entersB C.P f=true) (hc:frameOf c=some (f,ys,fragOf F)) (hpi:getP pi c.st.pers=some (askP C.w0.heap.size C.S pi F.pers))
  (hu:∀ x,okK c (F' x) (v x)=true) (k:∀ x,p x→V C (behindK C.w0.heap.size C.S c (F' x) (v x))):V C c:=by
 unfold frameOf at hc;split at hc
 case h_2=>cases hc
 rename_i f1 xs hcall;split at hc;rename_i hs rs hcan;split at hc
 case h_2=>cases hc
 rename_i ys1 s' hren hpk;simp only [Option.some.injEq,Prod.mk.injEq] at hc;obtain ⟨rfl,rfl,hfr⟩:=hc;have hh:hsrs c=(hs,rs):=by unfold hsrs; rw [hcall]; exact hcan
 refine V.callM hcall (enters hb) (fun ρ a w hS=>?_);have hFs:=(hS.pick hpk).toF;have hpn:s'.next=F.next:=by simp only [fragOf,Prod.mk.injEq] at hfr; exact hfr.2.1
 have hF:FSat (fun i=>ρ (hs.getD i 0)) F w:=by
  refine hFs.withPers hfr (fun q hq=>?_);have hbase:∀ q'∈c.st.pers,q'.φ w∧(∀ w',(∀ k,q'.D k→w'.heap[k]?=w.heap[k]?)→q'.φ w') ∧
    ∀ k,q'.D k→k<w.heap.size∧(∀ b,b<F.next→ρ (hs.getD b 0)≠k)∧∀ r R,look F.rows r=some R→R.own=true→¬ R.uses k:=by
   intro q' hq';obtain ⟨p1,p2,p3⟩:=hS.pers q' hq';refine ⟨p1,p2,fun k hD=>⟨(p3 k hD).1,fun b hb'=>?_,fun r R hR ho hu'=>?_⟩⟩
   ·have hlt:hs.getD b 0<c.st.next:=by
     have hn:b<s'.next:=by rw [hpn]; exact hb'
     have hpk2:=hpk;unfold pickSt at hpk2;split at hpk2
     case h_2=>cases hpk2
     rename_i sl hpp rows _ _ _ hhp _;have hs':=Option.some.inj hpk2;have hlen:b<hs.length:=by rw [← hs'] at hn; exact hn
     have:∀ (l:List Nat) (i0:Nat) (r:List (Nat×Blk)),pickHeap hs rs c.st.heap l i0=some r→∀ b∈l,∃ blk,look c.st.heap b=some blk:=by
      intro l
      induction l with
      | nil=>intro i0 r _ b hb; simp at hb
      | cons d l ih =>
       intro i0 r hr b hb;simp only [pickHeap] at hr;split at hr
       ·rename_i blk hc;split at hr
        ·split at hr
         ·rename_i r' hr';rcases List.mem_cons.1 hb with rfl | hb
          ·exact ⟨blk,hc⟩
          ·exact ih _ _ hr' b hb
         ·cases hr
        ·cases hr
       ·cases hr
     obtain ⟨blk,hbk⟩:=this hs 0 hpp hhp (hs.getD b 0) (by simp [List.getD,List.getElem?_eq_getElem hlen]);exact (hS.heap _ blk hbk).1
    exact (p3 k hD).2.1 _ hlt
   ·have hpk2:=hpk;unfold pickSt at hpk2;split at hpk2
    case h_2=>cases hpk2
    rename_i sl hpp rows _ _ _ _ hrows;have hs':=Option.some.inj hpk2;have hR':look s'.rows r=some R:=by
     simp only [fragOf,Prod.mk.injEq] at hfr; rw [hfr.2.2.1]; exact hR
    rw [← hs'] at hR';obtain ⟨r2,_,_,h3⟩:=pickRows_ok hrows r R hR';exact (p3 k hD).2.2 r2 R h3 ho hu'
  rcases askP_mem (n0:=C.w0.heap.size) (S:=C.S) (l:=pi) q hq with h1 | h1
  ·exact hbase q (getP_mem hpi q h1)
  ·obtain ⟨p1,p2,p3⟩:=hbase _ (getP_mem hpi _ h1);exact ⟨p1.1,fun w' hw'=>(p2 w' hw').1,p3⟩
 have hys:xs.map (CV.den ρ)=ys1.map (CV.den (fun i=>ρ (hs.getD i 0))):=by
  have hpk2:=hpk;unfold pickSt at hpk2;split at hpk2
  case h_2=>cases hpk2
  rename_i sl hpp rows _ _ _ _ hrows;have hRR:RowsRen rs c.st.W ⟨hs.length,rs.length,rows⟩:=by
   intro r' r R hr hl;obtain ⟨r2,_,h2,h3⟩:=pickRows_ok hrows r' R hl;simp only [Nat.sub_zero] at h2;rw [hr] at h2;cases h2;exact h3
  exact ((renC_ok (ρ:=ρ) (W:=c.st.W) (W':=⟨hs.length,rs.length,rows⟩) rfl rfl hRR hren).1).symm
 refine ⟨_,by rw [hys]; exact hk _ w hF,?_⟩;rintro e w' ⟨x,ρ',hp,rfl,k1,k2,k3,k4,k5,k6,k7,k8,k9,k10⟩;have hux:=hu x;unfold okK at hux;rw [hh] at hux;obtain ⟨u1,u2,u3⟩:=and3 hux;have hkx:=k x hp;unfold behindK at hkx;rw [hh] at hkx;have hfr':(pickSt [] hs rs [] c.st).map fragOf=some (fragOf F):=by rw [hpk]; exact congrArg some hfr
 obtain ⟨ρ1,b1,b2,b3⟩:=hS.bringK (F':=F' x) hfr' u1 k1 k2 k3 k4 k5 k7 k8 k9 k10;refine ⟨ρ1,(v x).bring (newHs hs c.st.next (F' x).next) c.st.nr,_,_,?_,b1,b3 _ k6,?_,afterD_some ?_,hkx⟩
 ·rw [RV.bring_den,RV.den_congr (W:=(F' x).W) (ρ:=ρ') b2 _ k6]
 ·intro g pol b y e;cases hvx:v x with
  | grd=>rw [hvx] at u2; cases u2
  | v=>rw [hvx] at e; cases e
  | tup=>rw [hvx] at e; cases e
 ·rw [afterOp_bringK c hs rs _ 0 _ (fun _=>False)]; exact u3
def fixS (F:St):SV→Option SV
 | .ptr b off=>match Nat.blt b F.next with
  | true=>some (.ptr b off)
  | false=>none
 | .row r _ _ _=>match look F.rows r,Nat.blt r F.nr with
  | some R,true=>some (.row r R.s R.n R.cap)
  | _,_=>none
 | .int k n=>some (.int k n)
 | .bool b=>some (.bool b)
 | .sb b=>some (.sb b)
 | .str l=>some (.str l)
 | .val v=>some (.val v)
 | .fn f cap=>match cap.all fun b=>Nat.blt b F.next with
  | true=>some (.fn f cap)
  | false=>none
 | .sli b n cap=>match Nat.blt b F.next with
  | true=>some (.sli b n cap)
  | false=>none
 | _=>none
def fixL (F:St):List SV→Option (List SV)
 | []=>some []
 | x::l=>match fixS F x,fixL F l with
  | some y,some m=>some (y::m)
  | _,_=>none
def fixC (F:St):CV→Option CV
 | .one x=>match fixS F x with
  | some y=>some (.one y)
  | none=>none
 | .agg xs=>match fixL F xs with
  | some ys=>some (.agg ys)
  | none=>none
def fixA (F:St):List CV→Option (List CV)
 | []=>some []
 | x::l=>match fixC F x,fixA F l with
  | some y,some m=>some (y::m)
  | _,_=>none
theorem blt_lt {a b:Nat} (h:Nat.blt a b=true):a<b:=Nat.le_of_ble_eq_true h
theorem fixS_wf {F:St} {x y:SV} (h:fixS F x=some y):y.wf F.W:=by
 cases x with
 | ptr b off=>simp only [fixS] at h; split at h<;>cases h; rename_i hb; exact blt_lt hb
 | row r s n cap =>
  simp only [fixS] at h;split at h
  ·rename_i R hR hr;cases h;exact ⟨blt_lt hr,fun R' hR'=>by rw [show look F.W.rows r=look F.rows r from rfl,hR] at hR'; cases hR'; exact ⟨rfl,rfl,rfl⟩⟩
  ·cases h
 | int k n=>cases h; trivial
 | bool b=>cases h; trivial
 | sb b=>cases h; trivial
 | str l=>cases h; trivial
 | val v=>cases h; trivial
 | fn f cap=>simp only [fixS] at h; split at h<;>cases h; rename_i hb; exact fun c hc=>blt_lt (List.all_eq_true.1 hb c hc)
 | sli b n cap=>simp only [fixS] at h; split at h<;>cases h; rename_i hb; exact blt_lt hb
 | el=>cases h
theorem fixL_wf {F:St}:∀ {l m:List SV},fixL F l=some m→∀ x∈m,x.wf F.W
 | [],m,h,x,hx=>by simp only [fixL,Option.some.injEq] at h; subst h; simp at hx
 | y::l,m,h,x,hx=>by
  simp only [fixL] at h;split at h
  ·rename_i z m' hz hm;cases h;rcases List.mem_cons.1 hx with rfl | hx
   ·exact fixS_wf hz
   ·exact fixL_wf hm x hx
  ·cases h
theorem fixC_wf {F:St} {x y:CV} (h:fixC F x=some y):y.wf F.W:=by
 cases x with
 | one x=>simp only [fixC] at h; split at h<;>cases h; rename_i hx; exact fixS_wf hx
 | agg xs=>simp only [fixC] at h; split at h<;>cases h; rename_i hx; exact fixL_wf hx
theorem fixA_wf {F:St}:∀ {l m:List CV},fixA F l=some m→∀ x∈m,x.wf F.W
 | [],m,h,x,hx=>by simp only [fixA,Option.some.injEq] at h; subst h; simp at hx
 | y::l,m,h,x,hx=>by
  simp only [fixA] at h;split at h
  ·rename_i z m' hz hm;cases h;rcases List.mem_cons.1 hx with rfl | hx
   ·exact fixC_wf hz
   ·exact fixA_wf hm x hx
  ·cases h
theorem CallsK.mk {α:Type} {P:Program} {f:FuncId} {fn:Func} {ys:List CV} {F:St} {p:α→Prop} {v:α→RV} {F':α→St} (wr:Bool) (hf:P.funcs[f]?=some fn)
  (hb:(fn.body.isSome&&Nat.ble ys.length fn.ntmps)=true) (hw:fixA F ys=some ys)
  (h:∀ ρ w,V ⟨P,f,GivesK ρ F p v F' w,touch ρ F,w,ρ,none⟩ ⟨[.code (bodyOf fn)],stF fn.ntmps ys F wr⟩):CallsK P f ys F p v F':=by
 intro ρ w hF;rw [Bool.and_eq_true] at hb;exact Calls.of_F hF ys wr hf hb.1 hb.2 (fixA_wf hw) (h ρ w)
def endOf (P:Program) (f:FuncId) (n:Nat) (c:Cfg):Option (RV×(List (Nat×Blk)×Nat×List (Nat×Row)×Nat)) :=
 match resOf P f c.st with
 | some u=>match canon c.st.heap (upto n 0) u.svs with
  | (hs,rs)=>match u.ren hs rs,pickSt [] hs rs [] c.st,preN n hs 0 with
   | some v,some s',true=>some (v,fragOf s')
   | _,_,_=>none
 | none=>none
def rwAll:List (Nat×Blk)→Bool
 | []=>true
 | (_,blk)::l=>match blk.rw with
  | true=>rwAll l
  | false=>false
def rwNew (n:Nat):List (Nat×Blk)→Bool
 | []=>true
 | (b,blk)::l=>match Nat.blt b n,blk.rw with
  | false,false=>false
  | _,_=>rwNew n l
def rwOld (n:Nat) (hp0:List (Nat×Blk)):List (Nat×Blk)→Bool
 | []=>true
 | (b,blk)::l=>match Nat.blt b n,blk.rw with
  | true,true=>match look hp0 b with
   | some blk0=>match blk0.rw with
    | true=>rwOld n hp0 l
    | false=>false
   | none=>false
  | _,_=>rwOld n hp0 l
theorem blt_of_lt {a b:Nat} (h:a<b):Nat.blt a b=true:=Nat.ble_eq_true_of_le h
theorem not_blt {a b:Nat} (h:¬ a<b):Nat.blt a b=false:=by
 cases e:Nat.blt a b with
 | true=>exact absurd (blt_lt e) h
 | false=>rfl
theorem rwNew_ok {n:Nat}:∀ {l:List (Nat×Blk)} {b:Nat} {blk:Blk},rwNew n l=true→look l b=some blk→n≤b→blk.rw=true
 | (k,q)::l,b,blk,h,hl,hn=>by
  simp only [rwNew] at h;simp only [look] at hl;split at hl
  ·rename_i e;have:=(beq_iff _ _).1 e;subst this;cases hl;split at h
   ·cases h
   ·rename_i hno;cases hrw:q.rw with
    | true=>rfl
    | false=>exact absurd hrw (hno (not_blt (by omega)))
  ·split at h
   ·cases h
   ·exact rwNew_ok h hl hn
theorem rwOld_ok {n:Nat} {hp0:List (Nat×Blk)}:∀ {l:List (Nat×Blk)} {b:Nat} {blk:Blk},rwOld n hp0 l=true→look l b=some blk→b<n→blk.rw=true→∃ blk0,look hp0 b=some blk0∧blk0.rw=true
 | (k,q)::l,b,blk,h,hl,hn,hrw=>by
  simp only [rwOld] at h;simp only [look] at hl;split at hl
  ·rename_i e;have:=(beq_iff _ _).1 e;subst this;cases hl;rw [blt_of_lt hn,hrw] at h;simp only at h;split at h
   ·rename_i blk0 hb;split at h
    ·rename_i h0; exact ⟨blk0,hb,h0⟩
    ·cases h
   ·cases h
  ·split at h
   ·split at h
    ·split at h
     ·exact rwOld_ok h hl hn hrw
     ·cases h
    ·cases h
   ·exact rwOld_ok h hl hn hrw
theorem preN_pre:∀ {n:Nat} {l:List Nat} {i:Nat},preN n l i=true→∀ b,b<n→l.getD b 0=i+b
 | n,l,i,h,b,hb=>by
  have:=preN_spec h hb;simp [List.getD,this]
theorem preN_len:∀ {n:Nat} {l:List Nat} {i:Nat},preN n l i=true→n≤l.length
 | 0,_,_,_=>Nat.zero_le _
 | n+1,b::l,i,h=>by
  simp only [preN] at h;split at h
  ·have:=preN_len h; simp; omega
  ·cases h
 | n+1,[],_,h=>by cases h
theorem V.retK {P:Program} {f:FuncId} {w0:World} {ρ0:Nat→Nat} {F:St} {α:Type} {p:α→Prop} {v:α→RV} {F':α→St} (x:α) (pi:List (Nat×Bool)) {c:Cfg}
  (hr:endOf P f F.next c=some (v x,fragOf (F' x))) (he:(isEnd c.todo&&(Nat.beq c.st.fx F.next&&(rwOld F.next F.heap (F' x).heap&&(rwNew F.next (F' x).heap&&(ownAll (F' x).rows&&told (F' x).next (F' x).heap)))))=true)
  (hpi:getP pi c.st.pers=some ((F' x).pers.map (newP w0.heap.size (touch ρ0 F)))) (hp:p x) :
  V ⟨P,f,GivesK ρ0 F p v F' w0,touch ρ0 F,w0,ρ0,none⟩ c:=by
 simp only [Bool.and_eq_true] at he;obtain ⟨e1,e2,e3,e4,e5,e6⟩:=he;have hfx:=(beq_iff _ _).1 e2;unfold endOf at hr;split at hr
 case h_2=>cases hr
 rename_i u hu;split at hr;rename_i hs rs hcan;split at hr
 case h_2=>cases hr
 rename_i v' s' hv hpk hpre;simp only [Option.some.injEq,Prod.mk.injEq] at hr;obtain ⟨rfl,hfr⟩:=hr;refine V.ret u hu e1 (fun ρ a w hS=>?_);have hS':=hS.pick hpk;have hfs:=hS'.toF;have hpk':=hpk;unfold pickSt at hpk';split at hpk'
 case h_2=>cases hpk'
 rename_i sl hpp rows hnd hndr hsl hhp hrows;have hs':=Option.some.inj hpk';have hn':s'.next=hs.length:=by rw [← hs']
 have hfr2:=hfr;simp only [fragOf,Prod.mk.injEq] at hfr2;obtain ⟨f1,f2,f3,f4⟩:=hfr2;have hnext:(F' x).next=hs.length:=by rw [← f2,hn']
 have hpl:=preN_len hpre;have hρ:∀ b,b<F.next→ρ (hs.getD b 0)=ρ0 b:=by
  intro b hb;rw [preN_pre hpre b hb,Nat.zero_add];exact (hS.fix b (by rw [hfx]; exact hb)).2
 have hW:s'.W=(F' x).W:=by simp only [St.W,f2,f3,f4]
 have hRR:RowsRen rs c.st.W ⟨hs.length,rs.length,rows⟩:=by
  intro r' r R hr hl;obtain ⟨r2,_,h2,h3⟩:=pickRows_ok hrows r' R hl;simp only [Nat.sub_zero] at h2;rw [hr] at h2;cases h2;exact h3
 obtain ⟨r1,r2,_⟩:=RV.ren_ok (ρ:=ρ) (W:=c.st.W) (W':=⟨hs.length,rs.length,rows⟩) rfl rfl hRR hv;have hwfu:u.wf c.st.W:=by
  replace hu:=(resOf_0 hu).1
  unfold resOf0 at hu;split at hu
  ·rename_i fn _;have hone:∀ (l:List ResultVar) (xs:List CV),resList P c.st l=some xs→∀ y∈xs,y.wf c.st.W:=by
    intro l
    induction l with
    | nil=>intro xs hx y hy; simp only [resList,Option.some.injEq] at hx; subst hx; simp at hy
    | cons q l ih =>
     intro xs hx y hy;simp only [resList] at hx;split at hx
     ·rename_i z hz;split at hx
      ·rename_i zs hzs;cases hx;rcases List.mem_cons.1 hy with rfl | hy
       ·cases q with
        | tmp t =>
         simp only [resOne] at hz;split at hz
         ·rename_i y' hl;cases hz;exact (hS.slots t _ hl).2
         ·cases hz
        | cell ad t =>
         simp only [resOne] at hz;split at hz
         ·split at hz
          ·rename_i blk hbl;obtain ⟨q1,q2,q3,q4⟩:=hS.heap _ blk hbl;exact (cellsAt_load (ρ:=ρ) (w:=w) hz c.st.W q3 q2).2
          ·cases hz
         ·cases hz
       ·exact ih zs hzs y hy
      ·cases hx
     ·cases hx
   split at hu
   ·rename_i y hy; cases hu; exact hone _ _ hy y (List.mem_cons_self ..)
   ·rename_i xs _ hy; cases hu; exact hone _ _ hy
   ·cases hu
  ·cases hu
 have hWs:s'.W=⟨hs.length,rs.length,rows⟩:=by rw [← hs']; rfl
 have hwv:(v x).wf (F' x).W:=by rw [← hW,hWs]; exact r2 hwfu
 have hbl:∀ i blk,look (F' x).heap i=some blk→i<hs.length∧∃ b0 blk0,hs.getD i 0=b0∧look c.st.heap b0=some blk0∧blk.rw=blk0.rw:=by
  intro i blk hl;rw [← f1,← hs'] at hl;obtain ⟨b,blk0,_,h2,h3,_,_,h6⟩:=pickHeap_ok hhp i blk hl;simp only [Nat.sub_zero] at h2;exact ⟨(List.getElem?_eq_some_iff.1 h2).1,b,blk0,by simp [List.getD,h2],h3,h6⟩
 have hpw:∀ q∈(F' x).pers,newP w0.heap.size (touch ρ0 F) q∈c.st.pers:=fun q hq=>getP_mem hpi _ (List.mem_map.2 ⟨q,hq,rfl⟩);refine ⟨x,fun i=>ρ (hs.getD i 0),hp,by rw [r1],hρ,by rw [hnext]; exact hpl,?_,?_,fun b hb=>told_ok e6 (by rw [hnext]; omega),hwv,hS.chg,?_,?_,?_⟩
 ·intro b hb hb';obtain ⟨blk,hlk⟩:=told_ok e6 hb';have hrw:=rwNew_ok e4 hlk hb;obtain ⟨_,b0,blk0,q1,q2,q3⟩:=hbl b blk hlk;have:=(hS.heap b0 blk0 q2).2.2.2 (by rw [← q3]; exact hrw);simp only [q1];exact this
 ·refine hfs.withPers hfr (fun q hq=>?_);obtain ⟨p1,p2,p3⟩:=hS.pers _ (hpw q hq);refine ⟨p1.1,fun w' hw'=>(p2 w' hw').1,fun k hD=>⟨(p3 k hD).1,fun b hb=>?_,fun r R hR ho hu'=>?_⟩⟩
  ·obtain ⟨blk,hlk⟩:=told_ok e6 hb;obtain ⟨_,b0,blk0,q1,q2,_⟩:=hbl b blk hlk;simp only [q1];exact (p3 k hD).2.1 b0 (hS.heap b0 blk0 q2).1
  ·rw [← f3,← hs'] at hR;obtain ⟨r2,_,_,h3⟩:=pickRows_ok hrows r R hR;exact (p3 k hD).2.2 r2 R h3 ho hu'
 ·intro b blk hb hlk hrw; exact rwOld_ok e3 hlk hb hrw
 ·intro r R hR k hk;have ho:=ownAll_ok e5 hR;have hR':look s'.rows r=some R:=by rw [f3]; exact hR
  rcases ((hS'.rows r R hR').2.2 k hk).2.2 ho with q | q
  ·exact .inr (.inr q)
  ·exact .inl ⟨ho,q⟩
 ·intro q hq k hD;exact (hS.pers _ (hpw q hq)).1.2 k hD
end
theorem V.z {P:Program} {f:FuncId} {w0:World} {ρ0:Nat→Nat} {F:St} {v:Unit→RV} {F':Unit→St} {c:Cfg} (hr:endOf P f F.next c=some (v (),fragOf (F' ())):=by kernel_rfl)
    (he:(isEnd c.todo&&(Nat.beq c.st.fx F.next&&(rwOld F.next F.heap (F' ()).heap&&(rwNew F.next (F' ()).heap&&(ownAll (F' ()).rows&&told (F' ()).next (F' ()).heap)))))=true:=by kernel_rfl)
    (hpi:getP [] c.st.pers=some ((F' ()).pers.map (newP w0.heap.size (touch ρ0 F))):=by kernel_rfl):V ⟨P,f,GivesK ρ0 F (fun _:Unit=>True) v F' w0,touch ρ0 F,w0,ρ0,none⟩ c:=V.retK () [] hr he hpi trivial
theorem V.c {α:Type} {C:Ctx} {f:FuncId} {ys:List CV} {F:St} {p:α→Prop} {v:α→RV} {F':α→St} {c:Cfg} (pi:List (Nat×Bool)) (hk:CallsK C.P f ys F p v F') (k:∀ x,p x→V C (behindK C.w0.heap.size C.S c (F' x) (v x)))
    (hb:entersB C.P f=true:=by kernel_rfl) (hc:frameOf c=some (f,ys,fragOf F):=by kernel_rfl) (hpi:getP pi c.st.pers=some (askP C.w0.heap.size C.S pi F.pers):=by kernel_rfl) (hu:∀ x,okK c (F' x) (v x)=true:=by exact fun _=>kq):V C c:=V.callK pi hk hb hc hpi hu k
theorem V.e {P:Program} {f:FuncId} {w0:World} {ρ0:Nat→Nat} {F:St} {α:Type} {p:α→Prop} {v:α→RV} {F':α→St} (x:α) (pi:List (Nat×Bool)) {c:Cfg} (hp:p x)
    (hr:endOf P f F.next c=some (v x,fragOf (F' x)):=by kernel_rfl) (he:(isEnd c.todo&&(Nat.beq c.st.fx F.next&&(rwOld F.next F.heap (F' x).heap&&(rwNew F.next (F' x).heap&&(ownAll (F' x).rows&&told (F' x).next (F' x).heap)))))=true:=by kernel_rfl)
    (hpi:getP pi c.st.pers=some ((F' x).pers.map (newP w0.heap.size (touch ρ0 F))):=by kernel_rfl):V ⟨P,f,GivesK ρ0 F p v F' w0,touch ρ0 F,w0,ρ0,none⟩ c:=V.retK x pi hr he hpi hp
theorem CallsK.m {α:Type} {P:Program} {f:FuncId} {fn:Func} {ys:List CV} {F:St} {p:α→Prop} {v:α→RV} {F':α→St} (wr:Bool) (hf:P.funcs[f]?=some fn) (h:∀ ρ w,V ⟨P,f,GivesK ρ F p v F' w,touch ρ F,w,ρ,none⟩ ⟨[.code (bodyOf fn)],stF fn.ntmps ys F wr⟩)
    (hb:(fn.body.isSome&&Nat.ble ys.length fn.ntmps)=true:=by kernel_rfl) (hw:fixA F ys=some ys:=by kernel_rfl):CallsK P f ys F p v F':=CallsK.mk wr hf hb hw h
end Go.SX
end
