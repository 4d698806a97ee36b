/- A symbolic run of the program that Lean checks, and what the functions of the program come to by it: part 9 of 12. -/
import Derived.Test.YteinbljapojcgaaGreatDoorQAH
set_option linter.unusedVariables false
section
namespace Go.Proofs
open Go Go.SX
set_option maxRecDepth 10000
theorem flat_le {α:Type} {f:α→List UInt8} {b:Nat}:∀ {l:List α},(∀ x∈l,(f x).length≤b)→(l.flatMap f).length≤b*l.length
 | [],_=>by simp
 | x::l,h=>by
  have h1:=h x (List.mem_cons_self ..);have h2:=flat_le (l:=l) (fun y hy=>h y (List.mem_cons_of_mem _ hy));rw [List.flatMap_cons,List.length_append,List.length_cons,Nat.mul_succ];omega
theorem all_mem {α:Type} {f:α→Bool} {l:List α} (h:l.all f=true):∀ x∈l,f x=true:=List.all_eq_true.1 h
theorem isTy_s {t:Ty} (h:isTy t=true):t.s.length≤255:=by
 unfold isTy at h;simp only [Bool.and_eq_true,decide_eq_true_eq] at h;omega
theorem isFm_s {t:Fm} (h:isFm t=true):t.s.length≤255:=by
 unfold isFm at h;simp only [Bool.and_eq_true,decide_eq_true_eq] at h;omega
theorem enc_len (f:Fl) (x:In) (h:f.fineB x=true):(f.enc x).length≤10000:=by
 have lst:∀ {α:Type} (g:α→List UInt8) (p:α→Bool) (l:List α),(∀ y,p y=true→(g y).length≤300)→(l.all p&&decide ((l.length:Int)≤16))=true→(encLst g l).length≤10000:=by
  intro α g p l hg hl;rw [Bool.and_eq_true,decide_eq_true_eq] at hl;have h1:=flat_le (f:=g) (b:=300) (l:=l) (fun y hy=>hg y (all_mem hl.1 y hy));have h2:=encN_len (l.length:Int);have h3:300*l.length≤4800:=by omega
  show (encN l.length++l.flatMap g).length≤10000;rw [List.length_append];omega
 cases f
 case D=>exact Nat.le_trans (encN_len _) (by decide)
 case A=>exact Nat.le_trans (encN_len _) (by decide)
 case B=>exact Nat.le_trans (encN_len _) (by decide)
 case N=>exact Nat.le_trans (encN_len _) (by decide)
 case M=>exact Nat.le_trans (encN_len _) (by decide)
 case P=>exact Nat.le_trans (encN_len _) (by decide)
 case T=>have:=isTy_s (t:=x.t) h; exact Nat.le_trans (encTy_len _) (by show 41+x.t.s.length≤_; omega)
 case U=>have:=isTy_s (t:=x.u) h; exact Nat.le_trans (encTy_len _) (by show 41+x.u.s.length≤_; omega)
 case W=>have:=isTy_s (t:=x.w) h; exact Nat.le_trans (encTy_len _) (by show 41+x.w.s.length≤_; omega)
 case V =>
  have h0:isVal x=true:=h;unfold isVal at h0;simp only [Bool.and_eq_true,decide_eq_true_eq] at h0;have h1:=encN_len x.vn;have h2:=encS_len x.vs;show (encN x.vn++encS x.vs).length≤_;rw [List.length_append];omega
 case L=>exact lst eI fineI x.l (fun y _=>Nat.le_trans (encN_len _) (by decide)) h
 case Y=>exact lst encTy isTy x.y (fun y hy=>by have:=isTy_s hy; exact Nat.le_trans (encTy_len _) (by omega)) h
 case F=>exact lst encFm isFm x.f (fun y hy=>by have:=isFm_s hy; exact Nat.le_trans (encFm_len _) (by omega)) h
 case Sz=>show 1≤_; decide
 case Rg=>show 1≤_; decide
 case aN=>show 4≤_; decide
 case aM=>show 4≤_; decide
 case pN=>show (encP _).length≤_; unfold encP; split<;>(show 4≤_; decide)
 case pM=>show (encP _).length≤_; unfold encP; split<;>(show 4≤_; decide)
 case far=>show 4≤_; decide
theorem rel_len (f:Fl) (x:In) (n:Nat):(f.rel x n).length≤1:=by
 cases f
 case pN=>show (relP _ _).length≤_; unfold relP; split<;>simp
 case pM=>show (relP _ _).length≤_; unfold relP; split<;>simp
 case far=>exact Nat.le_refl _
 all_goals exact Nat.zero_le _
def putL (x:In) (l:List Fl) (s:List UInt8×List (Int×Int)):List UInt8×List (Int×Int):=l.foldl (fun s f=>(s.1++f.enc x,s.2++f.rel x s.1.length)) s
def cEnc (x:In):List UInt8×List (Int×Int):=putL x ((opFind x.op).getD []) ([UInt8.ofNat x.op.toNat],[])
theorem putL_snoc (x:In) (l:List Fl) (f:Fl) (s:List UInt8×List (Int×Int)):putL x (l++[f]) s=((putL x l s).1++f.enc x,(putL x l s).2++f.rel x (putL x l s).1.length):=by
 simp [putL,List.foldl_append]
theorem putL_len (x:In):∀ (l:List Fl) (s:List UInt8×List (Int×Int)),l.all (fun f=>f.fineB x)=true→(putL x l s).1.length≤s.1.length+10000*l.length∧(putL x l s).2.length≤s.2.length+l.length
 | [],s,_=>⟨by simp [putL],by simp [putL]⟩
 | f::l,s,h=>by
  rw [List.all_cons,Bool.and_eq_true] at h;have:=putL_len x l (s.1++f.enc x,s.2++f.rel x s.1.length) h.2;have h1:=enc_len f x h.1;have h2:=rel_len f x s.1.length;simp only [List.length_append] at this;show (putL x l (s.1++f.enc x,s.2++f.rel x s.1.length)).1.length≤_∧(putL x l (s.1++f.enc x,s.2++f.rel x s.1.length)).2.length≤_;rw [List.length_cons];omega
theorem opByte {o:Nat} (h:o≤38):IntKind.u8.wrap (o:Int)=(((UInt8.ofNat o).toNat:Nat):Int):=by
 have:(UInt8.ofNat o).toNat=o:=by
  rw [UInt8.toNat_ofNat'];omega
 rw [this];simp [IntKind.wrap,IntKind.bits,IntKind.signed];omega
theorem bsv_len (x:UInt8):(bsv x).length=1:=rfl
theorem bsv_plain (x:UInt8):∀ y∈bsv x,y.plain:=by
 intro y hy;rw [List.mem_singleton.1 hy];trivial
structure EI where
 b:WSt
 i:Nat
def enSt (K:Kc) (x:In) (A:IA) (o:Nat) (q:Option Addr) (c:Nat) (j:EI):St :=
 { n:=45,slots:=[(3,.v (.one (.ptr 0 0))),(6,.v (.one (.ptr 1 0))),(24,.v (.one (.row 2 q (opFls o).length c))),(25,.v (.one (.int .i64 (opFls o).length))),(26,.v (.one (.int .i64 j.i)))],gs:=[],
    heap:=[(0,⟨inV x A,30,true⟩),(1,⟨[.row 0 j.b.q j.b.bs.length j.b.c,.row 1 j.b.q2 j.b.rs.length j.b.c2],99,true⟩)],next:=2,
    rows:=[(0,rowL bsv 0 j.b.bs j.b.q j.b.c 5 1 true),(1,rowL rlv (0,0) j.b.rs j.b.q2 j.b.c2 62 2 true),(2,rowL (fun f=>f.cells (K.a f)) .D (opFls o) q c 165 6 true)],nr:=3,pers:=cdP K::lsP x A,wr:=true,fx:=0 }
def rsF (rs:List (Int×Int)) (qc:Option Addr×Nat):St:={ noF with rows:=[(0,rowL rlv (0,0) rs qc.1 qc.2 62 2 true)],nr:=1 }
set_option maxHeartbeats 1000000 in
theorem cEncode (K:Kc) (hK:K.ok) (x:In) (A:IA) (hx:x.okL) (hop:1≤x.op∧x.op≤38) (hfn:((opFind x.op).getD []).all (fun f=>f.fineB x)=true) :
  CallsK Tryz.prog 69 [.agg [.val (.map (some K.gF)),.val (.map (some K.gO))],.agg (inV x A)] (stP (cdP K::lsP x A)) (fun _:Option Addr×Nat=>True) (fun qc=>.tup [.one (.str (cEnc x).1),.one (.row 0 qc.1 (cEnc x).2.length qc.2)]) (rsF (cEnc x).2):=by
 obtain ⟨o,ho⟩:∃ o:Nat,x.op=(o:Int):=⟨x.op.toNat,by omega⟩;have hisop:isOp o=true:=(isOp_iff o).2 (by omega);have hfind:opFind x.op=some (opFls o):=by unfold opFind; rw [if_pos hop,ho]; rfl
 rw [hfind] at hfn;simp only [Option.getD_some] at hfn;have hcE:cEnc x=putL x (opFls o) ([UInt8.ofNat o],[]):=by unfold cEnc; rw [hfind,ho]; rfl
 rw [hcE];have hfl:(opFls o).length≤7:=by
  have:=all_ops (p:=fun o=>decide ((opFls o).length≤7)) kq hisop;simpa using this
 refine CallsK.m true Tryz.func69 (fun ρ w=>?_);refine V.q ?_;refine V.c [(0,false)] (cOfN K hK o hisop x.op ho) (fun qc _=>?_);obtain ⟨q,c⟩:=qc;refine V.q ?_;refine V.cellAs 2 0 ⟨[.int .u8 (IntKind.u8.wrap x.op)],5,true⟩ (.int .u8 (IntKind.u8.wrap x.op)) (.int .u8 (((UInt8.ofNat o).toNat:Nat):Int)) kq rfl kq (fun _=>by rw [ho,opByte (by omega)]) ?_;refine V.rowB bsv 0 [UInt8.ofNat o] 5 1 2 kq bsv_len bsv_plain (by show 1≤maxLen; decide) (fun g=>kq) (fun g=>?_);refine V.cellRow 2 0 1 ⟨[.val (.slice (some ⟨g,0,none⟩) 1 1),.val (.slice none 0 0)],99,true⟩ (rowL bsv 0 [UInt8.ofNat o] (some ⟨g,0,none⟩) 1 5 1 true) kq rfl kq ?_;refine V.nilB rlv (0,0) 2 1 ⟨[.row 1 (some ⟨g,0,none⟩) 1 1,.val (.slice none 0 0)],99,true⟩ 62 2 kq rfl ?_;refine V.loopK [3,6,24,25,26] [true,true,true,true] (fun j:EI=>(opFls o).length - j.i) (enSt K x A o q c) (fun j=>j.i≤(opFls o).length∧j.b.bs=(putL x ((opFls o).take j.i) ([UInt8.ofNat o],[])).1∧j.b.rs=(putL x ((opFls o).take j.i) ([UInt8.ofNat o],[])).2) ⟨⟨[UInt8.ofNat o],some ⟨g,0,none⟩,1,[],none,0⟩,0⟩ kq ⟨Nat.zero_le _,rfl,rfl⟩ (fun j hj ih=>?_);obtain ⟨b,i⟩:=j;obtain ⟨hi,hb1,hb2⟩:=hj;simp only at hi hb1 hb2;have hlen:=putL_len x ((opFls o).take i) ([UInt8.ofNat o],[]) (List.all_eq_true.2 fun f hf=>all_mem hfn f (List.mem_of_mem_take hf));rw [← hb1,← hb2,List.length_take] at hlen;simp only [List.length_singleton,List.length_nil] at hlen;have hbl:b.bs.length≤100000∧b.rs.length≤100:=by omega
 refine V.iter ?_;refine V.q ?_;refine V.bn 27 (decide ((i:Int)<(opFls o).length)) (fun hb=>?_) (fun hb=>?_)
 ·have hlt:i<(opFls o).length:=by simpa using hb
  obtain ⟨f,hf⟩:∃ f,(opFls o).getD i .D=f:=⟨_,rfl⟩;have hff:f.fineB x=true:=by rw [← hf]; exact all_get hlt .D hfn
  refine V.t [] [(0:Int)≤i∧(i:Int)<(opFls o).length] ⟨by omega,by omega⟩ ?_;refine V.s 31 (.one (cloV ((opFls o).getD i .D).ids.2.2.1 (K.a ((opFls o).getD i .D)) ((opFls o).getD i .D).caps.2.2.1)) (.one (cloV f.ids.2.2.1 (K.a f) f.caps.2.2.1)) (fun _=>by rw [hf]) ?_;refine V.callL [(0,false),(1,false),(2,false),(3,false)] [1] [0,1] (flPut f K x A b hx hff (by omega) (by omega)) (by clear hf hff; cases f<;>kernel_rfl) (by clear hf hff; cases f<;>kernel_rfl) (by clear hf hff; cases f<;>kernel_rfl) kq (fun _=>kq) (fun b' hb'=>?_);refine V.q ?_;refine V.up 26 i (by omega) ?_;have htk:(opFls o).take (i+1)=(opFls o).take i++[f]:=by
   rw [List.take_add_one,List.getElem?_eq_getElem hlt];rw [List.getD,List.getElem?_eq_getElem hlt] at hf;simp only [Option.getD_some] at hf;rw [hf]; rfl
  refine V.againK [3,6,24,25,26] [true,true,true,true] (ih ⟨b',i+1⟩ ⟨hlt,?_,?_⟩ (by simp only; omega)) kq kq
  ·simp only;rw [htk,putL_snoc,hb'.1,hb1]
  ·simp only;rw [htk,putL_snoc,hb'.2,hb2,hb1]
 ·have hle:(opFls o).length=i:=by
   have:¬ i<(opFls o).length:=by simpa using hb
   omega
  rw [← hle,List.take_length] at hb1 hb2;refine V.q ?_;refine V.drawX [] [] 11 kq ?_;refine @VX.run _ [] [] 11 _ _ ([]:List (Ent Tryz.prog)) [] kq kq trivial ?_;refine @VX.bytes _ [] [] 11 _ _ 0 (rowL bsv 0 b.bs b.q b.c 5 1 true) b.bs kq rfl (fun _ _=>rfl) kq ?_;refine @VX.run _ [] [] 11 _ _ ([]:List (Ent Tryz.prog)) [] kq kq trivial ?_;refine @VX.stop _ [] [] 11 _ _ kq ?_;refine V.q ?_;obtain ⟨bs,q1,c1,rs,q2,c2⟩:=b;simp only at hb1 hb2;subst hb1 hb2;exact V.e ((q2,c2):Option Addr×Nat) [] trivial
def rdL (rl:List (Int×Int)) (X:RIn) (l:List Fl) (s:RSt×In):RSt×In:=l.foldl (fun s f=>if s.1.bad=true then s else f.rd rl X s.1 s.2) s
theorem rdL_snoc (rl:List (Int×Int)) (X:RIn) (l:List Fl) (f:Fl) (s:RSt×In):rdL rl X (l++[f]) s=if (rdL rl X l s).1.bad=true then rdL rl X l s else f.rd rl X (rdL rl X l s).1 (rdL rl X l s).2:=by
 unfold rdL;rw [List.foldl_append];rfl
theorem rdL_next {rl:List (Int×Int)} {X:RIn} {l l1:List Fl} {f:Fl} {s:RSt×In} {r:RSt} {x:In} {y:RSt×In×IA} (hl:l1=l++[f]) (h:(r,x)=rdL rl X l s) (hb:r.bad=false) (hy:y.1=(f.rd rl X r x).1∧y.2.1=(f.rd rl X r x).2) :
  (y.1,y.2.1)=rdL rl X l1 s:=by
 rw [hl,rdL_snoc,← h,hy.1,hy.2];simp only [hb,Bool.false_eq_true,if_false]
theorem rdL_stay {rl:List (Int×Int)} {X:RIn} {l l1:List Fl} {f:Fl} {s:RSt×In} {r:RSt} {x:In} (hl:l1=l++[f]) (h:(r,x)=rdL rl X l s) (hb:r.bad=true):(r,x)=rdL rl X l1 s:=by
 rw [hl,rdL_snoc,← h];simp only [hb,if_true]
theorem le16 {a b c i:Nat} (h1:a≤b+16) (h2:b≤16*i) (h3:c=a):c≤16*(i+1):=by omega
theorem le16s {a i:Nat} (h:a≤16*i):a≤16*(i+1):=by omega
def cDecR (rl:List (Int×Int)) (X:RIn) (at_:Nat):RSt×In :=
 rdL rl X ((opFind ((takeB X ⟨at_,false⟩).1.toNat:Int)).getD []) ((takeB X ⟨at_,false⟩).2,emptyI ((takeB X ⟨at_,false⟩).1.toNat:Int))
def cDecOk (rl:List (Int×Int)) (X:RIn) (at_:Nat):Bool :=
 (opFind ((takeB X ⟨at_,false⟩).1.toNat:Int)).isSome&&!(cDecR rl X at_).1.bad&&cFine (cDecR rl X at_).2
def inZ:List SV:=[.int .i64 0,.int .i64 0,.int .i64 0,.int .i64 0,.int .i64 0,.int .i64 0,.int .i64 0,.bool false,.str [],.int .i64 0,.int .i64 0,.int .i64 0,.bool false,.str [],.int .i64 0,.int .i64 0,.int .i64 0,.bool false,.str [],
  .int .i64 0,.int .i64 0,.int .i64 0,.int .i64 0,.str [],.val (.slice none 0 0),.val (.slice none 0 0),.val (.slice none 0 0),.bool false,.bool false]
structure DI where
 r:RSt
 x:In
 A:IA
 i:Nat
def dcSt (K:Kc) (rl:List (Int×Int)) (X:RIn) (o:Nat) (q:Option Addr) (c:Nat) (j:DI):St :=
 { n:=67,slots:=[(4,.v (.one (.ptr 0 0))),(8,.v (.one (.ptr 1 0))),(11,.v (.one (.ptr 2 0))),(12,.v (.one (.ptr 3 0))),(14,.v (.one (.bool true))),(33,.v (.one (.row 3 q (opFls o).length c))),(34,.v (.one (.int .i64 (opFls o).length))),(35,.v (.one (.int .i64 j.i)))],gs:=[],
    heap:=[(0,⟨[.val (.map (some K.gF)),.val (.map (some K.gO))],110,true⟩),(1,⟨inZ,30,true⟩),(2,⟨[.str X.s,.int .i64 (j.r.at_:Int),.val (.slice X.q X.n X.c),.sb j.r.bad],104,true⟩),(3,⟨inO j.x j.A,30,true⟩)],next:=4,
    rows:=[(0,rowL Fm.cells fm0 j.x.f j.A.qf j.A.cf 93 4 true),(1,rowL intv 0 j.x.l j.A.ql j.A.cl 3 1 true),(2,rowL Ty.cells ty0 j.x.y j.A.qy j.A.cy 23 5 true),(3,rowL (fun f=>f.cells (K.a f)) .D (opFls o) q c 165 6 true)],nr:=4,pers:=[cdP K,rowP (relRow rl X.q X.c)],wr:=true,fx:=0 }
theorem cTake (X:RIn) (r:RSt) (h:okIn X r):CallsK Tryz.prog 90 [.one (.ptr 0 0)] (rdF [] X r) (fun x:RSt=>x=(takeB X r).2) (fun _=>.v (.one (.int .u8 ((takeB X r).1.toNat:Int)))) (rdF [] X):=CallsK.ofF (fun _=>rfl) (rtake X r h)
theorem rdFour_ok {X:RIn} {r:RSt} (h:okIn X r):okIn X (rdFour X r).2:=takeB_ok (takeB_ok (takeB_ok (takeB_ok h)))
theorem rdList_ok {α:Type} {X:RIn} {g:RSt→α×RSt} (hg:∀ r,okIn X r→okIn X (g r).2):∀ (n:Nat) (r:RSt),okIn X r→okIn X (rdList g n r).2
 | 0,r,h=>h
 | n+1,r,h=>rdList_ok hg n _ (hg r h)
theorem rdList_len {α:Type} {g:RSt→α×RSt}:∀ (n:Nat) (r:RSt),(rdList g n r).1.length=n
 | 0,r=>rfl
 | n+1,r=>by simp [rdList,rdList_len n]
theorem rdLst_ok {α:Type} {X:RIn} {g:RSt→α×RSt} (hg:∀ r,okIn X r→okIn X (g r).2) {l:List α} {r:RSt} (h:okIn X r):okIn X (rdLst X g l r).2∧(rdLst X g l r).1.length≤l.length+16:=by
 unfold rdLst;split
 ·exact ⟨(rdNum_ok h).1,by simp⟩
 ·rename_i hn;refine ⟨rdList_ok hg _ _ (rdNum_ok h).1,?_⟩;simp only [List.length_append,rdList_len];simp at hn;omega
theorem rdPr_ok {no:Bool} {rl:List (Int×Int)} {X:RIn} {r:RSt} {old:Int} (h:okIn X r):okIn X (rdPr no rl X r old).2:=by
 unfold rdPr;split
 ·exact rdFour_ok h
 ·split
  ·exact rdRel_ok rl _ (rdFour_ok h)
  ·exact rdFour_ok h
theorem rd_ok (f:Fl) {rl:List (Int×Int)} {X:RIn} {r:RSt} {x:In} (h:okIn X r) :
  okIn X (f.rd rl X r x).1∧(f.rd rl X r x).2.f.length≤x.f.length+16∧(f.rd rl X r x).2.l.length≤x.l.length+16∧(f.rd rl X r x).2.y.length≤x.y.length+16:=by
 cases f
 case D=>exact ⟨(rdNum_ok h).1,Nat.le_add_right _ _,Nat.le_add_right _ _,Nat.le_add_right _ _⟩
 case A=>exact ⟨(rdNum_ok h).1,Nat.le_add_right _ _,Nat.le_add_right _ _,Nat.le_add_right _ _⟩
 case B=>exact ⟨(rdNum_ok h).1,Nat.le_add_right _ _,Nat.le_add_right _ _,Nat.le_add_right _ _⟩
 case N=>exact ⟨(rdNum_ok h).1,Nat.le_add_right _ _,Nat.le_add_right _ _,Nat.le_add_right _ _⟩
 case M=>exact ⟨(rdNum_ok h).1,Nat.le_add_right _ _,Nat.le_add_right _ _,Nat.le_add_right _ _⟩
 case P=>exact ⟨(rdNum_ok h).1,Nat.le_add_right _ _,Nat.le_add_right _ _,Nat.le_add_right _ _⟩
 case T=>exact ⟨rdTy_ok h,Nat.le_add_right _ _,Nat.le_add_right _ _,Nat.le_add_right _ _⟩
 case U=>exact ⟨rdTy_ok h,Nat.le_add_right _ _,Nat.le_add_right _ _,Nat.le_add_right _ _⟩
 case W=>exact ⟨rdTy_ok h,Nat.le_add_right _ _,Nat.le_add_right _ _,Nat.le_add_right _ _⟩
 case V=>exact ⟨rdStr_ok (rdNum_ok h).1,Nat.le_add_right _ _,Nat.le_add_right _ _,Nat.le_add_right _ _⟩
 case L=>exact ⟨(rdLst_ok (fun r h=>gI_ok h) h).1,Nat.le_add_right _ _,(rdLst_ok (l:=x.l) (fun r h=>gI_ok h) h).2,Nat.le_add_right _ _⟩
 case Y=>exact ⟨(rdLst_ok (fun r h=>rdTy_ok h) h).1,Nat.le_add_right _ _,Nat.le_add_right _ _,(rdLst_ok (l:=x.y) (fun r h=>rdTy_ok h) h).2⟩
 case F=>exact ⟨(rdLst_ok (fun r h=>rdFm_ok h) h).1,(rdLst_ok (l:=x.f) (fun r h=>rdFm_ok h) h).2,Nat.le_add_right _ _,Nat.le_add_right _ _⟩
 case Sz=>exact ⟨rdFlag_ok h,Nat.le_add_right _ _,Nat.le_add_right _ _,Nat.le_add_right _ _⟩
 case Rg=>exact ⟨rdFlag_ok h,Nat.le_add_right _ _,Nat.le_add_right _ _,Nat.le_add_right _ _⟩
 case aN=>exact ⟨rdFour_ok h,Nat.le_add_right _ _,Nat.le_add_right _ _,Nat.le_add_right _ _⟩
 case aM=>exact ⟨rdFour_ok h,Nat.le_add_right _ _,Nat.le_add_right _ _,Nat.le_add_right _ _⟩
 case pN=>exact ⟨rdPr_ok h,Nat.le_add_right _ _,Nat.le_add_right _ _,Nat.le_add_right _ _⟩
 case pM=>exact ⟨rdPr_ok h,Nat.le_add_right _ _,Nat.le_add_right _ _,Nat.le_add_right _ _⟩
 case far=>exact ⟨rdFour_ok (rdRel_ok rl _ h),Nat.le_add_right _ _,Nat.le_add_right _ _,Nat.le_add_right _ _⟩
def dcV (n:Nat) (ok:Bool) (y:In×IA):RV:=.tup [.agg (inV y.1 y.2),.one (.int .i64 n),.one (.sb ok)]
set_option maxHeartbeats 1000000 in
theorem cDecode (K:Kc) (hK:K.ok) (rl:List (Int×Int)) (X:RIn) (hX:X.n=rl.length) (hl:rl.length≤1000000000) (at_:Nat) (hok:okIn X ⟨at_,false⟩) :
  CallsK Tryz.prog 70 [.agg [.val (.map (some K.gF)),.val (.map (some K.gO))],.one (.str X.s),.one (.val (.slice X.q X.n X.c)),.one (.int .i64 (at_:Int))] (psOf [cdP K,rowP (relRow rl X.q X.c)])
   (fun y:In×IA=>y.1=(cDecR rl X at_).2) (dcV (cDecR rl X at_).1.at_ (cDecOk rl X at_)) (fun y=>psOf (lsP y.1 y.2)):=by
 have hok1:okIn X (takeB X ⟨at_,false⟩).2:=takeB_ok hok;obtain ⟨o,ho⟩:∃ o:Nat,(takeB X ⟨at_,false⟩).1.toNat=o:=⟨_,rfl⟩;have hox:o<256:=by rw [← ho]; exact (takeB X ⟨at_,false⟩).1.toNat_lt
 have hwr:IntKind.i64.wrap ((o:Nat):Int)=(o:Int):=by
  simp [IntKind.wrap,IntKind.bits,IntKind.signed];omega
 by_cases hop:1≤(o:Int)∧(o:Int)≤38
 case neg =>
  have hno:¬ (1≤(o:Int)∧(o:Int)≤38):=hop;have hfind:opFind (o:Int)=none:=by unfold opFind; rw [if_neg hop]
  rw [show cDecOk rl X at_=false by unfold cDecOk; rw [ho,hfind]; rfl,show cDecR rl X at_=((takeB X ⟨at_,false⟩).2,emptyI (o:Int)) by unfold cDecR; rw [ho,hfind]; rfl];refine CallsK.m true Tryz.func70 (fun ρ w=>?_);refine V.q ?_;refine V.soft 2 ?_;refine V.c [] (cTake X ⟨at_,false⟩ hok) (fun r1 hr1=>?_);subst hr1;refine V.q ?_;refine V.s 24 (.one (.int .i64 (IntKind.i64.wrap ((takeB X ⟨at_,false⟩).1.toNat:Int)))) (.one (.int .i64 (o:Int))) (fun _=>by rw [ho,hwr]) ?_;refine V.t T5f [] trivial ?_;refine V.c [(0,false)] (cOfNo K hK (o:Int) hno) (fun _ _=>?_);refine V.q ?_;refine V.s 14 (.one (.sb false)) (.one (.bool false)) (fun _=>rfl) ?_;refine V.rc [] 10 [] trivial ?_;refine V.soft 3 ?_;refine V.persNew [] [] (rowP (rowF (emptyI (o:Int)) IA0)) kq kq (fun k hk=>absurd hk ((row_none (R:=rowF (emptyI (o:Int)) IA0) rfl rfl rfl).1 k)) (fun w _=>(row_none (R:=rowF (emptyI (o:Int)) IA0) rfl rfl rfl).2 w) (rowP_stab _) ?_;refine V.persNew [] [] (rowP (rowI (emptyI (o:Int)) IA0)) kq kq (fun k hk=>absurd hk ((row_none (R:=rowI (emptyI (o:Int)) IA0) rfl rfl rfl).1 k)) (fun w _=>(row_none (R:=rowI (emptyI (o:Int)) IA0) rfl rfl rfl).2 w) (rowP_stab _) ?_;refine V.persNew [] [] (rowP (rowT (emptyI (o:Int)) IA0)) kq kq (fun k hk=>absurd hk ((row_none (R:=rowT (emptyI (o:Int)) IA0) rfl rfl rfl).1 k)) (fun w _=>(row_none (R:=rowT (emptyI (o:Int)) IA0) rfl rfl rfl).2 w) (rowP_stab _) ?_;refine V.drawX [1] [] 21 kq ?_;refine @VX.run _ [1] [] 21 _ _ ([]:List (Ent Tryz.prog)) [] kq kq trivial ?_;refine @VX.store _ [1] [] 21 _ _ 18 kq kq kq ?_;refine @VX.run _ [1] [] 21 _ _ ([]:List (Ent Tryz.prog)) [] kq kq trivial ?_;refine @VX.stop _ [1] [] 21 _ _ kq ?_;refine V.q ?_;refine V.sb 10 false ?_;exact V.e ((emptyI (o:Int),IA0):In×IA) [(2,true),(1,true),(0,true)] rfl
 have hisop:isOp o=true:=(isOp_iff o).2 (by omega);have hfind:opFind (o:Int)=some (opFls o):=by unfold opFind; rw [if_pos hop]; rfl
 have hR:cDecR rl X at_=rdL rl X (opFls o) ((takeB X ⟨at_,false⟩).2,emptyI (o:Int)):=by unfold cDecR; rw [ho,hfind]; rfl
 have hOk:cDecOk rl X at_=(!(cDecR rl X at_).1.bad&&cFine (cDecR rl X at_).2):=by unfold cDecOk; rw [ho,hfind]; rfl
 have hfl:(opFls o).length≤7:=by
  have:=all_ops (p:=fun o=>decide ((opFls o).length≤7)) kq hisop;simpa using this
 rw [hOk,hR];generalize hE:rdL rl X (opFls o) ((takeB X ⟨at_,false⟩).2,emptyI (o:Int))=sE;obtain ⟨rE,xE⟩:=sE;simp only;refine CallsK.m true Tryz.func70 (fun ρ w=>?_);refine V.q ?_;refine V.soft 2 ?_;refine V.c [] (cTake X ⟨at_,false⟩ hok) (fun r1 hr1=>?_);refine V.q ?_;refine V.s 24 (.one (.int .i64 (IntKind.i64.wrap ((takeB X ⟨at_,false⟩).1.toNat:Int)))) (.one (.int .i64 (o:Int))) (fun _=>by rw [ho,hwr]) ?_;refine V.t T5f [] trivial ?_;refine V.c [(0,false)] (cOf K hK o hisop) (fun qc _=>?_);obtain ⟨q,c⟩:=qc;refine V.t T5f [] trivial ?_;refine V.s 14 (.one (.sb true)) (.one (.bool true)) (fun _=>rfl) ?_;refine V.soft 3 ?_;refine V.nilB Fm.cells fm0 3 24 ⟨inC (emptyI (o:Int)) (.val (.slice none 0 0)) (.val (.slice none 0 0)) (.val (.slice none 0 0)),30,true⟩ 93 4 kq rfl ?_;refine V.nilB intv 0 3 25 ⟨inC (emptyI (o:Int)) (.row 1 none 0 0) (.val (.slice none 0 0)) (.val (.slice none 0 0)),30,true⟩ 3 1 kq rfl ?_;refine V.nilB Ty.cells ty0 3 26 ⟨inC (emptyI (o:Int)) (.row 1 none 0 0) (.row 2 none 0 0) (.val (.slice none 0 0)),30,true⟩ 23 5 kq rfl ?_;refine V.loopK [4,8,11,12,14,33,34,35] [true,true] (fun j:DI=>(opFls o).length - j.i) (dcSt K rl X o q c) (fun j=>j.i≤(opFls o).length∧(j.r,j.x)=rdL rl X ((opFls o).take j.i) ((takeB X ⟨at_,false⟩).2,emptyI (o:Int))∧okIn X j.r∧j.x.f.length≤16*j.i∧j.x.l.length≤16*j.i∧j.x.y.length≤16*j.i) ⟨r1,emptyI (o:Int),IA0,0⟩ kq ⟨Nat.zero_le _,by rw [hr1]; rfl,by rw [hr1]; exact hok1,Nat.le_refl _,Nat.le_refl _,Nat.le_refl _⟩ (fun j hj ih=>?_);obtain ⟨r,x,A,i⟩:=j;obtain ⟨hi,hrx,hokr,hf1,hl1,hy1⟩:=hj;simp only at hi hrx hokr hf1 hl1 hy1;have hxl:x.okL:=⟨by omega,by omega,by omega⟩;refine V.iter ?_;refine V.q ?_;refine V.bn 36 (decide ((i:Int)<(opFls o).length)) (fun hb=>?_) (fun hb=>?_)
 ·have hlt:i<(opFls o).length:=by simpa using hb
  obtain ⟨f,hf⟩:∃ f,(opFls o).getD i .D=f:=⟨_,rfl⟩;have htk:(opFls o).take (i+1)=(opFls o).take i++[f]:=by
   rw [List.take_add_one,List.getElem?_eq_getElem hlt];rw [List.getD,List.getElem?_eq_getElem hlt] at hf;simp only [Option.getD_some] at hf;rw [hf]; rfl
  refine V.t [] [(0:Int)≤i∧(i:Int)<(opFls o).length] ⟨by omega,by omega⟩ ?_;refine V.bn 43 (!r.bad) (fun hbad=>?_) (fun hbad=>?_)
  ·have hbd:r.bad=false:=by simpa using hbad
   refine V.q ?_;refine V.s 45 (.one (cloV ((opFls o).getD i .D).ids.2.2.2.1 (K.a ((opFls o).getD i .D)) ((opFls o).getD i .D).caps.2.2.2.1)) (.one (cloV f.ids.2.2.2.1 (K.a f) f.caps.2.2.2.1)) (fun _=>by rw [hf]) ?_;refine V.callL [(0,false),(1,false)] [2,3] [0,1,2] (flGet f K rl X hX hl r x A hxl hokr) (by clear hf htk; cases f<;>kernel_rfl) (by clear hf htk; cases f<;>kernel_rfl) (by clear hf htk; cases f<;>kernel_rfl) kq (fun _=>kq) (fun y hy=>?_);have k:=rd_ok f (rl:=rl) (x:=x) hokr;refine V.q ?_;refine V.up 35 i (by omega) ?_;refine V.againK [4,8,11,12,14,33,34,35] [true,true] (ih ⟨y.1,y.2.1,y.2.2,i+1⟩ ⟨hlt,rdL_next htk hrx hbd hy,by rw [hy.1]; exact k.1,le16 k.2.1 hf1 (by rw [hy.2]),le16 k.2.2.1 hl1 (by rw [hy.2]),le16 k.2.2.2 hy1 (by rw [hy.2])⟩ (by simp only; omega)) kq kq
  ·have hbd:r.bad=true:=by simpa using hbad
   refine V.q ?_;refine V.up 35 i (by omega) ?_;refine V.againK [4,8,11,12,14,33,34,35] [true,true] (ih ⟨r,x,A,i+1⟩ ⟨hlt,rdL_stay htk hrx hbd,hokr,le16s hf1,le16s hl1,le16s hy1⟩ (by simp only; omega)) kq kq
 ·have hle:(opFls o).length=i:=by
   have:¬ i<(opFls o).length:=by simpa using hb
   omega
  rw [← hle,List.take_length] at hrx;refine V.q ?_;rw [hE] at hrx;have hr:=(Prod.mk.inj hrx).1;have hx:=(Prod.mk.inj hrx).2;subst hr hx;refine V.freeze 0 (rowL Fm.cells fm0 x.f A.qf A.cf 93 4 true) kq kq ?_;refine V.freeze 1 (rowL intv 0 x.l A.ql A.cl 3 1 true) kq kq ?_;refine V.freeze 2 (rowL Ty.cells ty0 x.y A.qy A.cy 23 5 true) kq kq ?_;by_cases hbd:r.bad=true
  case pos =>
   refine V.cellAs 2 3 ⟨[.str X.s,.int .i64 (r.at_:Int),.val (.slice X.q X.n X.c),.sb r.bad],104,true⟩ (.sb r.bad) (.bool true) kq rfl kq (fun _=>by rw [hbd]; rfl) ?_;refine V.drawX [1] [] 21 kq ?_;refine @VX.run _ [1] [] 21 _ _ ([]:List (Ent Tryz.prog)) [] kq kq trivial ?_;refine @VX.store _ [1] [] 21 _ _ 18 kq kq kq ?_;refine @VX.run _ [1] [] 21 _ _ ([]:List (Ent Tryz.prog)) [] kq kq trivial ?_;refine @VX.stop _ [1] [] 21 _ _ kq ?_;refine V.q ?_;refine V.s 10 (.one (.bool false)) (.one (.sb (!r.bad&&cFine x))) (fun _=>by rw [hbd]; rfl) ?_;exact V.e ((x,A):In×IA) [(2,true),(1,true),(0,true)] rfl
  case neg =>
   have hbd:r.bad=false:=by simpa using hbd
   refine V.cellAs 2 3 ⟨[.str X.s,.int .i64 (r.at_:Int),.val (.slice X.q X.n X.c),.sb r.bad],104,true⟩ (.sb r.bad) (.bool false) kq rfl kq (fun _=>by rw [hbd]; rfl) ?_;refine V.drawX [1] [] 21 kq ?_;refine @VX.run _ [1] [] 21 _ _ ([]:List (Ent Tryz.prog)) [] kq kq trivial ?_;refine @VX.callK _ [1] [] 21 _ _ Unit 59 [.agg [.val (.map (some K.gF)),.val (.map (some K.gO))],.agg (inV x A)] (stP (cdP K::lsP x A)) _ _ _ [(3,false),(2,true),(1,true),(0,true)] (cFineK K hK x A hxl) kq kq kq (fun _=>kq) (fun _ _=>?_);refine @VX.run _ [1] [] 21 _ _ ([]:List (Ent Tryz.prog)) [] kq kq trivial ?_;refine @VX.store _ [1] [] 21 _ _ 18 kq kq kq ?_;refine @VX.run _ [1] [] 21 _ _ ([]:List (Ent Tryz.prog)) [] kq kq trivial ?_;refine @VX.stop _ [1] [] 21 _ _ kq ?_;refine V.q ?_;refine V.s 10 (.one (.sb (cFine x))) (.one (.sb (!r.bad&&cFine x))) (fun _=>by rw [hbd]; rfl) ?_;exact V.e ((x,A):In×IA) [(2,true),(1,true),(0,true)] rfl
theorem tyTx_b {t:Ty} (h:isTy t=true):(tyTx t).length≤1000:=by
 have hi:=isTy_in h;have h1:=Lib.itoa_length_le t.k hi.1.1 hi.1.2;have h2:=Lib.itoa_length_le t.p hi.2.1.1 hi.2.1.2;have h3:=Lib.itoa_length_le t.q hi.2.2.1.1 hi.2.2.1.2;have h4:(bitU t.v).length=1:=by cases t.v<;>rfl
 unfold isTy at h;simp only [Bool.and_eq_true,decide_eq_true_eq] at h;unfold tyTx;simp only [List.length_append,List.length_cons,List.length_nil,h4,hexTl];omega
theorem fmTx_b {t:Fm} (h:isFm t=true):(fmTx t).length≤1000:=by
 have hi:=isFm_in h;have h1:=Lib.itoa_length_le t.k hi.1.1 hi.1.2;have h2:=Lib.itoa_length_le t.w hi.2.1.1 hi.2.1.2;have h3:=Lib.itoa_length_le t.d hi.2.2.1.1 hi.2.2.1.2;unfold isFm at h;simp only [Bool.and_eq_true,decide_eq_true_eq] at h;unfold fmTx;simp only [List.length_append,List.length_cons,List.length_nil,hexTl];omega
structure PG (α:Type) where
 l:List α
 q:Option Addr
 c:Nat
theorem parts_elm (c:UInt8) (s:List UInt8) (i:Nat):((partsC c s).getD i []).length≤s.length:=by
 rw [List.getD];cases e:(partsC c s)[i]? with
 | none=>simp
 | some p=>exact partsC_el c s p (List.mem_of_getElem? e)
def ltT (x:In) (A:IA) (ct:Nat) (j:GL (List UInt8)):St :=
 { n:=28,slots:=[(2,.v (.one (.val (.pointer (some ⟨ct,0,none⟩))))),(5,.v (.one (.row 0 j.q j.l.length j.c))),(11,.v (.one (.row 1 A.qy x.y.length A.cy))),(12,.v (.one (.int .i64 x.y.length))),(13,.v (.one (.int .i64 j.i)))],gs:=[],
    heap:=[],next:=0,rows:=[(0,rowL strS [] j.l j.q j.c 9 1 true),(1,rowT x A)],nr:=2,pers:=[blkP ct [fnV 174] 185,glbP],wr:=true,fx:=0 }
noncomputable def TT7T:List (Ent Tryz.prog):=[selT.e,⟨sTyText,[0]⟩]
set_option maxHeartbeats 1000000 in
theorem lTextT (x:In) (A:IA) (cb ct:Nat) (hl:x.y.length≤1000) (hf0:(x.y.all isTy&&decide ((x.y.length:Int)≤16))=true):CallsK Tryz.prog 272 [.agg (inV x A),.one (.val (.pointer (some ⟨cb,0,none⟩))),.one (.val (.pointer (some ⟨ct,0,none⟩)))] (psOf [blkP cb [fnV 195] 217,blkP ct [fnV 174] 185,rowP (rowT x A),glbP])
  (fun _:Unit=>True) (fun _=>.v (.one (.str ([91]++Lib.join (x.y.map tyTx) [59]++[93])))) (fun _=>noF):=by
 have hf:x.y.all isTy=true:=by rw [Bool.and_eq_true] at hf0; exact hf0.1
 refine CallsK.m true Tryz.func272 (fun ρ w=>?_);refine V.t TT7T [] trivial ?_;refine V.lp 0 217 cb 0 [fnV 195] 217 (.one (fnV 195)) ?_;refine V.t TT7T [] trivial ?_;refine V.ar 11 2 (rowT x A) ?_;refine V.nilL strS [] 5 9 1 kq kq ?_;refine V.loopK [2,5,11,12,13] [false,true,false,true] (fun j:GL (List UInt8)=>x.y.length - j.i) (ltT x A ct) (fun j=>j.i≤x.y.length∧j.l=(x.y.take j.i).map tyTx) ⟨⟨0,false⟩,[],none,0,0⟩ kq ⟨Nat.zero_le _,rfl⟩ (fun j hj ih=>?_);obtain ⟨r0,l,q,c,i⟩:=j;obtain ⟨hi,hll⟩:=hj;simp only at hi hll;have hlen:l.length=i:=by rw [hll,List.length_map,List.length_take]; omega
 refine V.iter ?_;refine V.t TT7T [] trivial ?_;refine V.bn 14 (decide ((i:Int)<x.y.length)) (fun hb=>?_) (fun hb=>?_)
 ·have hlt:i<x.y.length:=by simpa using hb
  have hfe:=isTy_in (all_get hlt ty0 hf);refine V.t TT7T [(0:Int)≤i∧(i:Int)<x.y.length] ⟨by omega,by omega⟩ ?_;refine V.lp 0 185 ct 0 [fnV 174] 185 (.one (fnV 174)) ?_;refine V.t TT7T [inK .i64 (x.y.getD i ty0).k∧inK .i64 (x.y.getD i ty0).p∧inK .i64 (x.y.getD i ty0).q∧(x.y.getD i ty0).s.length≤1000000000] hfe ?_;refine V.push strS [] l (tyTx (x.y.getD i ty0)) 0 q c 9 1 [.str (tyTx (x.y.getD i ty0))] 16 kq (by omega) rfl (fun _ _=>kq) (fun q' c'=>?_);refine V.t TT7T [] trivial ?_;refine V.up 13 i (by omega) ?_;refine V.againK [2,5,11,12,13] [true,true] (ih ⟨r0,l++[tyTx (x.y.getD i ty0)],q',c',i+1⟩ ⟨hlt,?_⟩ (by simp only; omega)) kq kq;simp only;rw [hll,List.take_add_one,List.getElem?_eq_getElem hlt,List.map_append,List.getD,List.getElem?_eq_getElem hlt];rfl
 ·have hle:x.y.length=i:=by
   have:¬ i<x.y.length:=by simpa using hb
   omega
  have hl2:l=x.y.map tyTx:=by rw [hll,← hle,List.take_length]
  have hj:(Lib.join l [59]).length≤1001*1000:=by
   refine Nat.le_trans (join_len 1000 l (fun y hy=>?_)) (by rw [hlen]; omega);rw [hl2] at hy;obtain ⟨n,hn,rfl⟩:=List.mem_map.1 hy;exact tyTx_b (List.all_eq_true.1 hf n hn)
  refine V.t TT7T [] trivial ?_;refine V.c [] (cJoin l [59] q c (by omega) (by omega)) (fun _ _=>?_);have o1:1+(Lib.join l [59]).length≤9223372036854775807:=by omega
  have o2:(([91]:List UInt8)++Lib.join l [59]).length+1≤9223372036854775807:=by rw [List.length_append]; show 1+_+1≤_; omega
  refine V.t TT7T [(1+(Lib.join l [59]).length:Nat)≤9223372036854775807,((([91]:List UInt8)++Lib.join l [59]).length+1:Nat)≤9223372036854775807] ⟨o1,o2⟩ ?_;rw [← hl2];exact V.z
def pxT (x:In) (j:PG Ty):In:={ x with y:=j.l }
def paT (A:IA) (j:PG Ty):IA:={ A with qy:=j.q,cy:=j.c }
def lqT (x:In) (A:IA) (cp:Nat) (j:PG Ty):St :=
 { n:=60,slots:=[(2,.v (.one (.val (.pointer (some ⟨cp,0,none⟩))))),(3,.v (.one (.ptr 1 0))),(5,.v (.one (.ptr 2 0))),(6,.v (.one (.ptr 3 0)))],gs:=[],
    heap:=[(0,⟨inO (pxT x j) (paT A j),30,true⟩),(1,⟨[fnV 195],217,false⟩),(2,⟨[.ptr 0 0],157,true⟩),(3,⟨[.bool false],4,true⟩)],next:=4,rows:=inRows (pxT x j) (paT A j),nr:=3,pers:=[blkP cp [fnV 176] 204,glbP],wr:=true,fx:=1 }
noncomputable def T8T:List (Ent Tryz.prog):=[selT.e,sCutPrefix.e,sCutSuffix.e]
set_option maxHeartbeats 1000000 in
theorem lParseT (s:List UInt8) (x:In) (A:IA) (cp cb:Nat) (hp:12≤cp) (hc:12≤cb) (hs:s.length<1000000000) (hl:x.y.length≤1000):CallsK Tryz.prog 273 [.one (.str s),.one (.ptr 0 0),.one (.val (.pointer (some ⟨cp,0,none⟩))),.one (.val (.pointer (some ⟨cb,0,none⟩)))]
  (psF [blkP cb [fnV 195] 217,blkP cp [fnV 176] 204,glbP] x A)
  (fun y:PG Ty=>(lB s&&(psG tyB tyV x.y (partsC 59 (lS s))).2)=true→y.l=(psG tyB tyV x.y (partsC 59 (lS s))).1) (fun y=>.v (.one (.sb (lB s&&(psG tyB tyV x.y (partsC 59 (lS s))).2)))) (fun y=>psF [] (pxT x y) (paT A y)):=by
 have hl1:(Lib.trimPrefix s [91]).length≤s.length:=trimP_len s [91] (Nat.le_refl _);refine CallsK.m true Tryz.func273 (fun ρ w=>?_);refine V.blkInL 3 cb [fnV 195] 217 [blkP cp [fnV 176] 204,glbP] kq kq kq kq kq (fun w h1 h2 p hp=>by
  rcases List.mem_cons.1 hp with rfl | hp
  ·exact blk_apart (by decide) w h1 (h2 _ (List.mem_cons_self ..))
  ·rw [List.mem_singleton] at hp; subst hp;intro hd; have:cb<12:=hd; omega) ?_
 refine V.t T8T [(Lib.trimPrefix s [91]).length≤9223372036854775807] (by show _≤_; omega) ?_;refine V.bn 27 (!Lib.hasPrefix s [91]||!Lib.hasSuffix (Lib.trimPrefix s [91]) [93]) (fun hb=>?_) (fun hb=>?_)
 ·refine V.t T8T [] trivial ?_;have hb0:lB s=false:=by
   unfold lB;revert hb;cases Lib.hasPrefix s [91]<;>cases Lib.hasSuffix (Lib.trimPrefix s [91]) [93]<;>simp
  rw [show (lB s&&(psG tyB tyV x.y (partsC 59 (lS s))).2)=false by rw [hb0]; rfl];refine V.cellAs 3 0 ⟨[.bool false],4,true⟩ (.bool false) (.sb false) kq rfl kq (fun _=>rfl) ?_;exact V.e ⟨x.y,A.qy,A.cy⟩ [] (fun h=>by cases h)
 ·have hb1:lB s=true:=by
   unfold lB;revert hb;cases Lib.hasPrefix s [91]<;>cases Lib.hasSuffix (Lib.trimPrefix s [91]) [93]<;>simp
  have hl2:(lS s).length≤s.length:=by
   refine Nat.le_trans ?_ hl1;unfold lS Lib.trimSuffix;split
   ·simp
   ·exact Nat.le_refl _
  have hel:∀ i,((partsC 59 (lS s)).getD i []).length<1000000000:=fun i=>by have:=parts_elm 59 (lS s) i; omega
  rw [show (lB s&&(psG tyB tyV x.y (partsC 59 (lS s))).2)=(psG tyB tyV x.y (partsC 59 (lS s))).2 by rw [hb1]; rfl];refine V.t T8T [] trivial ?_;refine V.c [] (cParts 59 (lS s)) (fun _ _=>?_);refine V.q ?_;refine V.rangeFc (lqT x A cp) ⟨fun _=>rfl,fun _=>rfl,fun _=>rfl,fun _=>rfl,fun _=>rfl,fun _=>rfl,fun _=>rfl,fun _=>rfl⟩
   (fun i j=>psG tyB tyV x.y (partsC 59 (lS s))=psG tyB tyV j.l ((partsC 59 (lS s)).drop i)∧j.l.length≤x.y.length+i) (fun cd j=>cd=.ret∧psG tyB tyV x.y (partsC 59 (lS s))=(j.l,false)) (fun i=>[.one (.str ((partsC 59 (lS s)).getD i []))]) (fun i ρ=>rfl)
   ⟨x.y,A.qy,A.cy⟩ [2,3,5,6] [true,true] [(1,false)] (parts_iter 59 (lS s) (by omega)) kq kq ⟨rfl,Nat.le_refl _⟩ kq kq kq (fun i=>kq) (fun i=>kq)
   (fun i j ρ1 W l r q hi hx=>?_) (fun j l r q hx=>?_) (fun cd j l r q hx=>?_)
  ·obtain ⟨hps,hjl⟩:=hx;have hN:=partsC_len 59 (lS s);have hdrop:(partsC 59 (lS s)).drop i=(partsC 59 (lS s)).getD i []::(partsC 59 (lS s)).drop (i+1):=by
    rw [List.drop_eq_getElem_cons hi,List.getD,List.getElem?_eq_getElem hi]; rfl
   rw [hdrop,psG] at hps;refine V.t T8T [] trivial ?_;refine V.begin 4 l (recOf q none) kq rfl kq rfl ?_;refine V.t T8T [] trivial ?_;refine V.lp 0 204 cp 0 [fnV 176] 204 (.one (fnV 176)) ?_;refine V.t T8T [] trivial ?_;refine V.c [(1,false)] (cTypeOf ((partsC 59 (lS s)).getD i []) (hel i)) (fun t ht=>?_);refine V.t T8T [] trivial ?_;refine V.bn 47 (!tyB ((partsC 59 (lS s)).getD i [])||(j.l.length:Int)==16) (fun hf=>?_) (fun hf=>?_)
   ·rw [if_pos hf] at hps;refine V.t T8T [] trivial ?_;exact V.roundEnd [2,3,5,6] [true,true] (some .ret) j kq kq kq rfl rfl ⟨rfl,hps⟩
   ·rw [if_neg (by rw [hf]; simp)] at hps;have ht2:=ht (by revert hf; cases tyB ((partsC 59 (lS s)).getD i [])<;>simp);rw [← ht2] at hps;refine V.t T8T [] trivial ?_;refine V.drawX [] [2] 12 kq ?_;refine @VX.run _ [] [2] 12 _ _ ([selT.e]:List (Ent Tryz.prog)) [] kq kq trivial ?_;refine @VX.two _ [] [2] 12 _ _ ([selT.e]:List (Ent Tryz.prog)) [] 2 9 kq kq kq kq kq trivial ?_ ?_
    ·refine @VX.run _ [] [2] 12 _ _ ([selT.e]:List (Ent Tryz.prog)) [] kq kq trivial ?_;refine @VX.two _ [] [2] 12 _ _ ([selT.e]:List (Ent Tryz.prog)) [] 5 9 kq kq kq kq kq trivial ?_ ?_
     ·refine @VX.run _ [] [2] 12 _ _ ([selT.e]:List (Ent Tryz.prog)) [] kq kq trivial ?_;refine @VX.push _ [] [2] 12 _ _ _ Ty.cells ty0 j.l t 2 j.q j.c 23 5 t.cells 48 kq kq kq (by omega) rfl (fun _ _=>kq) (fun q' c'=>?_);refine @VX.run _ [] [2] 12 _ _ ([selT.e]:List (Ent Tryz.prog)) [] kq kq trivial ?_;refine @VX.stop _ [] [2] 12 _ _ kq ?_;refine V.t T8T [] trivial ?_;exact V.roundEnd [2,3,5,6] [true,true] none ⟨j.l++[t],q',c'⟩ kq kq kq rfl rfl ⟨hps,by simp only [List.length_append,List.length_cons,List.length_nil]; omega⟩
     ·refine @VX.run _ [] [2] 12 _ _ ([selT.e]:List (Ent Tryz.prog)) [] kq kq trivial ?_;refine @VX.push _ [] [2] 12 _ _ _ Ty.cells ty0 j.l t 2 j.q j.c 23 5 t.cells 48 kq kq kq (by omega) rfl (fun _ _=>kq) (fun q' c'=>?_);refine @VX.run _ [] [2] 12 _ _ ([selT.e]:List (Ent Tryz.prog)) [] kq kq trivial ?_;refine @VX.stop _ [] [2] 12 _ _ kq ?_;refine V.t T8T [] trivial ?_;exact V.roundEnd [2,3,5,6] [true,true] none ⟨j.l++[t],q',c'⟩ kq kq kq rfl rfl ⟨hps,by simp only [List.length_append,List.length_cons,List.length_nil]; omega⟩
    ·refine @VX.run _ [] [2] 12 _ _ ([selT.e]:List (Ent Tryz.prog)) [] kq kq trivial ?_;refine @VX.push _ [] [2] 12 _ _ _ Ty.cells ty0 j.l t 2 j.q j.c 23 5 t.cells 48 kq kq kq (by omega) rfl (fun _ _=>kq) (fun q' c'=>?_);refine @VX.run _ [] [2] 12 _ _ ([selT.e]:List (Ent Tryz.prog)) [] kq kq trivial ?_;refine @VX.stop _ [] [2] 12 _ _ kq ?_;refine V.t T8T [] trivial ?_;exact V.roundEnd [2,3,5,6] [true,true] none ⟨j.l++[t],q',c'⟩ kq kq kq rfl rfl ⟨hps,by simp only [List.length_append,List.length_cons,List.length_nil]; omega⟩
  ·have hps:psG tyB tyV x.y (partsC 59 (lS s))=(j.l,true):=by rw [hx.1,List.drop_length]; rfl
   rw [hps];refine V.t T8T [] trivial ?_;refine V.retD 3 r kq rfl (by rintro e w ⟨x,ρ,_,h,_⟩; exact ⟨_,h⟩) kq kq ?_;refine V.cellAs 3 0 ⟨[.bool true],4,true⟩ (.bool true) (.sb true) kq rfl kq (fun _=>rfl) ?_;exact V.e j [] (fun _=>rfl)
  ·obtain ⟨rfl,hps⟩:=hx;rw [hps];refine V.t T8T [] trivial ?_;refine V.retD 3 r kq rfl (by rintro e w ⟨x,ρ,_,h,_⟩; exact ⟨_,h⟩) kq kq ?_;refine V.cellAs 3 0 ⟨[.bool false],4,true⟩ (.bool false) (.sb false) kq rfl kq (fun _=>rfl) ?_;exact V.e j [] (fun _=>rfl)
def ltF (x:In) (A:IA) (ct:Nat) (j:GL (List UInt8)):St :=
 { n:=28,slots:=[(2,.v (.one (.val (.pointer (some ⟨ct,0,none⟩))))),(5,.v (.one (.row 0 j.q j.l.length j.c))),(11,.v (.one (.row 1 A.qf x.f.length A.cf))),(12,.v (.one (.int .i64 x.f.length))),(13,.v (.one (.int .i64 j.i)))],gs:=[],
    heap:=[],next:=0,rows:=[(0,rowL strS [] j.l j.q j.c 9 1 true),(1,rowF x A)],nr:=2,pers:=[blkP ct [fnV 199] 188,glbP],wr:=true,fx:=0 }
noncomputable def TT7F:List (Ent Tryz.prog):=[selF.e,⟨sFmText,[0]⟩]
set_option maxHeartbeats 1000000 in
theorem lTextF (x:In) (A:IA) (cb ct:Nat) (hl:x.f.length≤1000) (hf0:(x.f.all isFm&&decide ((x.f.length:Int)≤16))=true):CallsK Tryz.prog 278 [.agg (inV x A),.one (.val (.pointer (some ⟨cb,0,none⟩))),.one (.val (.pointer (some ⟨ct,0,none⟩)))] (psOf [blkP cb [fnV 202] 226,blkP ct [fnV 199] 188,rowP (rowF x A),glbP])
  (fun _:Unit=>True) (fun _=>.v (.one (.str ([91]++Lib.join (x.f.map fmTx) [59]++[93])))) (fun _=>noF):=by
 have hf:x.f.all isFm=true:=by rw [Bool.and_eq_true] at hf0; exact hf0.1
 refine CallsK.m true Tryz.func278 (fun ρ w=>?_);refine V.t TT7F [] trivial ?_;refine V.lp 0 226 cb 0 [fnV 202] 226 (.one (fnV 202)) ?_;refine V.t TT7F [] trivial ?_;refine V.ar 11 2 (rowF x A) ?_;refine V.nilL strS [] 5 9 1 kq kq ?_;refine V.loopK [2,5,11,12,13] [false,true,false,true] (fun j:GL (List UInt8)=>x.f.length - j.i) (ltF x A ct) (fun j=>j.i≤x.f.length∧j.l=(x.f.take j.i).map fmTx) ⟨⟨0,false⟩,[],none,0,0⟩ kq ⟨Nat.zero_le _,rfl⟩ (fun j hj ih=>?_);obtain ⟨r0,l,q,c,i⟩:=j;obtain ⟨hi,hll⟩:=hj;simp only at hi hll;have hlen:l.length=i:=by rw [hll,List.length_map,List.length_take]; omega
 refine V.iter ?_;refine V.t TT7F [] trivial ?_;refine V.bn 14 (decide ((i:Int)<x.f.length)) (fun hb=>?_) (fun hb=>?_)
 ·have hlt:i<x.f.length:=by simpa using hb
  have hfe:=isFm_in (all_get hlt fm0 hf);refine V.t TT7F [(0:Int)≤i∧(i:Int)<x.f.length] ⟨by omega,by omega⟩ ?_;refine V.lp 0 188 ct 0 [fnV 199] 188 (.one (fnV 199)) ?_;refine V.t TT7F [inK .i64 (x.f.getD i fm0).k∧inK .i64 (x.f.getD i fm0).w∧inK .i64 (x.f.getD i fm0).d∧(x.f.getD i fm0).s.length≤1000000000] hfe ?_;refine V.push strS [] l (fmTx (x.f.getD i fm0)) 0 q c 9 1 [.str (fmTx (x.f.getD i fm0))] 16 kq (by omega) rfl (fun _ _=>kq) (fun q' c'=>?_);refine V.t TT7F [] trivial ?_;refine V.up 13 i (by omega) ?_;refine V.againK [2,5,11,12,13] [true,true] (ih ⟨r0,l++[fmTx (x.f.getD i fm0)],q',c',i+1⟩ ⟨hlt,?_⟩ (by simp only; omega)) kq kq;simp only;rw [hll,List.take_add_one,List.getElem?_eq_getElem hlt,List.map_append,List.getD,List.getElem?_eq_getElem hlt];rfl
 ·have hle:x.f.length=i:=by
   have:¬ i<x.f.length:=by simpa using hb
   omega
  have hl2:l=x.f.map fmTx:=by rw [hll,← hle,List.take_length]
  have hj:(Lib.join l [59]).length≤1001*1000:=by
   refine Nat.le_trans (join_len 1000 l (fun y hy=>?_)) (by rw [hlen]; omega);rw [hl2] at hy;obtain ⟨n,hn,rfl⟩:=List.mem_map.1 hy;exact fmTx_b (List.all_eq_true.1 hf n hn)
  refine V.t TT7F [] trivial ?_;refine V.c [] (cJoin l [59] q c (by omega) (by omega)) (fun _ _=>?_);have o1:1+(Lib.join l [59]).length≤9223372036854775807:=by omega
  have o2:(([91]:List UInt8)++Lib.join l [59]).length+1≤9223372036854775807:=by rw [List.length_append]; show 1+_+1≤_; omega
  refine V.t TT7F [(1+(Lib.join l [59]).length:Nat)≤9223372036854775807,((([91]:List UInt8)++Lib.join l [59]).length+1:Nat)≤9223372036854775807] ⟨o1,o2⟩ ?_;rw [← hl2];exact V.z
def pxF (x:In) (j:PG Fm):In:={ x with f:=j.l }
def paF (A:IA) (j:PG Fm):IA:={ A with qf:=j.q,cf:=j.c }
def lqF (x:In) (A:IA) (cp:Nat) (j:PG Fm):St :=
 { n:=60,slots:=[(2,.v (.one (.val (.pointer (some ⟨cp,0,none⟩))))),(3,.v (.one (.ptr 1 0))),(5,.v (.one (.ptr 2 0))),(6,.v (.one (.ptr 3 0)))],gs:=[],
    heap:=[(0,⟨inO (pxF x j) (paF A j),30,true⟩),(1,⟨[fnV 202],226,false⟩),(2,⟨[.ptr 0 0],157,true⟩),(3,⟨[.bool false],4,true⟩)],next:=4,rows:=inRows (pxF x j) (paF A j),nr:=3,pers:=[blkP cp [fnV 200] 223,glbP],wr:=true,fx:=1 }
noncomputable def T8F:List (Ent Tryz.prog):=[selF.e,sCutPrefix.e,sCutSuffix.e]
set_option maxHeartbeats 1000000 in
theorem lParseF (s:List UInt8) (x:In) (A:IA) (cp cb:Nat) (hp:12≤cp) (hc:12≤cb) (hs:s.length<1000000000) (hl:x.f.length≤1000):CallsK Tryz.prog 279 [.one (.str s),.one (.ptr 0 0),.one (.val (.pointer (some ⟨cp,0,none⟩))),.one (.val (.pointer (some ⟨cb,0,none⟩)))]
  (psF [blkP cb [fnV 202] 226,blkP cp [fnV 200] 223,glbP] x A)
  (fun y:PG Fm=>(lB s&&(psG fmB fmV x.f (partsC 59 (lS s))).2)=true→y.l=(psG fmB fmV x.f (partsC 59 (lS s))).1) (fun y=>.v (.one (.sb (lB s&&(psG fmB fmV x.f (partsC 59 (lS s))).2)))) (fun y=>psF [] (pxF x y) (paF A y)):=by
 have hl1:(Lib.trimPrefix s [91]).length≤s.length:=trimP_len s [91] (Nat.le_refl _);refine CallsK.m true Tryz.func279 (fun ρ w=>?_);refine V.blkInL 3 cb [fnV 202] 226 [blkP cp [fnV 200] 223,glbP] kq kq kq kq kq (fun w h1 h2 p hp=>by
  rcases List.mem_cons.1 hp with rfl | hp
  ·exact blk_apart (by decide) w h1 (h2 _ (List.mem_cons_self ..))
  ·rw [List.mem_singleton] at hp; subst hp;intro hd; have:cb<12:=hd; omega) ?_
 refine V.t T8F [(Lib.trimPrefix s [91]).length≤9223372036854775807] (by show _≤_; omega) ?_;refine V.bn 27 (!Lib.hasPrefix s [91]||!Lib.hasSuffix (Lib.trimPrefix s [91]) [93]) (fun hb=>?_) (fun hb=>?_)
 ·refine V.t T8F [] trivial ?_;have hb0:lB s=false:=by
   unfold lB;revert hb;cases Lib.hasPrefix s [91]<;>cases Lib.hasSuffix (Lib.trimPrefix s [91]) [93]<;>simp
  rw [show (lB s&&(psG fmB fmV x.f (partsC 59 (lS s))).2)=false by rw [hb0]; rfl];refine V.cellAs 3 0 ⟨[.bool false],4,true⟩ (.bool false) (.sb false) kq rfl kq (fun _=>rfl) ?_;exact V.e ⟨x.f,A.qf,A.cf⟩ [] (fun h=>by cases h)
 ·have hb1:lB s=true:=by
   unfold lB;revert hb;cases Lib.hasPrefix s [91]<;>cases Lib.hasSuffix (Lib.trimPrefix s [91]) [93]<;>simp
  have hl2:(lS s).length≤s.length:=by
   refine Nat.le_trans ?_ hl1;unfold lS Lib.trimSuffix;split
   ·simp
   ·exact Nat.le_refl _
  have hel:∀ i,((partsC 59 (lS s)).getD i []).length<1000000000:=fun i=>by have:=parts_elm 59 (lS s) i; omega
  rw [show (lB s&&(psG fmB fmV x.f (partsC 59 (lS s))).2)=(psG fmB fmV x.f (partsC 59 (lS s))).2 by rw [hb1]; rfl];refine V.t T8F [] trivial ?_;refine V.c [] (cParts 59 (lS s)) (fun _ _=>?_);refine V.q ?_;refine V.rangeFc (lqF x A cp) ⟨fun _=>rfl,fun _=>rfl,fun _=>rfl,fun _=>rfl,fun _=>rfl,fun _=>rfl,fun _=>rfl,fun _=>rfl⟩
   (fun i j=>psG fmB fmV x.f (partsC 59 (lS s))=psG fmB fmV j.l ((partsC 59 (lS s)).drop i)∧j.l.length≤x.f.length+i) (fun cd j=>cd=.ret∧psG fmB fmV x.f (partsC 59 (lS s))=(j.l,false)) (fun i=>[.one (.str ((partsC 59 (lS s)).getD i []))]) (fun i ρ=>rfl)
   ⟨x.f,A.qf,A.cf⟩ [2,3,5,6] [true,true] [(1,false)] (parts_iter 59 (lS s) (by omega)) kq kq ⟨rfl,Nat.le_refl _⟩ kq kq kq (fun i=>kq) (fun i=>kq)
   (fun i j ρ1 W l r q hi hx=>?_) (fun j l r q hx=>?_) (fun cd j l r q hx=>?_)
  ·obtain ⟨hps,hjl⟩:=hx;have hN:=partsC_len 59 (lS s);have hdrop:(partsC 59 (lS s)).drop i=(partsC 59 (lS s)).getD i []::(partsC 59 (lS s)).drop (i+1):=by
    rw [List.drop_eq_getElem_cons hi,List.getD,List.getElem?_eq_getElem hi]; rfl
   rw [hdrop,psG] at hps;refine V.t T8F [] trivial ?_;refine V.begin 4 l (recOf q none) kq rfl kq rfl ?_;refine V.t T8F [] trivial ?_;refine V.lp 0 223 cp 0 [fnV 200] 223 (.one (fnV 200)) ?_;refine V.t T8F [] trivial ?_;refine V.c [(1,false)] (cFmOf ((partsC 59 (lS s)).getD i []) (hel i)) (fun t ht=>?_);refine V.t T8F [] trivial ?_;refine V.bn 47 (!fmB ((partsC 59 (lS s)).getD i [])||(j.l.length:Int)==16) (fun hf=>?_) (fun hf=>?_)
   ·rw [if_pos hf] at hps;refine V.t T8F [] trivial ?_;exact V.roundEnd [2,3,5,6] [true,true] (some .ret) j kq kq kq rfl rfl ⟨rfl,hps⟩
   ·rw [if_neg (by rw [hf]; simp)] at hps;have ht2:=ht (by revert hf; cases fmB ((partsC 59 (lS s)).getD i [])<;>simp);rw [← ht2] at hps;refine V.t T8F [] trivial ?_;refine V.drawX [] [0] 12 kq ?_;refine @VX.run _ [] [0] 12 _ _ ([selF.e]:List (Ent Tryz.prog)) [] kq kq trivial ?_;refine @VX.two _ [] [0] 12 _ _ ([selF.e]:List (Ent Tryz.prog)) [] 2 9 kq kq kq kq kq trivial ?_ ?_
    ·refine @VX.run _ [] [0] 12 _ _ ([selF.e]:List (Ent Tryz.prog)) [] kq kq trivial ?_;refine @VX.two _ [] [0] 12 _ _ ([selF.e]:List (Ent Tryz.prog)) [] 5 9 kq kq kq kq kq trivial ?_ ?_
     ·refine @VX.run _ [] [0] 12 _ _ ([selF.e]:List (Ent Tryz.prog)) [] kq kq trivial ?_;refine @VX.push _ [] [0] 12 _ _ _ Fm.cells fm0 j.l t 0 j.q j.c 93 4 t.cells 40 kq kq kq (by omega) rfl (fun _ _=>kq) (fun q' c'=>?_);refine @VX.run _ [] [0] 12 _ _ ([selF.e]:List (Ent Tryz.prog)) [] kq kq trivial ?_;refine @VX.stop _ [] [0] 12 _ _ kq ?_;refine V.t T8F [] trivial ?_;exact V.roundEnd [2,3,5,6] [true,true] none ⟨j.l++[t],q',c'⟩ kq kq kq rfl rfl ⟨hps,by simp only [List.length_append,List.length_cons,List.length_nil]; omega⟩
     ·refine @VX.run _ [] [0] 12 _ _ ([selF.e]:List (Ent Tryz.prog)) [] kq kq trivial ?_;refine @VX.push _ [] [0] 12 _ _ _ Fm.cells fm0 j.l t 0 j.q j.c 93 4 t.cells 40 kq kq kq (by omega) rfl (fun _ _=>kq) (fun q' c'=>?_);refine @VX.run _ [] [0] 12 _ _ ([selF.e]:List (Ent Tryz.prog)) [] kq kq trivial ?_;refine @VX.stop _ [] [0] 12 _ _ kq ?_;refine V.t T8F [] trivial ?_;exact V.roundEnd [2,3,5,6] [true,true] none ⟨j.l++[t],q',c'⟩ kq kq kq rfl rfl ⟨hps,by simp only [List.length_append,List.length_cons,List.length_nil]; omega⟩
    ·refine @VX.run _ [] [0] 12 _ _ ([selF.e]:List (Ent Tryz.prog)) [] kq kq trivial ?_;refine @VX.push _ [] [0] 12 _ _ _ Fm.cells fm0 j.l t 0 j.q j.c 93 4 t.cells 40 kq kq kq (by omega) rfl (fun _ _=>kq) (fun q' c'=>?_);refine @VX.run _ [] [0] 12 _ _ ([selF.e]:List (Ent Tryz.prog)) [] kq kq trivial ?_;refine @VX.stop _ [] [0] 12 _ _ kq ?_;refine V.t T8F [] trivial ?_;exact V.roundEnd [2,3,5,6] [true,true] none ⟨j.l++[t],q',c'⟩ kq kq kq rfl rfl ⟨hps,by simp only [List.length_append,List.length_cons,List.length_nil]; omega⟩
  ·have hps:psG fmB fmV x.f (partsC 59 (lS s))=(j.l,true):=by rw [hx.1,List.drop_length]; rfl
   rw [hps];refine V.t T8F [] trivial ?_;refine V.retD 3 r kq rfl (by rintro e w ⟨x,ρ,_,h,_⟩; exact ⟨_,h⟩) kq kq ?_;refine V.cellAs 3 0 ⟨[.bool true],4,true⟩ (.bool true) (.sb true) kq rfl kq (fun _=>rfl) ?_;exact V.e j [] (fun _=>rfl)
  ·obtain ⟨rfl,hps⟩:=hx;rw [hps];refine V.t T8F [] trivial ?_;refine V.retD 3 r kq rfl (by rintro e w ⟨x,ρ,_,h,_⟩; exact ⟨_,h⟩) kq kq ?_;refine V.cellAs 3 0 ⟨[.bool false],4,true⟩ (.bool false) (.sb false) kq rfl kq (fun _=>rfl) ?_;exact V.e j [] (fun _=>rfl)
theorem glbP_stab:Stab glbP:=fun w w' h hw=>glb_stable w w' h hw
theorem tab_drv {ps:List Pers} (h:glbP∈ps):Drv ps tabP :=
 ⟨fun w w' hk hw=>varP_stable _ _ w w' hw hk,glbP,h,fun k hk=>by
  have h1:Tryz.prog.globalNamed "internal/strconv.uint64pow10" = some k:=hk;have h2:Tryz.prog.globalNamed "internal/strconv.uint64pow10" = some 3:=kq;rw [h2] at h1;cases h1;show 3<12;decide,fun w hw=>hw.tab⟩
theorem tabd {p:Pers} {ps:List Pers}:Drv (p::glbP::ps) tabP:=tab_drv (List.mem_cons_of_mem _ (List.mem_cons_self ..))
theorem glbd {p:Pers} {ps:List Pers}:Drv (p::glbP::ps) glbP:=Drv.self glbP_stab (List.mem_cons_of_mem _ (List.mem_cons_self ..))
def Fl.tok (f:Fl) (x:In):Bool:=f.fineB x
def Fl.txt (f:Fl) (x:In):List UInt8:=match f with
 | .D=>regT (Sel.get .D x)
 | .A=>regT (Sel.get .A x)
 | .B=>regT (Sel.get .B x)
 | .N=>Lib.itoa (Sel.get .N x)
 | .M=>Lib.itoa (Sel.get .M x)
 | .P=>Lib.itoa (Sel.get .P x)
 | .T=>tyTx (TSel.get .T x)
 | .U=>tyTx (TSel.get .U x)
 | .W=>tyTx (TSel.get .W x)
 | .V=>vlTx x
 | .L=>[91]++Lib.join (x.l.map rgT) [59]++[93]
 | .Y=>[91]++Lib.join (x.y.map tyTx) [59]++[93]
 | .F=>[91]++Lib.join (x.f.map fmTx) [59]++[93]
 | .Sz=>bitT (FSel.get .S x)
 | .Rg=>bitT (FSel.get .R x)
 | .aN=>64::Lib.itoa (Sel.get .N x)
 | .aM=>64::Lib.itoa (Sel.get .M x)
 | .pN=>prT (Sel.get .N x)
 | .pM=>prT (Sel.get .M x)
 | .far=>farTx x
theorem itoa100 {n:Int} (h:-4294967296≤n∧n≤4294967296):int64 n∧(Lib.itoa n).length≤100:=by
 have h1:int64 n:=⟨by omega,by omega⟩;refine ⟨h1,?_⟩;have:=Lib.itoa_length_le n h1.1 h1.2;omega
theorem isNum_b {n:Int} (h:isNum n=true):-4294967296≤n∧n≤4294967296:=by have:=isNum_32 h; unfold num32 at this; omega
theorem isRg_b {n:Int} (h:isRg n=true):-4294967296≤n∧n≤4294967296:=by have:=isRg_iff h; omega
theorem isPl_b {n:Int} (h:isPl n=true):-4294967296≤n∧n≤4294967296:=by
 unfold isPl at h;simp only [Bool.and_eq_true,decide_eq_true_eq] at h;omega
theorem isPr_b {no:Bool} {n:Int} (h:isPr no n=true):-4294967296≤n∧n≤4294967296:=by
 unfold isPr at h;simp only [Bool.and_eq_true,Bool.or_eq_true,decide_eq_true_eq,beq_iff_eq] at h;omega
set_option maxHeartbeats 2000000 in
theorem flText (f:Fl) (K:Kc) (x:In) (A:IA) (hx:x.okL) (ht:f.tok x=true) :
  CallsK Tryz.prog f.ids.2.2.2.2.1 (.agg (inV x A)::absV (K.a f) f.caps.2.2.2.2.1) (stP (cdP K::glbP::lsP x A)) (fun _:Unit=>True) (fun _=>.v (.one (.str (f.txt x)))) (fun _=>stP []):=by
 have hf:f.fineB x=true:=ht;cases f
 case D =>
  have h1:=itoa100 (isRg_b hf);exact (ogv (ys:=[.agg (inV x A),.one (.val (.pointer (some ⟨K.a .D 1,0,none⟩)))]) (ps:=[tabP,Sel.blk .D (K.a .D 1)]) (v:=.v (.one (.str (Fl.txt .D x)))) fun ρ w hp=>regTextF .D x A (K.a .D 1) h1.1 h1.2 w hp).pers (cdP K::glbP::lsP x A) (dv tabd (dv (cdi K .D 1) dv0))
 case A =>
  have h1:=itoa100 (isRg_b hf);exact (ogv (ys:=[.agg (inV x A),.one (.val (.pointer (some ⟨K.a .A 1,0,none⟩)))]) (ps:=[tabP,Sel.blk .A (K.a .A 1)]) (v:=.v (.one (.str (Fl.txt .A x)))) fun ρ w hp=>regTextF .A x A (K.a .A 1) h1.1 h1.2 w hp).pers (cdP K::glbP::lsP x A) (dv tabd (dv (cdi K .A 1) dv0))
 case B =>
  have h1:=itoa100 (isRg_b hf);exact (ogv (ys:=[.agg (inV x A),.one (.val (.pointer (some ⟨K.a .B 1,0,none⟩)))]) (ps:=[tabP,Sel.blk .B (K.a .B 1)]) (v:=.v (.one (.str (Fl.txt .B x)))) fun ρ w hp=>regTextF .B x A (K.a .B 1) h1.1 h1.2 w hp).pers (cdP K::glbP::lsP x A) (dv tabd (dv (cdi K .B 1) dv0))
 case N =>
  have h1:=itoa100 (isNum_b hf);exact (ogv (ys:=[.agg (inV x A),.one (.val (.pointer (some ⟨K.a .N 0,0,none⟩)))]) (ps:=[tabP,Sel.blk .N (K.a .N 0)]) (v:=.v (.one (.str (Fl.txt .N x)))) fun ρ w hp=>numText .N x A (K.a .N 0) h1.1 w hp).pers (cdP K::glbP::lsP x A) (dv tabd (dv (cdi K .N 0) dv0))
 case M =>
  have h1:=itoa100 (isNum_b hf);exact (ogv (ys:=[.agg (inV x A),.one (.val (.pointer (some ⟨K.a .M 0,0,none⟩)))]) (ps:=[tabP,Sel.blk .M (K.a .M 0)]) (v:=.v (.one (.str (Fl.txt .M x)))) fun ρ w hp=>numText .M x A (K.a .M 0) h1.1 w hp).pers (cdP K::glbP::lsP x A) (dv tabd (dv (cdi K .M 0) dv0))
 case P =>
  have h1:=itoa100 (isNum_b hf);exact (ogv (ys:=[.agg (inV x A),.one (.val (.pointer (some ⟨K.a .P 0,0,none⟩)))]) (ps:=[tabP,Sel.blk .P (K.a .P 0)]) (v:=.v (.one (.str (Fl.txt .P x)))) fun ρ w hp=>numText .P x A (K.a .P 0) h1.1 w hp).pers (cdP K::glbP::lsP x A) (dv tabd (dv (cdi K .P 0) dv0))
 case T =>
  exact (typText .T x A (K.a .T 0) hf).pers (cdP K::glbP::lsP x A) (dv (cdi K .T 0) (dv glbd dv0))
 case U =>
  exact (typText .U x A (K.a .U 0) hf).pers (cdP K::glbP::lsP x A) (dv (cdi K .U 0) (dv glbd dv0))
 case W =>
  exact (typText .W x A (K.a .W 0) hf).pers (cdP K::glbP::lsP x A) (dv (cdi K .W 0) (dv glbd dv0))
 case V =>
  exact (vlText x A hf).pers (cdP K::glbP::lsP x A) (dv glbd dv0)
 case L =>
  have h1:x.l.all fineI=true:=by
   have h0:(x.l.all fineI&&decide ((x.l.length:Int)≤16))=true:=hf;rw [Bool.and_eq_true] at h0;exact h0.1
  exact (lTextI x A (K.a .L 0) (K.a .L 4) hx.2.1 h1).pers (cdP K::glbP::lsP x A) (dv (cdi K .L 0) (dv (cdi K .L 4) (dv (lsi 3) (dv glbd dv0))))
 case Y =>
  exact (lTextT x A (K.a .Y 0) (K.a .Y 4) hx.2.2 hf).pers (cdP K::glbP::lsP x A) (dv (cdi K .Y 0) (dv (cdi K .Y 4) (dv (lsi 4) (dv glbd dv0))))
 case F =>
  exact (lTextF x A (K.a .F 0) (K.a .F 4) hx.1 hf).pers (cdP K::glbP::lsP x A) (dv (cdi K .F 0) (dv (cdi K .F 4) (dv (lsi 2) (dv glbd dv0))))
 case Sz =>
  exact (ogv (ys:=[.agg (inV x A),.one (.val (.pointer (some ⟨K.a .Sz 0,0,none⟩)))]) (ps:=[FSel.blk .S (K.a .Sz 0)]) (v:=.v (.one (.str (Fl.txt .Sz x)))) fun ρ w hp=>flagTextF .S x A (K.a .Sz 0) w hp).pers (cdP K::glbP::lsP x A) (dv (cdi K .Sz 0) dv0)
 case Rg =>
  exact (ogv (ys:=[.agg (inV x A),.one (.val (.pointer (some ⟨K.a .Rg 0,0,none⟩)))]) (ps:=[FSel.blk .R (K.a .Rg 0)]) (v:=.v (.one (.str (Fl.txt .Rg x)))) fun ρ w hp=>flagTextF .R x A (K.a .Rg 0) w hp).pers (cdP K::glbP::lsP x A) (dv (cdi K .Rg 0) dv0)
 case aN =>
  have h1:=itoa100 (isPl_b hf);exact (ogv (ys:=[.agg (inV x A),.one (.val (.pointer (some ⟨K.a .aN 1,0,none⟩)))]) (ps:=[tabP,Sel.blk .N (K.a .aN 1)]) (v:=.v (.one (.str (Fl.txt .aN x)))) fun ρ w hp=>plText .N x A (K.a .aN 1) h1.1 h1.2 w hp).pers (cdP K::glbP::lsP x A) (dv tabd (dv (cdi K .aN 1) dv0))
 case aM =>
  have h1:=itoa100 (isPl_b hf);exact (ogv (ys:=[.agg (inV x A),.one (.val (.pointer (some ⟨K.a .aM 1,0,none⟩)))]) (ps:=[tabP,Sel.blk .M (K.a .aM 1)]) (v:=.v (.one (.str (Fl.txt .aM x)))) fun ρ w hp=>plText .M x A (K.a .aM 1) h1.1 h1.2 w hp).pers (cdP K::glbP::lsP x A) (dv tabd (dv (cdi K .aM 1) dv0))
 case pN =>
  have h1:=itoa100 (isPr_b (no:=false) hf);exact (ogv (ys:=[.agg (inV x A),.one (.val (.pointer (some ⟨K.a .pN 1,0,none⟩)))]) (ps:=[tabP,Sel.blk .N (K.a .pN 1)]) (v:=.v (.one (.str (Fl.txt .pN x)))) fun ρ w hp=>procText .N x A (K.a .pN 1) h1.1 h1.2 w hp).pers (cdP K::glbP::lsP x A) (dv tabd (dv (cdi K .pN 1) dv0))
 case pM =>
  have h1:=itoa100 (isPr_b (no:=true) hf);exact (ogv (ys:=[.agg (inV x A),.one (.val (.pointer (some ⟨K.a .pM 1,0,none⟩)))]) (ps:=[tabP,Sel.blk .M (K.a .pM 1)]) (v:=.v (.one (.str (Fl.txt .pM x)))) fun ρ w hp=>procText .M x A (K.a .pM 1) h1.1 h1.2 w hp).pers (cdP K::glbP::lsP x A) (dv tabd (dv (cdi K .pM 1) dv0))
 case far =>
  exact (farText x A hf).pers (cdP K::glbP::lsP x A) (dv glbd dv0)
def Fl.pok (f:Fl) (l:List UInt8):Bool:=decide (l.length<1000000000)
def Fl.prs (f:Fl) (l:List UInt8) (x:In):Bool×In:=match f with
 | .D=>(regB l,Sel.set .D x (regN l))
 | .A=>(regB l,Sel.set .A x (regN l))
 | .B=>(regB l,Sel.set .B x (regN l))
 | .N=>(decB l,Sel.set .N x (decN l))
 | .M=>(decB l,Sel.set .M x (decN l))
 | .P=>(decB l,Sel.set .P x (decN l))
 | .T=>(tyB l,TSel.set .T x (tyV l))
 | .U=>(tyB l,TSel.set .U x (tyV l))
 | .W=>(tyB l,TSel.set .W x (tyV l))
 | .V=>(vlB l,{ x with vn:=decN (pC l 0),vs:=unN (pC l 1) })
 | .L=>(lB l&&(psLs x.l (partsC 59 (lS l))).2,{ x with l:=(psLs x.l (partsC 59 (lS l))).1 })
 | .Y=>(lB l&&(psG tyB tyV x.y (partsC 59 (lS l))).2,{ x with y:=(psG tyB tyV x.y (partsC 59 (lS l))).1 })
 | .F=>(lB l&&(psG fmB fmV x.f (partsC 59 (lS l))).2,{ x with f:=(psG fmB fmV x.f (partsC 59 (lS l))).1 })
 | .Sz=>((l==[48])||(l==[49]),FSel.set .S x (l==[49]))
 | .Rg=>((l==[48])||(l==[49]),FSel.set .R x (l==[49]))
 | .aN=>(decB (Lib.trimPrefix l [64])&&Lib.hasPrefix l [64],Sel.set .N x (decN (Lib.trimPrefix l [64])))
 | .aM=>(decB (Lib.trimPrefix l [64])&&Lib.hasPrefix l [64],Sel.set .M x (decN (Lib.trimPrefix l [64])))
 | .pN=>(prB l,Sel.set .N x (prN l))
 | .pM=>(prB l,Sel.set .M x (prN l))
 | .far=>(frB l,{ x with p:=decN (farC l).1,n:=decN (farC l).2.1 })
def prP (f:Fl) (l:List UInt8) (x:In) (y:In×IA):Prop:=(f.prs l x).1=true→y.1=(f.prs l x).2
set_option maxHeartbeats 4000000 in
theorem flParse (f:Fl) (K:Kc) (h12:∀ (f:Fl) (j:Nat),j<f.bl.length→12≤K.a f j) (l:List UInt8) (x:In) (A:IA) (hx:x.okL) (ht:f.pok l=true) :
  CallsK Tryz.prog f.ids.2.2.2.2.2 (.one (.str l)::.one (.ptr 0 0)::absV (K.a f) f.caps.2.2.2.2.2) (psF (cdP K::glbP::[]) x A) (prP f l x) (fun _=>.v (.one (.sb (f.prs l x).1))) (fun y=>psF [] y.1 y.2):=by
 unfold Fl.pok at ht;have hl:l.length<1000000000:=of_decide_eq_true ht;have hl2:l.length≤281474976710656:=by omega
 cases f
 case D =>
  exact (CallsK.to (regParse .D l x A (K.a .D 1) hl2) (fun _ _=>⟨(Sel.set .D x (regN l),A),fun _=>rfl,rfl,rfl⟩)).pers (cdP K::glbP::[]) (dv (cdi K .D 1) (dv glbd dv0))
 case A =>
  exact (CallsK.to (regParse .A l x A (K.a .A 1) hl2) (fun _ _=>⟨(Sel.set .A x (regN l),A),fun _=>rfl,rfl,rfl⟩)).pers (cdP K::glbP::[]) (dv (cdi K .A 1) (dv glbd dv0))
 case B =>
  exact (CallsK.to (regParse .B l x A (K.a .B 1) hl2) (fun _ _=>⟨(Sel.set .B x (regN l),A),fun _=>rfl,rfl,rfl⟩)).pers (cdP K::glbP::[]) (dv (cdi K .B 1) (dv glbd dv0))
 case N =>
  exact (CallsK.to (numParse .N l x A (K.a .N 0) hl2) (fun _ _=>⟨(Sel.set .N x (decN l),A),fun _=>rfl,rfl,rfl⟩)).pers (cdP K::glbP::[]) (dv (cdi K .N 0) (dv glbd dv0))
 case M =>
  exact (CallsK.to (numParse .M l x A (K.a .M 0) hl2) (fun _ _=>⟨(Sel.set .M x (decN l),A),fun _=>rfl,rfl,rfl⟩)).pers (cdP K::glbP::[]) (dv (cdi K .M 0) (dv glbd dv0))
 case P =>
  exact (CallsK.to (numParse .P l x A (K.a .P 0) hl2) (fun _ _=>⟨(Sel.set .P x (decN l),A),fun _=>rfl,rfl,rfl⟩)).pers (cdP K::glbP::[]) (dv (cdi K .P 0) (dv glbd dv0))
 case T =>
  exact (CallsK.to (typParse .T l x A (K.a .T 0) hl) (fun t ht=>⟨(TSel.set .T x t,A),fun h=>(by rw [ht h]; rfl),rfl,rfl⟩)).pers (cdP K::glbP::[]) (dv (cdi K .T 0) (dv glbd dv0))
 case U =>
  exact (CallsK.to (typParse .U l x A (K.a .U 0) hl) (fun t ht=>⟨(TSel.set .U x t,A),fun h=>(by rw [ht h]; rfl),rfl,rfl⟩)).pers (cdP K::glbP::[]) (dv (cdi K .U 0) (dv glbd dv0))
 case W =>
  exact (CallsK.to (typParse .W l x A (K.a .W 0) hl) (fun t ht=>⟨(TSel.set .W x t,A),fun h=>(by rw [ht h]; rfl),rfl,rfl⟩)).pers (cdP K::glbP::[]) (dv (cdi K .W 0) (dv glbd dv0))
 case V =>
  exact (CallsK.to (vlParse l x A hl) (fun y hy=>⟨(y,A),fun h=>hy h,rfl,rfl⟩)).pers (cdP K::glbP::[]) (dv glbd dv0)
 case L =>
  refine (CallsK.to (lParseI l x A (K.a .L 5) (K.a .L 0) (h12 .L 5 (by decide)) (h12 .L 0 (by decide)) hl hx.2.1) (fun y hy=>⟨(pxI x y,paI A y),fun h=>?_,rfl,rfl⟩)).pers (cdP K::glbP::[]) (dv (cdi K .L 0) (dv (cdi K .L 5) (dv glbd dv0)));have h0:(lB l&&(psLs x.l (partsC 59 (lS l))).2)=true:=h;rw [Bool.and_eq_true] at h0;show ({ x with l:=y.l }:In)=_;rw [hy h0.1];rfl
 case Y =>
  refine (CallsK.to (lParseT l x A (K.a .Y 5) (K.a .Y 0) (h12 .Y 5 (by decide)) (h12 .Y 0 (by decide)) hl hx.2.2) (fun y hy=>⟨(pxT x y,paT A y),fun h=>?_,rfl,rfl⟩)).pers (cdP K::glbP::[]) (dv (cdi K .Y 0) (dv (cdi K .Y 5) (dv glbd dv0)));have h0:(lB l&&(psG tyB tyV x.y (partsC 59 (lS l))).2)=true:=h;show ({ x with y:=y.l }:In)=_;rw [hy h0];rfl
 case F =>
  refine (CallsK.to (lParseF l x A (K.a .F 5) (K.a .F 0) (h12 .F 5 (by decide)) (h12 .F 0 (by decide)) hl hx.1) (fun y hy=>⟨(pxF x y,paF A y),fun h=>?_,rfl,rfl⟩)).pers (cdP K::glbP::[]) (dv (cdi K .F 0) (dv (cdi K .F 5) (dv glbd dv0)));have h0:(lB l&&(psG fmB fmV x.f (partsC 59 (lS l))).2)=true:=h;show ({ x with f:=y.l }:In)=_;rw [hy h0];rfl
 case Sz =>
  exact (CallsK.to (CallsK.ofF (fun _=>rfl) (fun ρ w hF=>flagParse .S l x A (K.a .Sz 0) ρ w hF)) (fun y hy=>⟨y,fun _=>hy,rfl,rfl⟩)).pers (cdP K::glbP::[]) (dv (cdi K .Sz 0) dv0)
 case Rg =>
  exact (CallsK.to (CallsK.ofF (fun _=>rfl) (fun ρ w hF=>flagParse .R l x A (K.a .Rg 0) ρ w hF)) (fun y hy=>⟨y,fun _=>hy,rfl,rfl⟩)).pers (cdP K::glbP::[]) (dv (cdi K .Rg 0) dv0)
 case aN =>
  exact (CallsK.to (placeParse .N l x A (K.a .aN 1) hl2) (fun _ _=>⟨(Sel.set .N x (decN (Lib.trimPrefix l [64])),A),fun _=>rfl,rfl,rfl⟩)).pers (cdP K::glbP::[]) (dv (cdi K .aN 1) (dv glbd dv0))
 case aM =>
  exact (CallsK.to (placeParse .M l x A (K.a .aM 1) hl2) (fun _ _=>⟨(Sel.set .M x (decN (Lib.trimPrefix l [64])),A),fun _=>rfl,rfl,rfl⟩)).pers (cdP K::glbP::[]) (dv (cdi K .aM 1) (dv glbd dv0))
 case pN =>
  exact (CallsK.to (procParse .N l x A (K.a .pN 1) hl2) (fun _ _=>⟨(Sel.set .N x (prN l),A),fun _=>rfl,rfl,rfl⟩)).pers (cdP K::glbP::[]) (dv (cdi K .pN 1) (dv glbd dv0))
 case pM =>
  exact (CallsK.to (procParse .M l x A (K.a .pM 1) hl2) (fun _ _=>⟨(Sel.set .M x (prN l),A),fun _=>rfl,rfl,rfl⟩)).pers (cdP K::glbP::[]) (dv (cdi K .pM 1) (dv glbd dv0))
 case far =>
  exact (CallsK.to (farParse l x A hl) (fun _ _=>⟨({ x with p:=decN (farC l).1,n:=decN (farC l).2.1 },A),fun _=>rfl,rfl,rfl⟩)).pers (cdP K::glbP::[]) (dv glbd dv0)
theorem regT_len {n:Int} (h:-4294967296≤n∧n≤4294967296):(regT n).length≤101:=by
 have:=(itoa100 h).2;unfold regT;split
 ·simp
 ·simp; omega
theorem prT_len {n:Int} (h:-4294967296≤n∧n≤4294967296):(prT n).length≤101:=by
 have:=(itoa100 h).2;unfold prT;split
 ·simp
 ·simp; omega
theorem bitT_len (v:Bool):(bitT v).length≤1:=by cases v<;>simp [bitT]
theorem joinTail_le (sep:List UInt8) (b:Nat):∀ (l:List (List UInt8)),(∀ x∈l,x.length≤b)→(Lib.joinTail sep l).length≤(b+sep.length)*l.length
 | [],_=>by simp [Lib.joinTail]
 | x::l,h=>by
  have ih:=joinTail_le sep b l (fun y hy=>h y (List.mem_cons_of_mem _ hy));have hx:=h x (List.mem_cons_self ..);have e:Lib.joinTail sep (x::l)=sep++x++Lib.joinTail sep l:=rfl;rw [e,List.length_append,List.length_append,List.length_cons,Nat.mul_succ];omega
theorem join_le (sep:List UInt8) (b:Nat) (l:List (List UInt8)) (h:∀ x∈l,x.length≤b):(Lib.join l sep).length≤(b+sep.length)*l.length+b:=by
 cases l with
 | nil=>simp [Lib.join_nil]
 | cons x l =>
  have h1:=joinTail_le sep b l (fun y hy=>h y (List.mem_cons_of_mem _ hy));have hx:=h x (List.mem_cons_self ..);rw [Lib.join_cons,List.length_append,List.length_cons,Nat.mul_succ];omega
theorem bitU_len (v:Bool):(bitU v).length=1:=by cases v<;>rfl
theorem hexT_len (s:List UInt8):(hexT s).length=2*s.length+1:=by unfold hexT; rw [List.length_cons,hexL_len]
theorem tyTx_len {t:Ty} (h:isTy t=true):(tyTx t).length≤1000:=by
 have h1:=isTy_ok h;have h4:=isTy_s h;have b:∀ n:Int,num32 n→(Lib.itoa n).length≤100:=fun n h=>(itoa100 (by unfold num32 at h; omega)).2;have k:=b _ h1.1;have p:=b _ h1.2.1;have q:=b _ h1.2.2.1;unfold tyTx;simp only [List.length_append,List.length_cons,List.length_nil,bitU_len,hexT_len];omega
theorem fmTx_len {t:Fm} (h:isFm t=true):(fmTx t).length≤1000:=by
 have h4:=isFm_s h;unfold isFm at h;simp only [Bool.and_eq_true] at h;have k:=(itoa100 (isNum_b h.1.1.1)).2;have p:=(itoa100 (isNum_b h.1.1.2)).2;have q:=(itoa100 (isNum_b h.1.2)).2;unfold fmTx;simp only [List.length_append,List.length_cons,List.length_nil,hexT_len];omega
theorem lstTx_len {α:Type} (tx:α→List UInt8) (p:α→Bool) (l:List α) (ht:∀ a,p a=true→(tx a).length≤1000) (h:(l.all p&&decide ((l.length:Int)≤16))=true):([91]++Lib.join (l.map tx) [59]++[93]).length≤20000:=by
 rw [Bool.and_eq_true,decide_eq_true_eq] at h;have h2:=join_le [59] 1000 (l.map tx) (fun y hy=>by
  obtain ⟨n,hn,rfl⟩:=List.mem_map.1 hy;exact ht n (all_mem h.1 n hn))
 rw [List.length_map] at h2;simp only [List.length_append,List.length_cons,List.length_nil] at h2 ⊢;omega
theorem txt_len (f:Fl) (x:In) (h:f.tok x=true):(f.txt x).length≤20000:=by
 have hf:f.fineB x=true:=h;cases f
 case D=>exact Nat.le_trans (regT_len (isRg_b hf)) (by decide)
 case A=>exact Nat.le_trans (regT_len (isRg_b hf)) (by decide)
 case B=>exact Nat.le_trans (regT_len (isRg_b hf)) (by decide)
 case N=>exact Nat.le_trans (itoa100 (isNum_b hf)).2 (by decide)
 case M=>exact Nat.le_trans (itoa100 (isNum_b hf)).2 (by decide)
 case P=>exact Nat.le_trans (itoa100 (isNum_b hf)).2 (by decide)
 case T=>exact Nat.le_trans (tyTx_len hf) (by decide)
 case U=>exact Nat.le_trans (tyTx_len hf) (by decide)
 case W=>exact Nat.le_trans (tyTx_len hf) (by decide)
 case V =>
  have h':isVal x=true:=hf;unfold isVal at h';rw [Bool.and_eq_true,decide_eq_true_eq] at h';have k:=(itoa100 (isNum_b h'.1)).2;show (vlTx x).length≤_;unfold vlTx;simp only [List.length_append,List.length_cons,List.length_nil,hexT_len];omega
 case L=>exact lstTx_len rgT fineI x.l (fun n hn=>by
   have:=fineI_lt hn;exact Nat.le_trans (rgT_len (by omega) (by omega)) (by decide)) hf
 case Y=>exact lstTx_len tyTx isTy x.y (fun _ h=>tyTx_len h) hf
 case F=>exact lstTx_len fmTx isFm x.f (fun _ h=>fmTx_len h) hf
 case Sz=>exact Nat.le_trans (bitT_len _) (by decide)
 case Rg=>exact Nat.le_trans (bitT_len _) (by decide)
 case aN =>
  have:=(itoa100 (isPl_b hf)).2;show (64::Lib.itoa _).length≤_;simp only [List.length_cons];omega
 case aM =>
  have:=(itoa100 (isPl_b hf)).2;show (64::Lib.itoa _).length≤_;simp only [List.length_cons];omega
 case pN=>exact Nat.le_trans (prT_len (isPr_b (no:=false) hf)) (by decide)
 case pM=>exact Nat.le_trans (prT_len (isPr_b (no:=true) hf)) (by decide)
 case far =>
  have h':isFar x=true:=hf;unfold isFar at h';simp only [Bool.and_eq_true,decide_eq_true_eq] at h';have k:=(itoa100 (n:=x.p) (by omega)).2;have q:=(itoa100 (n:=x.n) (by omega)).2;show (farTx x).length≤_;unfold farTx;simp only [List.length_append,List.length_cons,List.length_nil];omega
def lineW (x:In) (l:List Fl):List (List UInt8):=l.map fun f=>f.txt x
def lineT (x:In) (o:Nat):List UInt8:=Lib.join (opName o::lineW x (opFls o)) [32]
structure NI where
 l:List (List UInt8)
 q:Option Addr
 c:Nat
 i:Nat
def lnSt (K:Kc) (x:In) (A:IA) (o:Nat) (q:Option Addr) (c:Nat) (j:NI):St :=
 { n:=41,slots:=[(3,.v (.one (.ptr 0 0))),(5,.v (.one (.row 0 j.q j.l.length j.c))),(25,.v (.one (.row 1 q (opFls o).length c))),(26,.v (.one (.int .i64 (opFls o).length))),(27,.v (.one (.int .i64 j.i)))],gs:=[],
    heap:=[(0,⟨inV x A,30,true⟩)],next:=1,rows:=[(0,rowL strS [] j.l j.q j.c 9 1 true),(1,rowL (fun f=>f.cells (K.a f)) .D (opFls o) q c 165 6 true)],nr:=2,pers:=cdP K::glbP::lsP x A,wr:=true,fx:=0 }
theorem strS_len (x:List UInt8):(strS x).length=1:=rfl
theorem strS_plain (x:List UInt8):∀ y∈strS x,y.plain:=by
 intro y hy;rw [List.mem_singleton.1 hy];trivial
set_option maxHeartbeats 1000000 in
theorem cLine (K:Kc) (hK:K.ok) (x:In) (A:IA) (hx:x.okL) (o:Nat) (hisop:isOp o=true) (ho:x.op=(o:Int)) (htk:(opFls o).all (fun f=>f.tok x)=true) :
  CallsK Tryz.prog 61 [.agg [.val (.map (some K.gF)),.val (.map (some K.gO))],.agg (inV x A)] (stP (cdP K::glbP::lsP x A)) (fun _:Unit=>True) (fun _=>.v (.one (.str (lineT x o)))) (fun _=>stP []):=by
 have hbd:1≤o∧o≤38:=(isOp_iff o).1 hisop;have hfl:(opFls o).length≤7∧(opName o).length≤100:=by
  have:=all_ops (p:=fun o=>decide ((opFls o).length≤7)&&decide ((opName o).length≤100)) kq hisop;simpa using this
 obtain ⟨hK12,hKF,done,hd1,hd2,hd3,hd4⟩:=id hK;refine CallsK.m true Tryz.func61 (fun ρ w=>?_);refine V.q ?_;refine V.s 13 (.one (.int .i64 x.op)) (.one (.int .i64 (o:Int))) (fun _=>by rw [ho]) ?_;refine V.lookP 108 3 118 (.int .i64) K.gO (.one (.int .i64 (o:Int))) false (.int .i64 (o:Int)) (some (wordV o (K.q o))) undef (.v (.one (.val (wordV o (K.q o))))) kq kq kq kq
  (fun ρ a w hS=>?_) (fun _=>rfl) (fun h=>by cases h) (fun _=>rfl) trivial (fun g pol b y h=>by cases h) kq ?_
 ·obtain ⟨k,hk⟩:=esL_find (q:=K.q) (i:=0) (j:=0) ((hd2 o).2 hisop);exact ⟨K.esO,K.ckO,_,(cd_heap hS (List.mem_of_getElem? (i:=0) kq)).2,by rw [hd3]; exact hk,rfl⟩
 refine V.pickP 0 K.all (opsP ((List.range 38).map (· + 1)) K.q) kq (List.mem_append_left _ (List.mem_cons_of_mem _ (List.mem_cons_of_mem _ (List.mem_cons_self ..)))) (opsP_stab _ _) ?_;refine V.pickP 0 (((List.range 38).map (· + 1)).map fun o=>rowP (wordRow o (K.q o))) (rowP (wordRow o (K.q o))) kq (List.mem_map.2 ⟨o,List.mem_map.2 ⟨o - 1,List.mem_range.2 (by omega),by omega⟩,rfl⟩) (rowP_stab _) ?_;refine V.ar 14 0 (wordRow o (K.q o)) ?_;refine V.t [] [(0:Int)≤0∧(0:Int)<((opWords o).length:Int)] ⟨by omega,by rw [opWords_len]; omega⟩ ?_;refine V.rowB strS [] [opName o] 9 1 2 kq strS_len strS_plain (by show 1≤maxLen; decide) (fun g=>kq) (fun g=>?_);refine V.slotRow 5 1 (rowL strS [] [opName o] (some ⟨g,0,none⟩) 1 9 1 true) kq kq kq ?_;refine V.c [(2,false)] (cOfN K hK o hisop x.op ho) (fun qc _=>?_);obtain ⟨q,c⟩:=qc;refine V.q ?_;refine V.loopK [3,5,25,26,27] [false,false,true,true,true,true,true] (fun j:NI=>(opFls o).length - j.i) (lnSt K x A o q c) (fun j=>j.i≤(opFls o).length∧j.l=opName o::lineW x ((opFls o).take j.i)) ⟨[opName o],some ⟨g,0,none⟩,1,0⟩ kq ⟨Nat.zero_le _,rfl⟩ (fun j hj ih=>?_);obtain ⟨l,q1,c1,i⟩:=j;obtain ⟨hi,hll⟩:=hj;simp only at hi hll;have hlen:l.length=i+1:=by rw [hll,List.length_cons,lineW,List.length_map,List.length_take]; omega
 refine V.iter ?_;refine V.q ?_;refine V.bn 28 (decide ((i:Int)<(opFls o).length)) (fun hb=>?_) (fun hb=>?_)
 ·have hlt:i<(opFls o).length:=by simpa using hb
  obtain ⟨f,hf⟩:∃ f,(opFls o).getD i .D=f:=⟨_,rfl⟩;have hft:f.tok x=true:=by rw [← hf]; exact all_get hlt .D htk
  have hnx:l++[f.txt x]=opName o::lineW x ((opFls o).take (i+1)):=by
   rw [hll,List.take_add_one,List.getElem?_eq_getElem hlt];rw [List.getD,List.getElem?_eq_getElem hlt] at hf;simp only [Option.getD_some] at hf;rw [hf];simp [lineW]
  refine V.t [] [(0:Int)≤i∧(i:Int)<(opFls o).length] ⟨by omega,by omega⟩ ?_;refine V.s 33 (.one (cloV ((opFls o).getD i .D).ids.2.2.2.2.1 (K.a ((opFls o).getD i .D)) ((opFls o).getD i .D).caps.2.2.2.2.1)) (.one (cloV f.ids.2.2.2.2.1 (K.a f) f.caps.2.2.2.2.1)) (fun _=>by rw [hf]) ?_;refine V.callL [(0,false),(1,false),(2,false),(3,false),(4,false)] [] [] (flText f K x A hx hft) (by clear hf hft hnx; cases f<;>kernel_rfl) (by clear hf hft hnx; cases f<;>kernel_rfl) (by clear hf hft hnx; cases f<;>kernel_rfl) kq (fun _=>kq) (fun _ _=>?_);refine V.q ?_;refine V.push strS [] l (f.txt x) 0 q1 c1 9 1 [.str (f.txt x)] 16 kq (by omega) rfl (fun _ _=>kq) (fun q2 c2=>?_);refine V.q ?_;refine V.up 27 i (by omega) ?_;refine V.againK [3,5,25,26,27] [true,true,true,true,true] (ih ⟨l++[f.txt x],q2,c2,i+1⟩ ⟨hlt,hnx⟩ (by simp only; omega)) kq kq
 ·have hle:(opFls o).length=i:=by
   have:¬ i<(opFls o).length:=by simpa using hb
   omega
  rw [← hle,List.take_length] at hll;have hj:(Lib.join l [32]).length≤140737488355328:=by
   have:=join_le [32] 20000 l (fun y hy=>by
    rw [hll] at hy;rcases List.mem_cons.1 hy with rfl | hy
    ·omega
    ·obtain ⟨f,hfm,rfl⟩:=List.mem_map.1 hy;exact txt_len f x (all_mem htk f hfm))
   rw [hlen] at this;simp only [List.length_cons,List.length_nil] at this;omega
  refine V.q ?_;refine V.c [] (cJoin l [32] q1 c1 (by omega) hj) (fun _ _=>?_);refine V.q ?_;subst hll;exact V.z
end Go.Proofs
end
section
namespace Go.SX
open Go
def rowsIn (n:Nat) (TR:List Nat):List Nat→Bool
 | []=>true
 | r::l=>match hasNat TR r,Nat.blt r n with
  | true,true=>rowsIn n TR l
  | _,_=>false
theorem rowsIn_ok {n:Nat} {TR:List Nat}:∀ {l:List Nat},rowsIn n TR l=true→∀ {r:Nat},r∈l→r∈TR∧r<n
 | q::l,h,r,hr=>by
  simp only [rowsIn] at h;split at h
  ·rename_i h1 h2;rcases List.mem_cons.1 hr with rfl | hr
   ·exact ⟨(hasNat_mem _ _).1 h1,blt_lt h2⟩
   ·exact rowsIn_ok h hr
  ·cases h
theorem look_eraseAll_not {α:Type} {rs:List Nat}:∀ {l:List (Nat×α)} {i:Nat} {v:α},look l i=some v→i ∉ rs→look (eraseAll rs l) i=some v
 | (k,u)::l,i,v,h,hn=>by
  simp only [look] at h;simp only [eraseAll];cases hk:hasNat rs k with
  | true =>
   simp only;split at h
   ·rename_i e;have:=(beq_iff _ _).1 e;subst this;exact absurd ((hasNat_mem _ _).1 hk) hn
   ·exact look_eraseAll_not h hn
  | false =>
   simp only [look];split at h
   ·exact h
   ·exact look_eraseAll_not h hn
section
variable {C:Ctx} {T TR:List Nat} {L:Nat} {c0:Cfg} {d:DCfg}
theorem VX.callR {α:Type} {f:FuncId} {ys:List CV} {F:St} {p:α→Prop} {v:α→RV} {F':α→St} (pi:List (Nat×Bool)) (hk:CallsK C.P f ys F p v F')
  (hb:(entersB C.P f&&((oneX c0 d).isSome&&(rowsIn c0.st.nr TR (hsrs (atX c0 d)).2&&rwIn c0.st.next T (hsrs (atX c0 d)).1 F.heap)))=true) (hc:frameOf (atX c0 d)=some (f,ys,fragOf F)) (hpi:getP pi d.st.pers=some (askP C.w0.heap.size C.S pi F.pers))
  (hu:∀ x,okK (atX c0 d) (F' x) (v x)=true) (k:∀ x,p x→VX C T TR L c0 (callX C.w0.heap.size C.S c0 d (F' x) (v x))):VX C T TR L c0 d:=by
 intro D hD a1 a2 a3 a4 a5 a6 hL hsel aT aTR hlt hrw ρ a w hS hρ hn0 hch hcl hsz;simp only [Bool.and_eq_true] at hb;obtain ⟨hent,hone,hFr,hrwT⟩:=hb;obtain ⟨⟨i,o⟩,hone⟩:=Option.isSome_iff_exists.1 hone;obtain ⟨hready,⟨n,hf⟩,ho⟩:=oneX_ok hone;have hat:atX c0 d=⟨[.inRegion (dOps c0) [i]],d.st⟩:=by unfold atX; rw [hready]
 rw [hat] at hc hrwT hu hFr;unfold frameOf at hc;split at hc
 case h_2=>cases hc
 rename_i f1 xs hcall;split at hc;rename_i hs rs hcan;split at hc
 case h_2=>cases hc
 rename_i ys1 s' hren hpk;simp only [Option.some.injEq,Prod.mk.injEq] at hc;obtain ⟨rfl,rfl,hfr⟩:=hc;have hh:hsrs ⟨[.inRegion (dOps c0) [i]],d.st⟩=(hs,rs):=by unfold hsrs; rw [hcall]; exact hcan
 rw [hh] at hrwT hFr;have hpk':pickSt [] hs rs [] d.st=some s':=hpk;have hFS:=hS.fragAt hpk' hfr pi hpi;have hys:xs.map (CV.den ρ)=ys1.map (CV.den (fun i=>ρ (hs.getD i 0))):=by
  have hpk2:=hpk';unfold pickSt at hpk2;split at hpk2
  case h_2=>cases hpk2
  rename_i sl hpp rows _ _ _ _ hrows;have hRR:RowsRen rs d.st.W ⟨hs.length,rs.length,rows⟩:=by
   intro r' r R hr hl;obtain ⟨r2,_,h2,h3⟩:=pickRows_ok hrows r' R hl;simp only [Nat.sub_zero] at h2;rw [hr] at h2;cases h2;exact h3
  exact ((renC_ok (ρ:=ρ) (W:=d.st.W) (W':=⟨hs.length,rs.length,rows⟩) rfl rfl hRR hren).1).symm
 have hi:i∈Region.ready .any (dOps c0) d.listed:=by rw [hready]; simp
 rw [hf];refine wpAnyE_all hready (by simp) (fun j hj=>?_);have:j=i:=by simpa using hj
 subst this;unfold callOf at hcall;simp only [ho] at hcall;split at hcall
 case h_2=>cases hcall
 rename_i cl hop;split at hcall
 case h_3=>cases hcall
 case h_2=>split at hcall<;>cases hcall
 rename_i hg;split at hcall
 case h_2=>cases hcall
 rename_i f' caps zs h1 h2;simp only [Option.some.injEq,Prod.mk.injEq,true_and] at hcall;obtain ⟨rfl,rfl⟩:=hcall;have hrun:=calleeS_sound (t:=o.type) hS.toP (GcOk.none d.st) h1 h2 (enters hent);unfold wpOp;simp only [ho,grd_yes hS hg,if_true];refine .inl ?_;unfold Oper.wp execOp;rw [hop];simp only;rw [hrun,hys];refine (hk _ w hFS).mono ?_;rintro e w2 ⟨x,ρ',hp,rfl,k1,k2,k3,k4,k5,k6,k7,k8,k9,k10⟩;have hux:=hu x;unfold okK at hux;rw [hh] at hux;obtain ⟨u1,u2,u3⟩:=and3 hux;have hfr':(pickSt [] hs rs [] d.st).map fragOf=some (fragOf F):=by rw [hpk']; exact congrArg some hfr
 obtain ⟨ρ1,b1,b2,b3,b4⟩:=hS.bringK1 (F':=F' x) hfr' u1 k1 k2 k3 k4 k5 k7 k8 k9 k10;have hc2:Chg D.TS D.ws w2:=hch.trans k7 (fun m hm=>.inr (by
  rcases hm with ⟨b,blk,q1,q2,q3⟩ | ⟨r,R,q1,q2⟩
  ·obtain ⟨t1,t2⟩:=rwIn_ok hrwT q1 q2;have:=aT _ t1 t2;rw [← hρ _ (by rw [a2]; exact t2)] at this;rw [← q3]; exact this
  ·have hpk3:=hpk';unfold pickSt at hpk3;split at hpk3
   case h_2=>cases hpk3
   rename_i sl hpp rows _ _ _ _ hrows;have h3:=Option.some.inj hpk3;have h4:F.rows=rows:=by
    simp only [fragOf,Prod.mk.injEq] at hfr;rw [← hfr.2.2.1,← h3]
   rw [h4] at q1;obtain ⟨r2,_,h5,h6⟩:=pickRows_ok hrows r R q1;simp only [Nat.sub_zero] at h5;obtain ⟨t1,t2⟩:=rowsIn_ok hFr (List.mem_of_getElem? h5);exact aTR r2 t1 R (by rw [← a6]; exact hrw.2.rows r2 (by show r2<D.nr0; rw [a5]; exact t2) R h6) m q2.2))
 have hst:∃ s2,(d.st.bringK hs rs C.w0.heap.size C.S (F' x)).put o.dst ((v x).bring (newHs hs d.st.next (F' x).next) d.st.nr)=some s2:=by
  have h3:=bringK_put d.st hs rs C.w0.heap.size 0 C.S (fun _=>False) (F' x) o.dst ((v x).bring (newHs hs d.st.next (F' x).next) d.st.nr);unfold afterOp at u3;simp only [ho] at u3;cases hq:(d.st.bringK hs rs C.w0.heap.size C.S (F' x)).put o.dst ((v x).bring (newHs hs d.st.next (F' x).next) d.st.nr) with
  | some s2=>exact ⟨s2,rfl⟩
  | none =>
   rw [hq] at h3;cases hq2:(d.st.bringK hs rs 0 (fun _=>False) (F' x)).put o.dst ((v x).bring (newHs hs d.st.next (F' x).next) d.st.nr) with
   | none=>rw [hq2] at u3; cases u3
   | some s2=>rw [hq2] at h3; cases h3
 obtain ⟨s2,hs2⟩:=hst;have hcx:callX C.w0.heap.size C.S c0 d (F' x) (v x)=⟨n,d.listed.setIfInBounds j true,s2⟩:=by
  unfold callX;rw [hone];simp only [hf,Nat.add_sub_cancel];unfold behindK;rw [hat,hh];unfold afterD afterOp;simp only [ho,hs2,Option.getD_some]
 have hden:(v x).den ρ'=((v x).bring (newHs hs d.st.next (F' x).next) d.st.nr).den ρ1:=by
  rw [RV.bring_den,RV.den_congr (W:=(F' x).W) (ρ:=ρ') b2 _ k6]
 have hng:∀ g pol b y,(v x).bring (newHs hs d.st.next (F' x).next) d.st.nr≠.grd g pol b y:=by
  intro g pol b y e;cases hvx:v x with
  | grd=>rw [hvx] at u2; cases u2
  | v=>rw [hvx] at e; cases e
  | tup=>rw [hvx] at e; cases e
 have hle:d.st.W.le (d.st.bringK hs rs C.w0.heap.size C.S (F' x)).W:=by
  refine ⟨Nat.le_add_right _ _,Nat.le_add_right _ _,fun q hq R hR=>?_⟩;have h5:look (bringRows d.st.nr (eraseAll rs d.st.rows) (F' x).rows) q=some R:=hR;have hq':q<d.st.nr:=hq;rw [look_bringRows_old hq'] at h5;exact (look_eraseAll h5).2
 have hW:=put_W hs2;have hrw2:D.rows s2:=by
  refine ⟨fun q R hR=>?_,by rw [hW]; exact hrw.2.trans' hle⟩;rw [show s2.rows=_ from congrArg WF.rows hW];have h5:=hrw.1 q R hR;rw [a3] at hR;have hqT:=(look_heldOf' hR).1;have h6:=hlt q R (look_heldOf' hR).2;have h7:q<d.st.nr:=Nat.lt_of_lt_of_le h6 (by rw [← a5]; exact hrw.2.nr);show look (bringRows d.st.nr (eraseAll rs d.st.rows) (F' x).rows) q=some R;rw [look_bringRows_old h7];exact look_eraseAll_not h5 (fun hm=>hqT (rowsIn_ok hFr hm).1)
 have hkx:=k x hp;rw [hcx] at hkx;rw [hden];refine ⟨fun _=>hc2,hkx D hD a1 a2 a3 a4 a5 a6 hL hsel aT aTR hlt hrw2 ρ1 _ w2 (b1.put hs2 (b3 _ k6) (fun g pol b y e=>absurd e (hng g pol b y))) (fun b hb=>(b4 b (by omega)).trans (hρ b hb)) ?_ hc2 (hcl.set hi) (by simpa using hsz)⟩;show D.n0≤s2.next;rw [put_next hs2];exact Nat.le_trans hn0 (Nat.le_add_right _ _)
def callZ (n0:Nat) (S:Nat→Prop) (c0:Cfg) (d:DCfg) (hs rs:List Nat) (F':St) (v:RV):DCfg :=
 match oneX c0 d with
 | some (i,_)=>⟨d.fuel - 1,d.listed.setIfInBounds i true,(afterD (atX c0 d) (d.st.bringK hs rs n0 S F') (v.bring (newHs hs d.st.next F'.next) d.st.nr)).st⟩
 | none=>d
theorem VX.callL {α:Type} {f:FuncId} {ys:List CV} {F:St} {p:α→Prop} {v:α→RV} {F':α→St} (pi:List (Nat×Bool)) (hs rs:List Nat) (hk:CallsK C.P f ys F p v F')
  (hb:(entersB C.P f&&((oneX c0 d).isSome&&(rowsIn c0.st.nr TR rs&&rwIn c0.st.next T hs F.heap)))=true) (hc:frameOf (atX c0 d)=some (f,ys,fragOf F)) (hh:hsrs (atX c0 d)=(hs,rs)) (hpi:getP pi d.st.pers=some (askP C.w0.heap.size C.S pi F.pers))
  (hu:∀ x,(noKeyDup (F' x).heap&&(ngB (v x)&&(afterOp (atX c0 d) (d.st.bringK hs rs 0 (fun _=>False) (F' x)) ((v x).bring (newHs hs d.st.next (F' x).next) d.st.nr)).isSome))=true)
  (k:∀ x,p x→VX C T TR L c0 (callZ C.w0.heap.size C.S c0 d hs rs (F' x) (v x))):VX C T TR L c0 d:=by
 refine VX.callR pi hk (by rw [hh]; exact hb) hc hpi (fun x=>?_) (fun x hx=>?_)
 ·unfold okK; rw [hh]; exact hu x
 ·have h1:=k x hx;unfold callZ at h1;unfold callX behindK;rw [hh];exact h1
end
end Go.SX
end
section
namespace Go.Proofs
open Go Go.SX
set_option maxRecDepth 10000
def rdFind (w:List UInt8):Option Nat:=((List.range 38).map (· + 1)).find? fun o=>opName o==w
theorem rdFind_some {o:Nat} (ho:isOp o=true):rdFind (opName o)=some o:=by
 have:=all_ops (p:=fun o=>rdFind (opName o)==some o) kq ho;exact eq_of_beq this
theorem rdFind_none {w:List UInt8} (h:∀ o,isOp o=true→opName o≠w):rdFind w=none:=by
 unfold rdFind;rw [List.find?_eq_none];intro o ho;obtain ⟨i,hi,rfl⟩:=List.mem_map.1 ho;have:=h (i+1) ((isOp_iff _).2 ⟨by omega,by have:=List.mem_range.1 hi; omega⟩);simpa using this
def prsL:List Fl→List (List UInt8)→In→Option In
 | [],_,x=>some x
 | f::l,ws,x=>if (f.prs (ws.getD 0 []) x).1=true then prsL l (ws.drop 1) (f.prs (ws.getD 0 []) x).2 else none
def cReadS (ws:List (List UInt8)):Option In:=match rdFind (ws.getD 0 []) with
 | none=>none
 | some o=>if ws.length=(opFls o).length+1 then (match prsL (opFls o) (ws.drop 1) (emptyI (o:Int)) with
  | some x=>if cFine x=true then some x else none
  | none=>none) else none
def rdP (ws:List (List UInt8)) (y:In×IA×Bool):Prop:=match cReadS ws with
 | some x=>y.1=x∧y.2.2=true
 | none=>y.2.2=false
def rdV (y:In×IA×Bool):RV:=.tup [.agg (inV y.1 y.2.1),.one (.sb y.2.2)]
theorem leftOf_push_lt {es:Array MapEntry} {seen:Array Nat} {e:MapEntry} (he:e∈(leftOf es seen).toList):(leftOf es (seen.push e.born)).size<(leftOf es seen).size:=by
 have h1:(leftOf es (seen.push e.born)).toList=(leftOf es seen).toList.filter fun x=>!(x.born==e.born):=by
  unfold leftOf;simp only [Array.toList_filter,List.filter_filter];apply List.filter_congr;intro x _;simp only [Array.contains_push];cases h:(x.born==e.born)<;>cases h2:seen.contains x.born<;>simp_all
 have h2:(leftOf es (seen.push e.born)).toList.length<(leftOf es seen).toList.length:=by
  rw [h1];exact List.length_filter_lt_length_iff_exists.2 ⟨e,he,by simp⟩
 simpa using h2
theorem left_in' {es:Array MapEntry} {seen:Array Nat} {e:MapEntry} (h:e∈(leftOf es seen).toList):e∈es.toList:=by
 unfold leftOf at h;simp only [Array.toList_filter,List.mem_filter] at h;exact h.1
theorem left_all {es:Array MapEntry} {seen:Array Nat} (h:(leftOf es seen).size=0) {e:MapEntry} (he:e∈es.toList):seen.contains e.born=true:=by
 have h3:leftOf es seen=#[]:=Array.eq_empty_of_size_eq_zero h;unfold leftOf at h3;rw [Array.filter_eq_empty_iff] at h3;have h4:=h3 _ (Array.mem_toList_iff.1 he);simpa using h4
theorem nodup_born {l:List MapEntry} (hn:(l.map (·.born)).Nodup) {a b:MapEntry} (ha:a∈l) (hb:b∈l) (h:a.born=b.born):a=b:=by
 induction l with
 | nil=>cases ha
 | cons x l ih =>
  rw [List.map_cons,List.nodup_cons] at hn;rcases List.mem_cons.1 ha with h1 | h1<;>rcases List.mem_cons.1 hb with h2 | h2
  ·rw [h1,h2]
  ·exact absurd (List.mem_map.2 ⟨b,h2,by rw [← h,h1]⟩) hn.1
  ·exact absurd (List.mem_map.2 ⟨a,h1,by rw [h,h2]⟩) hn.1
  ·exact ih hn.2 h1 h2
theorem esL_mem {q:Nat→Nat} {o:Nat}:∀ {l:List Nat} {i:Nat},o∈l→∃ k,({ key:=.int .i64 (o:Int),val:=wordV o (q o),born:=k }:MapEntry)∈esL q i l
 | x::l,i,h=>by
  rcases List.mem_cons.1 h with rfl | h
  ·exact ⟨i,List.mem_cons_self ..⟩
  ·obtain ⟨k,hk⟩:=esL_mem (q:=q) (i:=i+1) h;exact ⟨k,List.mem_cons_of_mem _ hk⟩
theorem prsL_cons (f:Fl) (l:List Fl) (ws:List (List UInt8)) (x:In):prsL (f::l) ws x=if (f.prs (ws.getD 0 []) x).1=true then prsL l (ws.drop 1) (f.prs (ws.getD 0 []) x).2 else none:=rfl
def zeroI:In:=⟨0,0,0,0,ty0,ty0,ty0,0,0,0,0,[],[],[],[],false,false⟩
def rdSt (K:Kc) (ws:List (List UInt8)) (q:Option Addr) (c it:Nat) (seen:Array Nat):St :=
 { n:=69,slots:=[(2,.v (.one (.ptr 0 0))),(4,.v (.one (.ptr 1 0))),(6,.v (.one (.row 0 q ws.length c))),(18,.v (.one (.val (.pointer (some ⟨it,0,none⟩)))))],gs:=[],
    heap:=[(0,⟨[.val (.map (some K.gF)),.val (.map (some K.gO))],110,true⟩),(1,⟨inZ,30,true⟩)],next:=2,
    rows:=[(0,rowL strS [] ws q c 9 1 true),(1,objRow it (.mapIter (some K.gO) K.ckO seen K.ckO))],nr:=2,pers:=[cdP K,glbP],wr:=true,fx:=0 }
structure RI where
 x:In
 A:IA
 i:Nat
def rpSt (K:Kc) (ws:List (List UInt8)) (qw:Option Addr) (cw:Nat) (o:Nat) (q:Option Addr) (c:Nat) (j:RI):St :=
 { n:=69,slots:=[(2,.v (.one (.ptr 0 0))),(4,.v (.one (.ptr 1 0))),(6,.v (.one (.row 3 qw ws.length cw))),(9,.v (.one (.ptr 2 0))),(46,.v (.one (.row 4 q (opFls o).length c))),(47,.v (.one (.int .i64 (opFls o).length))),(48,.v (.one (.int .i64 j.i)))],gs:=[],
    heap:=[(0,⟨[.val (.map (some K.gF)),.val (.map (some K.gO))],110,true⟩),(1,⟨inZ,30,true⟩),(2,⟨inO j.x j.A,30,true⟩)],next:=3,
    rows:=[(0,rowL Fm.cells fm0 j.x.f j.A.qf j.A.cf 93 4 true),(1,rowL intv 0 j.x.l j.A.ql j.A.cl 3 1 true),(2,rowL Ty.cells ty0 j.x.y j.A.qy j.A.cy 23 5 true),(3,rowL strS [] ws qw cw 9 1 true),(4,rowL (fun f=>f.cells (K.a f)) .D (opFls o) q c 165 6 true)],nr:=5,pers:=[cdP K,glbP],wr:=true,fx:=0 }
theorem psLs_len:∀ (ps:List (List UInt8)) (l:List Int),l.length≤16→(psLs l ps).1.length≤16
 | [],l,h=>h
 | p::ps,l,h=>by
  unfold psLs;split
  ·exact h
  ·rename_i hn;refine psLs_len ps _ ?_;simp at hn;rw [List.length_append,List.length_singleton];omega
def In.okS (x:In):Prop:=x.f.length≤16∧x.l.length≤16∧x.y.length≤16
theorem psG_len {α:Type} (B:List UInt8→Bool) (N:List UInt8→α):∀ (ps:List (List UInt8)) (l:List α),l.length≤16→(psG B N l ps).1.length≤16
 | [],l,h=>h
 | p::ps,l,h=>by
  unfold psG;split
  ·exact h
  ·rename_i hn;refine psG_len B N ps _ ?_;simp at hn;rw [List.length_append,List.length_singleton];omega
theorem prs_okS (f:Fl) (l:List UInt8) (x:In) (h:x.okS):(f.prs l x).2.okS:=by
 cases f
 case L=>exact ⟨h.1,psLs_len _ _ h.2.1,h.2.2⟩
 case Y=>exact ⟨h.1,h.2.1,psG_len _ _ _ _ h.2.2⟩
 case F=>exact ⟨psG_len _ _ _ _ h.1,h.2.1,h.2.2⟩
 all_goals exact h
theorem In.okS.okL {x:In} (h:x.okS):x.okL:=⟨Nat.le_trans h.1 (by decide),Nat.le_trans h.2.1 (by decide),Nat.le_trans h.2.2 (by decide)⟩
def skipU:Nat→List Item→List Item
 | 0,k=>k
 | n+1,k=>match k with
  | .code (.seq a b)::k=>skipU n (.code a::.code b::k)
  | .code (.block id body)::k=>skipU n (.code body::.inBlock id::k)
  | .code (.scope body)::k=>skipU n (.code body::.inScope body::k)
  | .code (.region _ _ _)::k=>skipU n k
  | .code (.cond _ _ _)::k=>skipU n k
  | .code .skip::k=>skipU n k
  | .code (.label _)::k=>skipU n k
  | .inBlock _::k=>skipU n k
  | .inScope _::k=>skipU n k
  | .code (.loop b)::k=>.code b::.inLoop b::k
  | k=>k
noncomputable def readT:List Item:=skipU 100 (skipU 100 [.code (bodyOf Tryz.f64)])
theorem rdP_none {ws:List (List UInt8)} {o:Nat} (hcs:cReadS ws=(match prsL (opFls o) (ws.drop 1) (emptyI (o:Int)) with | some x=>if cFine x=true then some x else none | none=>none)) (h:prsL (opFls o) (ws.drop 1) (emptyI (o:Int))=none) {x:In} {A:IA}:rdP ws (x,A,false):=by
 unfold rdP;rw [hcs,h]
theorem rdP_some {ws:List (List UInt8)} {o:Nat} (hcs:cReadS ws=(match prsL (opFls o) (ws.drop 1) (emptyI (o:Int)) with | some x=>if cFine x=true then some x else none | none=>none)) {x:In} {A:IA} (h:prsL (opFls o) (ws.drop 1) (emptyI (o:Int))=some x):rdP ws (x,A,cFine x):=by
 unfold rdP;rw [hcs,h];simp only;cases hc:cFine x with
 | true=>exact ⟨rfl,rfl⟩
 | false=>rfl
set_option maxHeartbeats 1000000 in
theorem cRead_loop (K:Kc) (hK:K.ok) (ws:List (List UInt8)) (hm:ws.length≤2000000) (o:Nat) (hisop:isOp o=true) (hln':ws.length=(opFls o).length+1)
  (hcs:cReadS ws=(match prsL (opFls o) (ws.drop 1) (emptyI (o:Int)) with | some x=>if cFine x=true then some x else none | none=>none))
  (hpk:∀ i,i<(opFls o).length→((opFls o).getD i .D).pok (ws.getD (i+1) [])=true) (ρ:Nat→Nat) (w:World) (qw:Option Addr) (cw:Nat) (q:Option Addr) (c:Nat) (j0:RI)
  (hj0:j0.i≤(opFls o).length∧j0.x.okS∧prsL ((opFls o).drop j0.i) (ws.drop (j0.i+1)) j0.x=prsL (opFls o) (ws.drop 1) (emptyI (o:Int))) :
  V ⟨Tryz.prog,64,GivesK ρ (stP [cdP K,glbP]) (rdP ws) rdV (fun y=>psOf (lsP y.1 y.2.1)) w,touch ρ (stP [cdP K,glbP]),w,ρ,none⟩ ⟨readT,rpSt K ws qw cw o q c j0⟩:=by
 have hfl:(opFls o).length≤7:=by
  have:=all_ops (p:=fun o=>decide ((opFls o).length≤7)) kq hisop;simpa using this
 refine V.loopTo (c:=⟨readT,rpSt K ws qw cw o q c j0⟩) [2,4,6,9,46,47,48] [0,1,2] [0,1,2,3,4] [true,true] (fun j:RI=>(opFls o).length - j.i) (rpSt K ws qw cw o q c) (fun j=>j.i≤(opFls o).length∧j.x.okS∧prsL ((opFls o).drop j.i) (ws.drop (j.i+1)) j.x=prsL (opFls o) (ws.drop 1) (emptyI (o:Int))) j0 kq hj0 (fun j hj ih=>?_);obtain ⟨x,A,i⟩:=j;obtain ⟨hi,hxs,hprs⟩:=hj;simp only at hi hxs hprs;refine V.q ?_;refine V.bn 49 (decide ((i:Int)<(opFls o).length)) (fun hb=>?_) (fun hb=>?_)
 ·have hlt2:i<(opFls o).length:=by simpa using hb
  obtain ⟨f,hf⟩:∃ f,(opFls o).getD i .D=f:=⟨_,rfl⟩;have hw1:IntKind.i64.wrap ((i:Int)+1)=((i+1:Nat):Int):=wrap_up (by omega);obtain ⟨wd,hwd⟩:∃ wd,ws.getD (IntKind.i64.wrap ((i:Int)+1)).toNat []=wd:=⟨_,rfl⟩;have hwd2:ws.getD (i+1) []=wd:=by rw [← hwd,hw1]; rfl
  have hok1:=hpk i hlt2;rw [hf,hwd2] at hok1;have hnext:prsL ((opFls o).drop i) (ws.drop (i+1)) x=if (f.prs wd x).1=true then prsL ((opFls o).drop (i+1)) (ws.drop (i+1+1)) (f.prs wd x).2 else none:=by
   rw [List.drop_eq_getElem_cons hlt2];rw [List.getD,List.getElem?_eq_getElem hlt2] at hf;simp only [Option.getD_some] at hf;rw [hf,prsL_cons];rw [show (ws.drop (i+1)).getD 0 []=wd by rw [← hwd2]; simp [List.getD],List.drop_drop]
  refine V.t [] [(0:Int)≤i∧(i:Int)<(opFls o).length] ⟨by omega,by omega⟩ ?_;refine V.cellAs 3 5 ⟨Fl.cells ((opFls o).getD i .D) (K.a ((opFls o).getD i .D)),165,true⟩ (cloV ((opFls o).getD i .D).ids.2.2.2.2.2 (K.a ((opFls o).getD i .D)) ((opFls o).getD i .D).caps.2.2.2.2.2) (cloV f.ids.2.2.2.2.2 (K.a f) f.caps.2.2.2.2.2) kq rfl kq (fun _=>by rw [hf]) ?_;refine V.drawX [2] [0,1,2] 9 kq ?_;refine @VX.run _ [2] [0,1,2] 9 _ _ ([]:List (Ent Tryz.prog)) [(0:Int)≤IntKind.i64.wrap ((i:Int)+1)∧IntKind.i64.wrap ((i:Int)+1)<((ws.length:Nat):Int)] kq kq ⟨by rw [hw1]; omega,by rw [hw1]; omega⟩ ?_;have hok2:f.pok (ws.getD (IntKind.i64.wrap ((i:Int)+1)).toNat [])=true:=by rw [hwd]; exact hok1
  refine @VX.callL _ [2] [0,1,2] 9 _ _ (In×IA) f.ids.2.2.2.2.2 (.one (.str (ws.getD (IntKind.i64.wrap ((i:Int)+1)).toNat []))::.one (.ptr 0 0)::absV (K.a f) f.caps.2.2.2.2.2) (psF (cdP K::glbP::[]) x A) (prP f (ws.getD (IntKind.i64.wrap ((i:Int)+1)).toNat []) x) (fun _=>.v (.one (.sb (f.prs (ws.getD (IntKind.i64.wrap ((i:Int)+1)).toNat []) x).1))) (fun y=>psF [] y.1 y.2) [(0,false),(1,false)] [2] [0,1,2] (flParse f K hK.1 (ws.getD (IntKind.i64.wrap ((i:Int)+1)).toNat []) x A hxs.okL hok2)
   (by clear hf hok1 hok2 hnext; cases f<;>kernel_rfl) (by clear hf hok1 hok2 hnext; cases f<;>kernel_rfl) (by clear hf hok1 hok2 hnext; cases f<;>kernel_rfl) kq (fun _=>kq) (fun y hy=>?_)
  refine @VX.run _ [2] [0,1,2] 9 _ _ ([]:List (Ent Tryz.prog)) [] kq kq trivial ?_;refine @VX.stop _ [2] [0,1,2] 9 _ _ kq ?_;refine V.q ?_;refine V.bn 61 (!(f.prs (ws.getD (IntKind.i64.wrap ((i:Int)+1)).toNat []) x).1) (fun hff=>?_) (fun hff=>?_)
  ·have hno:prsL (opFls o) (ws.drop 1) (emptyI (o:Int))=none:=by
    rw [hwd] at hff;rw [← hprs,hnext,if_neg (by simpa using hff)]
   refine V.freeze 5 (rowL Fm.cells fm0 y.1.f y.2.qf y.2.cf 93 4 true) kq kq ?_;refine V.freeze 6 (rowL intv 0 y.1.l y.2.ql y.2.cl 3 1 true) kq kq ?_;refine V.freeze 7 (rowL Ty.cells ty0 y.1.y y.2.qy y.2.cy 23 5 true) kq kq ?_;refine V.q ?_;refine V.sb 5 false ?_;exact V.e ((y.1,y.2,false):In×IA×Bool) [(2,true),(1,true),(0,true)] (rdP_none hcs hno)
  ·have hff':(f.prs (ws.getD (IntKind.i64.wrap ((i:Int)+1)).toNat []) x).1=true:=by simpa using hff
   have hyx:=hy hff';refine V.q ?_;refine V.s 48 (.one (.int .i64 (IntKind.i64.wrap ((i:Int)+1)))) (.one (.int .i64 ((i+1:Nat):Int))) (fun _=>by rw [hw1]) ?_;refine V.iter ?_;refine V.back [2,4,6,9,46,47,48] [0,1,2] [5,6,7,3,4] [true,true] (ih ⟨y.1,y.2,i+1⟩ ⟨hlt2,by rw [hyx]; exact prs_okS f _ x hxs,?_⟩ (by simp only; omega)) kq kq;simp only;rw [hyx,← hprs,hnext,hwd,if_pos (by rw [← hwd]; exact hff')]
 ·have hle:(opFls o).length=i:=by
   have:¬ i<(opFls o).length:=by simpa using hb
   omega
  have hxx:prsL (opFls o) (ws.drop 1) (emptyI (o:Int))=some x:=by
   rw [← hprs,← hle,List.drop_length];rfl
  refine V.q ?_;refine V.freeze 0 (rowL Fm.cells fm0 x.f A.qf A.cf 93 4 true) kq kq ?_;refine V.freeze 1 (rowL intv 0 x.l A.ql A.cl 3 1 true) kq kq ?_;refine V.freeze 2 (rowL Ty.cells ty0 x.y A.qy A.cy 23 5 true) kq kq ?_;refine V.drawX [1] [] 6 kq ?_;refine @VX.run _ [1] [] 6 _ _ ([]:List (Ent Tryz.prog)) [] kq kq trivial ?_;refine @VX.callK _ [1] [] 6 _ _ Unit 59 [.agg [.val (.map (some K.gF)),.val (.map (some K.gO))],.agg (inV x A)] (stP (cdP K::lsP x A)) _ _ _ [(3,false),(2,true),(1,true),(0,true)] (cFineK K hK x A hxs.okL) kq kq kq (fun _=>kq) (fun _ _=>?_);refine @VX.run _ [1] [] 6 _ _ ([]:List (Ent Tryz.prog)) [] kq kq trivial ?_;refine @VX.store _ [1] [] 6 _ _ 4 kq kq kq ?_;refine @VX.run _ [1] [] 6 _ _ ([]:List (Ent Tryz.prog)) [] kq kq trivial ?_;refine @VX.stop _ [1] [] 6 _ _ kq ?_;refine V.q ?_;exact V.e ((x,A,cFine x):In×IA×Bool) [(2,true),(1,true),(0,true)] (rdP_some hcs hxx)
set_option maxHeartbeats 1000000 in
theorem cRead (K:Kc) (hK:K.ok) (s:List UInt8) (ws:List (List UInt8)) (hws:splS s [32]=ws) (hs:s.length<4294967281) (hn:ws.length=Lib.countB ⟨s.toArray⟩ ⟨[32].toArray⟩+1) (hm:ws.length≤2000000)
  (hpok:∀ o,rdFind (ws.getD 0 [])=some o→ws.length=(opFls o).length+1→∀ i,i<(opFls o).length→((opFls o).getD i .D).pok (ws.getD (i+1) [])=true) :
  CallsK Tryz.prog 64 [.agg [.val (.map (some K.gF)),.val (.map (some K.gO))],.one (.str s)] (stP [cdP K,glbP]) (rdP ws) rdV (fun y=>psOf (lsP y.1 y.2.1)):=by
 obtain ⟨hK12,hKF,done,hd1,hd2,hd3,hd4⟩:=id hK;have hsp:=cSplit s [32] hs (by decide) (by rw [hws]; exact hn) (by rw [hws]; omega);rw [hws] at hsp;have hborn:∀ e∈K.esO.toList,e.born<K.ckO:=fun e he=>by
  rw [hd3] at he;obtain ⟨o,_,_,_,_,h5⟩:=esL_key he;rw [hd4]; omega
 have hnodup:(K.esO.toList.map (·.born)).Nodup:=by
  rw [hd3,esL_born];simp only [Nat.zero_add,List.map_id'];exact List.nodup_range
 refine CallsK.m true Tryz.func64 (fun ρ w=>?_);refine V.q ?_;refine V.c [(1,false)] hsp (fun gw _=>?_);refine V.q ?_;refine V.range 108 3 118 K.gO K.esO K.ckO kq kq (fun ρ a w hS=>(cd_heap hS (List.mem_of_getElem? (i:=0) kq)).2) (fun _=>kq) (fun it=>?_);refine V.q ?_;refine V.iter ?_;refine V.loopTo [2,4,6,18] [0,1] [0,1] [true,true] (fun seen:Array Nat=>(leftOf K.esO seen).size) (rdSt K ws (some ⟨gw,0,none⟩) ws.length it) (fun seen=>∀ e∈K.esO.toList,seen.contains e.born=true→∀ o:Nat,e.key=.int .i64 (o:Int)→opName o≠ws.getD 0 []) #[] kq (fun e he h=>by simp at h) (fun seen hseen ih=>?_);refine V.q ?_;refine V.next it 1 K.gO K.ckO K.ckO K.ckO seen K.esO kq kq (fun ρ a w hS=>(cd_heap hS (List.mem_of_getElem? (i:=0) kq)).2) hborn (Nat.le_refl _) kq (fun e he=>kq) (fun hsz=>?_) (fun e he=>?_)
 ·have hnone:cReadS ws=none:=by
   unfold cReadS;rw [rdFind_none (fun o ho he=>?_)];have hod:=(hd2 o).2 ho;obtain ⟨k,hk⟩:=esL_mem (q:=K.q) (i:=0) hod;rw [← hd3] at hk;exact hseen _ hk (left_all hsz hk) o rfl he
  refine V.q ?_;refine V.soft 1 ?_;refine V.persNew [] [] (rowP (rowF zeroI IA0)) kq kq (fun k hk=>absurd hk ((row_none (R:=rowF zeroI IA0) rfl rfl rfl).1 k)) (fun w _=>(row_none (R:=rowF zeroI IA0) rfl rfl rfl).2 w) (rowP_stab _) ?_;refine V.persNew [] [] (rowP (rowI zeroI IA0)) kq kq (fun k hk=>absurd hk ((row_none (R:=rowI zeroI IA0) rfl rfl rfl).1 k)) (fun w _=>(row_none (R:=rowI zeroI IA0) rfl rfl rfl).2 w) (rowP_stab _) ?_;refine V.persNew [] [] (rowP (rowT zeroI IA0)) kq kq (fun k hk=>absurd hk ((row_none (R:=rowT zeroI IA0) rfl rfl rfl).1 k)) (fun w _=>(row_none (R:=rowT zeroI IA0) rfl rfl rfl).2 w) (rowP_stab _) ?_;refine V.sb 5 false ?_;exact V.e ((zeroI,IA0,false):In×IA×Bool) [(2,true),(1,true),(0,true)] (by unfold rdP; rw [hnone])
 ·obtain ⟨o,hod,hkey,hval,_,_⟩:=esL_key (l:=done) (i:=0) (q:=K.q) (by rw [← hd3]; exact left_in' he);have hisop:isOp o=true:=(hd2 o).1 hod;have hlt:=leftOf_push_lt he;have hin:=left_in' he;obtain ⟨ek,ev,eb⟩:=e;simp only at hkey hval hlt;subst hkey hval;refine V.q ?_;refine V.entry it 1 K.gO K.ckO K.ckO seen K.esO _ kq kq (fun ρ a w hS=>(cd_heap hS (List.mem_of_getElem? (i:=0) kq)).2) hin hnodup kq ?_;refine V.pickP 0 K.all (opsP ((List.range 38).map (· + 1)) K.q) kq (List.mem_append_left _ (List.mem_cons_of_mem _ (List.mem_cons_of_mem _ (List.mem_cons_self ..)))) (opsP_stab _ _) ?_;refine V.pickP 0 (((List.range 38).map (· + 1)).map fun o=>rowP (wordRow o (K.q o))) (rowP (wordRow o (K.q o))) kq (List.mem_map.2 ⟨o,List.mem_map.2 ⟨o - 1,List.mem_range.2 (by have:=(isOp_iff o).1 hisop; omega),by have:=(isOp_iff o).1 hisop; omega⟩,rfl⟩) (rowP_stab _) ?_;refine V.q ?_;refine V.ar 8 0 (wordRow o (K.q o)) ?_;refine V.s 7 (.one (.val (.int .i64 (o:Int)))) (.one (.int .i64 (o:Int))) (fun _=>rfl) ?_;refine V.t [] [(0:Int)≤0∧(0:Int)<((opWords o).length:Int),(0:Int)≤0∧(0:Int)<(ws.length:Int)] ⟨⟨by omega,by rw [opWords_len]; omega⟩,by omega,by omega⟩ ?_;refine V.bn 30 (!(opName o==ws.getD 0 [])) (fun hne=>?_) (fun hne=>?_)
  ·have hne':opName o≠ws.getD 0 []:=by simpa using hne
   refine V.q ?_;refine V.iter ?_;refine V.back [2,4,6,18] [0,1] [0,1] [false,false,true,true] (ih (seen.push eb) ?_ hlt) kq kq;intro e he2 hc o' hk';rw [Array.contains_push,Bool.or_eq_true] at hc;rcases hc with hc | hc
   ·exact hseen e he2 hc o' hk'
   ·have hbe:e.born=eb:=by simpa using hc
    have hee:=nodup_born hnodup he2 hin hbe;rw [hee] at hk';simp only [Value.int.injEq,true_and] at hk';rw [← show o=o' by omega];exact hne'
  ·have heq:opName o=ws.getD 0 []:=by simpa using hne
   have hfind:rdFind (ws.getD 0 [])=some o:=by rw [← heq]; exact rdFind_some hisop
   have hpok':=hpok o hfind;have hcs:cReadS ws=if ws.length=(opFls o).length+1 then (match prsL (opFls o) (ws.drop 1) (emptyI (o:Int)) with
     | some x=>if cFine x=true then some x else none
     | none=>none) else none:=by unfold cReadS; rw [hfind]
   clear ih hseen;have hfl:(opFls o).length≤7:=by
    have:=all_ops (p:=fun o=>decide ((opFls o).length≤7)) kq hisop;simpa using this
   refine V.t T5f [] trivial ?_;refine V.c [(2,false)] (cOf K hK o hisop) (fun qc _=>?_);refine V.soft 2 ?_;refine V.nilB Fm.cells fm0 2 24 ⟨inC (emptyI (o:Int)) (.val (.slice none 0 0)) (.val (.slice none 0 0)) (.val (.slice none 0 0)),30,true⟩ 93 4 kq rfl ?_;refine V.nilB intv 0 2 25 ⟨inC (emptyI (o:Int)) (.row 4 none 0 0) (.val (.slice none 0 0)) (.val (.slice none 0 0)),30,true⟩ 3 1 kq rfl ?_;refine V.nilB Ty.cells ty0 2 26 ⟨inC (emptyI (o:Int)) (.row 4 none 0 0) (.row 5 none 0 0) (.val (.slice none 0 0)),30,true⟩ 23 5 kq rfl ?_;refine V.q ?_;have hwl:IntKind.i64.wrap (((opFls o).length:Int)+1)=(((opFls o).length+1:Nat):Int):=wrap_up (by omega);refine V.bn 44 (((ws.length:Nat):Int) != IntKind.i64.wrap (((opFls o).length:Int)+1)) (fun hln=>?_) (fun hln=>?_)
   ·have hln':ws.length≠(opFls o).length+1:=by
     rw [hwl] at hln;intro e;rw [e] at hln;simp at hln
    refine V.freeze 4 (rowL Fm.cells fm0 [] none 0 93 4 true) kq kq ?_;refine V.freeze 5 (rowL intv 0 [] none 0 3 1 true) kq kq ?_;refine V.freeze 6 (rowL Ty.cells ty0 [] none 0 23 5 true) kq kq ?_;refine V.q ?_;refine V.sb 5 false ?_;exact V.e ((emptyI (o:Int),IA0,false):In×IA×Bool) [(2,true),(1,true),(0,true)] (by unfold rdP; rw [hcs,if_neg hln'])
   ·have hln':ws.length=(opFls o).length+1:=by
     rw [hwl] at hln;simp at hln;omega
    rw [if_pos hln'] at hcs;have hpk:=hpok' hln';refine V.q ?_;refine V.iter ?_;exact V.backK [2,4,6,9,46,47,48] [false,false,true,true] (cRead_loop K hK ws hm o hisop hln' hcs hpk ρ w (some ⟨gw,0,none⟩) ws.length qc.1 qc.2 ⟨emptyI (o:Int),IA0,0⟩ ⟨Nat.zero_le _,⟨Nat.zero_le _,Nat.zero_le _,Nat.zero_le _⟩,rfl⟩) kq kq
def ixV (e:In×IA):List SV:=inV e.1 e.2
def ixD:In×IA:=(zeroI,IA0)
def ixRow (l:List (In×IA)) (q:Option Addr) (c:Nat) (own:Bool):Row:=rowL ixV ixD l q c 30 29 own
def insP (l:List (In×IA)):Pers:=manyP (l.map fun e=>manyP (lsP e.1 e.2))
theorem lsP_stab (x:In) (A:IA):∀ p∈lsP x A,Stab p:=by
 intro p hp;simp only [lsP,List.mem_cons,List.not_mem_nil,or_false] at hp;rcases hp with rfl | rfl | rfl<;>exact rowP_stab _
theorem insP_stab (l:List (In×IA)):Stab (insP l):=manyP_stab fun p hp=>by
 obtain ⟨e,_,rfl⟩:=List.mem_map.1 hp;exact manyP_stab (lsP_stab e.1 e.2)
theorem insP_snoc (l:List (In×IA)) (x:In) (A:IA) :
  (∀ k,(insP (l++[(x,A)])).D k→∃ p∈insP l::lsP x A,p.D k)∧(∀ w,(∀ p∈insP l::lsP x A,p.φ w)→(insP (l++[(x,A)])).φ w):=by
 refine ⟨fun k hk=>?_,fun w hw p hp=>?_⟩
 ·obtain ⟨p,hp,hpk⟩:=hk;rw [List.map_append] at hp;rcases List.mem_append.1 hp with hp | hp
  ·exact ⟨insP l,List.mem_cons_self ..,p,hp,hpk⟩
  ·rw [List.map_singleton,List.mem_singleton] at hp;subst hp;obtain ⟨p',hp',hpk'⟩:=hpk;exact ⟨p',List.mem_cons_of_mem _ hp',hpk'⟩
 ·rw [List.map_append] at hp;rcases List.mem_append.1 hp with hp | hp
  ·exact hw _ (List.mem_cons_self ..) p hp
  ·rw [List.map_singleton,List.mem_singleton] at hp;subst hp;exact fun p' hp'=>hw p' (List.mem_cons_of_mem _ hp')
theorem takeB_mono (X:RIn) (r:RSt):r.at_≤(takeB X r).2.at_:=by
 unfold takeB;split
 ·exact Nat.le_succ _
 ·exact Nat.le_refl _
theorem rdNumL_mono (X:RIn):∀ (k:Nat) (r:RSt) (z m n:Nat),r.at_≤(rdNumL X k r z m n).2.at_
 | 0,r,_,_,_=>Nat.le_refl _
 | k+1,r,z,m,n=>by
  have h1:=takeB_mono X r;simp only [rdNumL];split
  ·exact Nat.le_trans h1 (rdNumL_mono X k _ _ _ _)
  ·split<;>exact h1
theorem rdNum_mono (X:RIn) (r:RSt):r.at_≤(rdNum X r).2.at_:=rdNumL_mono X 6 r 0 1 0
theorem rdStr_mono (X:RIn) (r:RSt):r.at_≤(rdStr X r).2.at_:=by
 have:=rdNum_mono X r;unfold rdStr;simp only;split
 ·exact this
 ·exact Nat.le_trans this (Nat.le_add_right _ _)
theorem rdFlag_mono (X:RIn) (r:RSt):r.at_≤(rdFlag X r).2.at_:=takeB_mono X r
theorem rdTy_mono (X:RIn) (r:RSt):r.at_≤(rdTy X r).2.at_ :=
 Nat.le_trans (rdNum_mono X r) (Nat.le_trans (rdNum_mono X _) (Nat.le_trans (rdNum_mono X _) (Nat.le_trans (rdFlag_mono X _) (rdStr_mono X _))))
theorem rdFm_mono (X:RIn) (r:RSt):r.at_≤(rdFm X r).2.at_ :=
 Nat.le_trans (rdNum_mono X r) (Nat.le_trans (rdNum_mono X _) (Nat.le_trans (rdNum_mono X _) (rdStr_mono X _)))
theorem rdFour_mono (X:RIn) (r:RSt):r.at_≤(rdFour X r).2.at_ :=
 Nat.le_trans (takeB_mono X r) (Nat.le_trans (takeB_mono X _) (Nat.le_trans (takeB_mono X _) (takeB_mono X _)))
theorem rdRel_mono (rl:List (Int×Int)) (v:Int) (r:RSt):r.at_≤(rdRel rl v r).2.at_:=by
 unfold rdRel;split<;>exact Nat.le_refl _
theorem rdPr_mono (no:Bool) (rl:List (Int×Int)) (X:RIn) (r:RSt) (old:Int):r.at_≤(rdPr no rl X r old).2.at_:=by
 have:=rdFour_mono X r;unfold rdPr;split
 ·exact this
 ·split
  ·exact Nat.le_trans this (rdRel_mono rl _ _)
  ·exact this
theorem rdList_mono {α:Type} {g:RSt→α×RSt} (hg:∀ r,r.at_≤(g r).2.at_):∀ (n:Nat) (r:RSt),r.at_≤(rdList g n r).2.at_
 | 0,r=>Nat.le_refl _
 | n+1,r=>Nat.le_trans (hg r) (rdList_mono hg n _)
theorem rdLst_mono {α:Type} {X:RIn} {g:RSt→α×RSt} (hg:∀ r,r.at_≤(g r).2.at_) (l:List α) (r:RSt):r.at_≤(rdLst X g l r).2.at_:=by
 have:=rdNum_mono X r;unfold rdLst;split
 ·exact this
 ·exact Nat.le_trans this (rdList_mono hg _ _)
theorem rd_mono (f:Fl) (rl:List (Int×Int)) (X:RIn) (r:RSt) (x:In):r.at_≤(f.rd rl X r x).1.at_:=by
 cases f
 case D=>exact rdNum_mono X r
 case A=>exact rdNum_mono X r
 case B=>exact rdNum_mono X r
 case N=>exact rdNum_mono X r
 case M=>exact rdNum_mono X r
 case P=>exact rdNum_mono X r
 case T=>exact rdTy_mono X r
 case U=>exact rdTy_mono X r
 case W=>exact rdTy_mono X r
 case V=>exact Nat.le_trans (rdNum_mono X r) (rdStr_mono X _)
 case L=>exact rdLst_mono (g:=gI X) (fun r=>rdNum_mono X r) x.l r
 case Y=>exact rdLst_mono (g:=rdTy X) (rdTy_mono X) x.y r
 case F=>exact rdLst_mono (g:=rdFm X) (rdFm_mono X) x.f r
 case Sz=>exact rdFlag_mono X r
 case Rg=>exact rdFlag_mono X r
 case aN=>exact rdFour_mono X r
 case aM=>exact rdFour_mono X r
 case pN=>exact rdPr_mono _ _ _ _ _
 case pM=>exact rdPr_mono _ _ _ _ _
 case far=>exact Nat.le_trans (rdRel_mono rl _ r) (rdFour_mono X _)
theorem rdL_keep (rl:List (Int×Int)) (X:RIn):∀ (l:List Fl) (s:RSt×In),okIn X s.1→s.1.at_≤(rdL rl X l s).1.at_∧okIn X (rdL rl X l s).1
 | [],s,h=>⟨Nat.le_refl _,h⟩
 | f::l,s,h=>by
  have e:rdL rl X (f::l) s=rdL rl X l (if s.1.bad=true then s else f.rd rl X s.1 s.2):=rfl;rw [e];split
  ·exact rdL_keep rl X l s h
  ·have:=rdL_keep rl X l (f.rd rl X s.1 s.2) (rd_ok f h).1;exact ⟨Nat.le_trans (rd_mono f rl X s.1 s.2) this.1,this.2⟩
theorem cDecR_next (rl:List (Int×Int)) (X:RIn) (n:Nat) (hok:okIn X ⟨n,false⟩) (h:n<X.s.length):n<(cDecR rl X n).1.at_∧okIn X (cDecR rl X n).1:=by
 have h1:(takeB X ⟨n,false⟩).2.at_=n+1:=by unfold takeB; rw [if_pos h]
 have:=rdL_keep rl X ((opFind ((takeB X ⟨n,false⟩).1.toNat:Int)).getD []) ((takeB X ⟨n,false⟩).2,emptyI ((takeB X ⟨n,false⟩).1.toNat:Int)) (takeB_ok hok);simp only [h1] at this;exact ⟨this.1,this.2⟩
def tkS (rl:List (Int×Int)) (X:RIn):Nat→Nat→Option (List In×List Int)
 | 0,_=>none
 | k+1,n=>if n<X.s.length then (if cDecOk rl X n=true then (tkS rl X k (cDecR rl X n).1.at_).map (fun s=>((cDecR rl X n).2::s.1,((cDecR rl X n).1.at_:Int)::s.2)) else none) else some ([],[])
def takenS (rl:List (Int×Int)) (X:RIn):Option (List In×List Int):=(tkS rl X (X.s.length+1) 0).map fun s=>(s.1,0::s.2)
structure TK where
 l:List (In×IA)
 q:Option Addr
 c:Nat
 p:List Int
 q':Option Addr
 c':Nat
def tkV (t:Option TK):RV:=match t with
 | none=>.tup [.one (.val (.slice none 0 0)),.one (.val (.slice none 0 0)),.one (.sb false)]
 | some t=>.tup [.one (.row 0 t.q t.l.length t.c),.one (.row 1 t.q' t.p.length t.c'),.one (.sb true)]
def tkF (t:Option TK):St:=match t with
 | none=>noF
 | some t=>{ noF with rows:=[(0,ixRow t.l t.q t.c true),(1,rowL intv 0 t.p t.q' t.c' 3 1 true)],nr:=2,pers:=[insP t.l] }
def tkP (r:Option (List In×List Int)) (t:Option TK):Prop:=match r with
 | none=>t=none
 | some s=>∃ t',t=some t'∧t'.l.map (·.1)=s.1∧t'.p=s.2
theorem tkS_succ (rl:List (Int×Int)) (X:RIn) (k n:Nat):tkS rl X (k+1) n=if n<X.s.length then (if cDecOk rl X n=true then (tkS rl X k (cDecR rl X n).1.at_).map (fun s=>((cDecR rl X n).2::s.1,((cDecR rl X n).1.at_:Int)::s.2)) else none) else some ([],[]):=rfl
theorem tk_fail {rl:List (Int×Int)} {X:RIn} {n k:Nat} {a:List In} {p:List Int} (hk:X.s.length<n+k) (hlt:n<X.s.length) (hT:takenS rl X=(tkS rl X k n).map fun s=>(a++s.1,p++s.2)) (hf:cDecOk rl X n=false):tkP (takenS rl X) none:=by
 cases k with
 | zero=>omega
 | succ k =>
  rw [hT,tkS_succ,if_pos hlt,if_neg (by rw [hf]; decide)];rfl
theorem tk_next {rl:List (Int×Int)} {X:RIn} {n k:Nat} {l:List (In×IA)} {p:List Int} {y:In×IA} (hk:X.s.length<n+k) (hlt:n<X.s.length) (hT:takenS rl X=(tkS rl X k n).map fun s=>(l.map (·.1)++s.1,p++s.2)) (hf:cDecOk rl X n=true) (hy:y.1=(cDecR rl X n).2) :
  takenS rl X=(tkS rl X (k - 1) (cDecR rl X n).1.at_).map fun s=>((l++[y]).map (·.1)++s.1,(p++[((cDecR rl X n).1.at_:Int)])++s.2):=by
 cases k with
 | zero=>omega
 | succ k =>
  rw [hT,tkS_succ,if_pos hlt,if_pos hf,Option.map_map,Nat.add_sub_cancel];congr 1;funext s;simp [hy]
theorem tk_end {rl:List (Int×Int)} {X:RIn} {n k:Nat} {t:TK} (hk:X.s.length<n+k) (hn:n≤X.s.length) (hge:¬ n<X.s.length) (hT:takenS rl X=(tkS rl X k n).map fun s=>(t.l.map (·.1)++s.1,t.p++s.2)):tkP (takenS rl X) (some t):=by
 cases k with
 | zero=>omega
 | succ k =>
  rw [hT,tkS_succ,if_neg hge];exact ⟨t,rfl,by simp,by simp⟩
structure TI where
 t:TK
 n:Nat
 k:Nat
def tkSt (K:Kc) (rl:List (Int×Int)) (X:RIn) (pr rg:Int) (n0:Nat) (S:Nat→Prop) (j:TI):St :=
 { n:=43,slots:=[(2,.v (.one (.ptr 0 0))),(3,.v (.one (.ptr 1 0))),(7,.v (.one (.row 0 j.t.q j.t.l.length j.t.c))),(8,.v (.one (.row 1 j.t.q' j.t.p.length j.t.c'))),(9,.v (.one (.int .i64 (j.n:Int))))],gs:=[],
    heap:=[(0,⟨[.val (.map (some K.gF)),.val (.map (some K.gO))],110,true⟩),(1,⟨[.int .i64 pr,.int .i64 rg,.str X.s,.val (.slice X.q X.n X.c)],49,true⟩)],next:=2,
    rows:=[(0,ixRow j.t.l j.t.q j.t.c true),(1,rowL intv 0 j.t.p j.t.q' j.t.c' 3 1 true)],nr:=2,pers:=[newP n0 S (insP j.t.l),cdP K,rowP (relRow rl X.q X.c)],wr:=true,fx:=0 }
theorem intv_len (x:Int):(intv x).length=1:=rfl
theorem intv_plain (x:Int):∀ y∈intv x,y.plain:=by
 intro y hy;rw [List.mem_singleton.1 hy];trivial
set_option maxHeartbeats 1000000 in
theorem cTaken (K:Kc) (hK:K.ok) (rl:List (Int×Int)) (X:RIn) (hX:X.n=rl.length) (hl:rl.length≤1000000000) (hs:X.s.length≤100000000) (pr rg:Int) :
  CallsK Tryz.prog 135 [.agg [.val (.map (some K.gF)),.val (.map (some K.gO))],.agg [.int .i64 pr,.int .i64 rg,.str X.s,.val (.slice X.q X.n X.c)]] (psOf [cdP K,rowP (relRow rl X.q X.c)]) (tkP (takenS rl X)) tkV tkF:=by
 refine CallsK.m true Tryz.func135 (fun ρ w=>?_);refine V.q ?_;refine V.rowB intv 0 [0] 3 1 2 kq intv_len intv_plain (by decide) (fun g=>kq) (fun g=>?_);refine V.slotRow 8 0 (rowL intv 0 [0] (some ⟨g,0,none⟩) 1 3 1 true) kq kq kq ?_;refine V.nilL ixV ixD 7 30 29 kq kq ?_;refine V.persNew [] [] (insP []) kq kq (fun k hk=>by obtain ⟨q,hq,_⟩:=hk; exact absurd hq (List.not_mem_nil)) (fun w hw q hq=>absurd hq (List.not_mem_nil)) (insP_stab _) ?_;refine V.loopK [2,3,7,8,9] [true,true,true] (fun j:TI=>X.s.length - j.n) (tkSt K rl X pr rg w.heap.size (touch ρ (psOf [cdP K,rowP (relRow rl X.q X.c)]))) (fun j=>okIn X ⟨j.n,false⟩∧X.s.length<j.n+j.k∧j.t.l.length≤j.n∧j.t.p.length≤j.n+1∧takenS rl X=(tkS rl X j.k j.n).map fun s=>(j.t.l.map (·.1)++s.1,j.t.p++s.2)) ⟨⟨[],none,0,[0],some ⟨g,0,none⟩,1⟩,0,X.s.length+1⟩ kq
  ⟨⟨by show X.s.length≤_; omega,Nat.zero_le _⟩,by simp only; omega,Nat.zero_le _,Nat.le_refl _,rfl⟩ (fun j hj ih=>?_)
 obtain ⟨⟨l,q,c,p,q',c'⟩,n,k⟩:=j;obtain ⟨hok,hk,hl1,hp1,hT⟩:=hj;simp only at hok hk hl1 hp1 hT;refine V.iter ?_;refine V.q ?_;refine V.bn 18 (decide ((n:Int)<(X.s.length:Int))) (fun hb=>?_) (fun hb=>?_)
 ·have hlt:n<X.s.length:=by simpa using hb
  have hnx:=cDecR_next rl X n hok hlt;refine V.q ?_;refine V.c [(1,false),(2,false)] (cDecode K hK rl X hX hl n hok) (fun y hy=>?_);refine V.q ?_;refine V.bn 31 (!(cDecOk rl X n)) (fun hff=>?_) (fun hff=>?_)
  ·refine V.q ?_;refine V.sb 6 false ?_;exact V.e (none:Option TK) [] (tk_fail hk hlt hT (by simpa using hff))
  ·have hff':cDecOk rl X n=true:=by simpa using hff
   refine V.q ?_;refine V.push ixV ixD l y 0 q c 30 29 (inV y.1 y.2) 304 kq (by have:=hok.2; simp only at this; omega) rfl (fun _ _=>kq) (fun q2 c2=>?_);refine V.q ?_;refine V.push intv 0 p ((cDecR rl X n).1.at_:Int) 1 q' c' 3 1 [.int .i64 ((cDecR rl X n).1.at_:Int)] 8 kq (by have:=hok.2; simp only at this; omega) rfl (fun _ _=>kq) (fun q3 c3=>?_);refine V.q ?_;refine V.persNew [(3,true),(0,true),(1,true),(2,true)] (insP l::lsP y.1 y.2) (insP (l++[(y.1,y.2)])) kq kq (insP_snoc l y.1 y.2).1 (insP_snoc l y.1 y.2).2 (insP_stab _) ?_;refine V.againK [2,3,7,8,9] [true,false,false,false,false,true,true] (ih ⟨⟨l++[y],q2,c2,p++[((cDecR rl X n).1.at_:Int)],q3,c3⟩,(cDecR rl X n).1.at_,k - 1⟩ ⟨⟨hnx.2.1,hnx.2.2⟩,by simp only; omega,by simp only [List.length_append,List.length_singleton]; omega,by simp only [List.length_append,List.length_singleton]; omega,tk_next hk hlt hT hff' hy⟩ (by simp only; omega)) kq kq
 ·have hge:¬ n<X.s.length:=by simpa using hb
  refine V.q ?_;refine V.sb 6 true ?_;exact V.e (some ⟨l,q,c,p,q',c'⟩:Option TK) [(0,true)] (tk_end hk hok.2 hge hT)
end Go.Proofs
end
